import PyProof.Rows.All
import Wide.All
import OpenK.AllK
import Wide.FinOn
import PyProof.EqAt
import PyProof.EqKinds
import PyProof.TupleCall
import Open.SpecLaws
import KE.OsGo
import HandS.ForSpec
import HandS.ForMost
import HandS.TryMany
import HandS.ExcInit
import HandS.ExcField
import HandS.CallLocal
import HandS.Wide
import HandS.Walk
import HandS.Style
import HandS.Deep
import HandS.Conv
import PySem.Challenge.RW_bestdesigns_s01_answers
set_option Elab.async false
set_option linter.all false
namespace Bd
open Kxd5
/-! # Fractions by their value in Rat -/
def val (f : Fraction) : Rat := (f.numerator : Rat) / ((f.denominator : Int) : Rat)
structure Norm (f : Fraction) : Prop where
  pos : 0 < f.denominator
  cop : Int.gcd f.numerator (f.denominator : Int) = 1
theorem rat_ne {d : Int} (h : d ≠ 0) : (d : Rat) ≠ 0 := by
  intro e
  exact h (by exact_mod_cast e)
theorem norm_zero : Norm ⟨0, 1⟩ := ⟨by decide, by decide⟩
theorem norm_ofInt (n : Int) : Norm (ofInt n) := ⟨Nat.one_pos, Int.gcd_one⟩
theorem gcd_div {n d : Int} (h : d ≠ 0) : Int.gcd (n / (Int.gcd n d : Int)) (d / (Int.gcd n d : Int)) = 1 := by
  have hg : 0 < Int.gcd n d := Int.gcd_pos_of_ne_zero_right _ h
  exact Int.gcd_ediv_gcd_ediv_gcd hg
theorem norm_fraction (n d : Int) : Norm (fraction n d) := by
  unfold fraction
  by_cases h : d = 0
  · simp only [h, if_true]; exact norm_zero
  · have hg : 0 < Int.gcd n d := Int.gcd_pos_of_ne_zero_right _ h
    have dv : (Int.gcd n d : Int) ∣ d := Int.gcd_dvd_right ..
    obtain ⟨q, hq⟩ := dv
    have hq' : d / (Int.gcd n d : Int) = q := Int.ediv_eq_of_eq_mul_right (by omega) hq
    have hg' : (0 : Int) < (Int.gcd n d : Int) := by omega
    by_cases hd : d < 0
    · simp only [h, hd, if_false, if_true]
      have qn : q < 0 := by
        rcases Int.lt_or_le q 0 with z | z
        · exact z
        · have := Int.mul_nonneg (Int.le_of_lt hg') z
          omega
      have e1 : -d / (Int.gcd n d : Int) = -q := Int.ediv_eq_of_eq_mul_right (by omega) (by rw [Int.mul_neg, ← hq])
      obtain ⟨a, ha⟩ : (Int.gcd n d : Int) ∣ n := Int.gcd_dvd_left ..
      have e2 : -n / (Int.gcd n d : Int) = -a := Int.ediv_eq_of_eq_mul_right (by omega) (by rw [Int.mul_neg, ← ha])
      have e3 : n / (Int.gcd n d : Int) = a := Int.ediv_eq_of_eq_mul_right (by omega) ha
      have c := gcd_div (n := n) h
      rw [e3, hq'] at c
      refine ⟨?_, ?_⟩
      · show 0 < (-d / (Int.gcd n d : Int)).toNat
        rw [e1]; omega
      · show Int.gcd (-n / (Int.gcd n d : Int)) (((-d / (Int.gcd n d : Int)).toNat : Nat) : Int) = 1
        rw [e1, e2, Int.toNat_of_nonneg (by omega), Int.gcd_neg, Int.neg_gcd]
        exact c
    · simp only [h, hd, if_false]
      have qp : 0 < q := by
        rcases Int.lt_or_le 0 q with z | z
        · exact z
        · have := Int.mul_nonneg (Int.le_of_lt hg') (show 0 ≤ -q by omega)
          rw [Int.mul_neg] at this
          omega
      have c := gcd_div (n := n) h
      rw [hq'] at c
      refine ⟨?_, ?_⟩
      · show 0 < (d / (Int.gcd n d : Int)).toNat
        rw [hq']; omega
      · show Int.gcd (n / (Int.gcd n d : Int)) (((d / (Int.gcd n d : Int)).toNat : Nat) : Int) = 1
        rw [hq', Int.toNat_of_nonneg (by omega)]
        exact c
theorem val_fraction (n d : Int) : val (fraction n d) = (n : Rat) / (d : Rat) := by
  unfold fraction
  by_cases h : d = 0
  · subst h
    simp [val, Rat.div_def]
  · have hg : 0 < Int.gcd n d := Int.gcd_pos_of_ne_zero_right _ h
    have hg' : ((Int.gcd n d : Int) : Rat) ≠ 0 := rat_ne (by omega)
    obtain ⟨q, hq⟩ : (Int.gcd n d : Int) ∣ d := Int.gcd_dvd_right ..
    obtain ⟨a, ha⟩ : (Int.gcd n d : Int) ∣ n := Int.gcd_dvd_left ..
    have hq' : d / (Int.gcd n d : Int) = q := Int.ediv_eq_of_eq_mul_right (by omega) hq
    have e3 : n / (Int.gcd n d : Int) = a := Int.ediv_eq_of_eq_mul_right (by omega) ha
    have hqz : q ≠ 0 := fun e => h (by rw [hq, e, Int.mul_zero])
    have hqr : (q : Rat) ≠ 0 := rat_ne hqz
    have rd : (d : Rat) = ((Int.gcd n d : Int) : Rat) * (q : Rat) := by rw [← Rat.intCast_mul, ← hq]
    have rn : (n : Rat) = ((Int.gcd n d : Int) : Rat) * (a : Rat) := by rw [← Rat.intCast_mul, ← ha]
    by_cases hd : d < 0
    · simp only [h, hd, if_false, if_true, val]
      have e1 : -d / (Int.gcd n d : Int) = -q := Int.ediv_eq_of_eq_mul_right (by omega) (by rw [Int.mul_neg, ← hq])
      have e2 : -n / (Int.gcd n d : Int) = -a := Int.ediv_eq_of_eq_mul_right (by omega) (by rw [Int.mul_neg, ← ha])
      have qn : q < 0 := by
        rcases Int.lt_or_le q 0 with z | z
        · exact z
        · have := Int.mul_nonneg (show (0 : Int) ≤ (Int.gcd n d : Int) by omega) z
          omega
      rw [e1, e2, Int.toNat_of_nonneg (by omega), rd, rn, Rat.intCast_neg, Rat.intCast_neg]
      grind
    · simp only [h, hd, if_false, val]
      have qp : 0 < q := by
        rcases Int.lt_or_le 0 q with z | z
        · exact z
        · have := Int.mul_nonneg (show (0 : Int) ≤ (Int.gcd n d : Int) by omega) (show 0 ≤ -q by omega)
          rw [Int.mul_neg] at this
          omega
      rw [hq', e3, Int.toNat_of_nonneg (by omega), rd, rn]
      grind
theorem Norm.dne {f : Fraction} (h : Norm f) : ((f.denominator : Int) : Rat) ≠ 0 := rat_ne (by have := h.pos; omega)
theorem val_inj {a b : Fraction} (ha : Norm a) (hb : Norm b) (h : val a = val b) : a = b := by
  have h1 := ha.dne
  have h2 := hb.dne
  unfold val at h
  have e : (a.numerator : Rat) * ((b.denominator : Int) : Rat) = (b.numerator : Rat) * ((a.denominator : Int) : Rat) := by grind
  rw [← Rat.intCast_mul, ← Rat.intCast_mul] at e
  have e' : a.numerator * (b.denominator : Int) = b.numerator * (a.denominator : Int) := by exact_mod_cast e
  have c1 := ha.cop
  have c2 := hb.cop
  obtain ⟨n1, d1⟩ := a
  obtain ⟨n2, d2⟩ := b
  have p1 : 0 < d1 := ha.pos
  have p2 : 0 < d2 := hb.pos
  simp only at e' c1 c2
  have v1 : (d1 : Int) ∣ (d2 : Int) := by
    have z : (d1 : Int) ∣ n1 * (d2 : Int) := ⟨n2, by rw [e', Int.mul_comm]⟩
    have z2 := Int.dvd_gcd_mul_iff_dvd_mul.mpr z
    rw [Int.gcd_comm, c1] at z2
    simpa using z2
  have v2 : (d2 : Int) ∣ (d1 : Int) := by
    have z : (d2 : Int) ∣ n2 * (d1 : Int) := ⟨n1, by rw [← e', Int.mul_comm]⟩
    have z2 := Int.dvd_gcd_mul_iff_dvd_mul.mpr z
    rw [Int.gcd_comm, c2] at z2
    simpa using z2
  have ed : d1 = d2 := Nat.dvd_antisymm (Int.natCast_dvd_natCast.mp v1) (Int.natCast_dvd_natCast.mp v2)
  subst ed
  have en : n1 = n2 := Int.eq_of_mul_eq_mul_right (by omega) e'
  rw [en]
theorem val_ofInt (n : Int) : val (ofInt n) = (n : Rat) := by
  show (n : Rat) / ((1 : Int) : Rat) = n
  grind
theorem val_ofNat (n : Nat) : val (ofNat n) = ((n : Int) : Rat) := val_ofInt (n : Int)
theorem val_zero : val ⟨0, 1⟩ = 0 := by simp [val, Rat.div_def]
theorem val_one : val ⟨1, 1⟩ = 1 := by rw [show (⟨1, 1⟩ : Fraction) = ofInt 1 from rfl, val_ofInt]; rfl
theorem val_plus {a b : Fraction} (ha : Norm a) (hb : Norm b) : val (plus a b) = val a + val b := by
  have h1 := ha.dne
  have h2 := hb.dne
  unfold plus
  rw [val_fraction]
  simp only [Rat.intCast_mul, Rat.intCast_add, val]
  grind
theorem norm_plus (a b : Fraction) : Norm (plus a b) := norm_fraction _ _
theorem val_times (a b : Fraction) : val (times a b) = val a * val b := by
  unfold times
  rw [val_fraction]
  simp only [Rat.intCast_mul, val]
  grind
theorem norm_times (a b : Fraction) : Norm (times a b) := norm_fraction _ _
theorem norm_negative {a : Fraction} (ha : Norm a) : Norm (negative a) := ⟨ha.pos, by
  show Int.gcd (-a.numerator) (a.denominator : Int) = 1
  rw [Int.neg_gcd]
  exact ha.cop⟩
theorem val_negative (a : Fraction) : val (negative a) = - val a := by
  unfold negative val
  simp only [Rat.intCast_neg]
  grind
theorem val_minus {a b : Fraction} (ha : Norm a) (hb : Norm b) : val (minus a b) = val a - val b := by
  unfold minus
  rw [val_plus ha (norm_negative hb), val_negative]
  grind
theorem norm_minus (a b : Fraction) : Norm (minus a b) := norm_fraction _ _
theorem val_over {a b : Fraction} (ha : Norm a) (hb : Norm b) : val (over a b) = val a / val b := by
  have h1 := ha.dne
  have h2 := hb.dne
  unfold over
  rw [val_fraction]
  simp only [Rat.intCast_mul, val]
  grind
theorem norm_over (a b : Fraction) : Norm (over a b) := norm_fraction _ _
theorem num_zero {a : Fraction} (ha : Norm a) : a.numerator = 0 ↔ val a = 0 := by
  have h1 := ha.dne
  constructor
  · intro h
    simp [val, h, Rat.div_def]
  · intro h
    unfold val at h
    have : (a.numerator : Rat) = 0 := by grind
    exact_mod_cast this
theorem isLess_iff {a b : Fraction} (ha : Norm a) (hb : Norm b) : isLess a b = true ↔ val a < val b := by
  have p1 : (0 : Rat) < ((a.denominator : Int) : Rat) := by exact_mod_cast ha.pos
  have p2 : (0 : Rat) < ((b.denominator : Int) : Rat) := by exact_mod_cast hb.pos
  unfold isLess val
  rw [decide_eq_true_iff, Rat.div_lt_iff p1]
  have e : (b.numerator : Rat) / ((b.denominator : Int) : Rat) * ((a.denominator : Int) : Rat) = ((b.numerator : Rat) * ((a.denominator : Int) : Rat)) / ((b.denominator : Int) : Rat) := by grind
  rw [e, Rat.lt_div_iff p2, ← Rat.intCast_mul, ← Rat.intCast_mul]
  exact Rat.intCast_lt_intCast.symm
theorem isLess_congr {a b c d : Fraction} (ha : Norm a) (hb : Norm b) (hc : Norm c) (hd : Norm d) (h : val a < val b ↔ val c < val d) : isLess a b = isLess c d := by
  rw [Bool.eq_iff_iff, isLess_iff ha hb, isLess_iff hc hd]
  exact h
theorem isLess_ofInt (a b : Int) : isLess (ofInt a) (ofInt b) = decide (a < b) := by
  unfold isLess ofInt
  simp
theorem total_foldl : ∀ (l : List Fraction) (a : Fraction), (∀ x ∈ l, Norm x) → Norm a → Norm (l.foldl plus a) ∧ val (l.foldl plus a) = val a + (l.map val).sum
  | [], a, _, ha => ⟨ha, by show val a = val a + 0; grind⟩
  | x :: r, a, h, ha => by
    have hx := h x List.mem_cons_self
    obtain ⟨n, e⟩ := total_foldl r (plus a x) (fun y hy => h y (List.mem_cons_of_mem _ hy)) (norm_plus _ _)
    refine ⟨n, ?_⟩
    rw [List.foldl_cons, e, val_plus ha hx, List.map_cons, List.sum_cons]
    grind
theorem norm_total {l : List Fraction} (h : ∀ x ∈ l, Norm x) : Norm (total l) := (total_foldl l ⟨0, 1⟩ h norm_zero).1
theorem val_total {l : List Fraction} (h : ∀ x ∈ l, Norm x) : val (total l) = (l.map val).sum := by
  have e := (total_foldl l ⟨0, 1⟩ h norm_zero).2
  rw [val_zero] at e
  show val (l.foldl plus ⟨0, 1⟩) = _
  rw [e]
  grind
/-! ## whole numbers among fractions -/
theorem fraction_one (n : Int) : fraction n 1 = ofInt n := by
  refine val_inj (norm_fraction _ _) (norm_ofInt _) ?_
  rw [val_fraction, val_ofInt]
  grind
theorem plus_ofInt (a b : Int) : plus (ofInt a) (ofInt b) = ofInt (a + b) := by
  refine val_inj (norm_fraction _ _) (norm_ofInt _) ?_
  rw [val_plus (norm_ofInt _) (norm_ofInt _), val_ofInt, val_ofInt, val_ofInt, Rat.intCast_add]
theorem times_ofInt (a b : Int) : times (ofInt a) (ofInt b) = ofInt (a * b) := by
  refine val_inj (norm_fraction _ _) (norm_ofInt _) ?_
  rw [val_times, val_ofInt, val_ofInt, val_ofInt, Rat.intCast_mul]
theorem minus_ofInt (a b : Int) : minus (ofInt a) (ofInt b) = ofInt (a - b) := by
  refine val_inj (norm_minus _ _) (norm_ofInt _) ?_
  rw [val_minus (norm_ofInt _) (norm_ofInt _), val_ofInt, val_ofInt, val_ofInt, Rat.intCast_sub]
theorem foldl_ofInt : ∀ (l : List Int) (a : Int), (l.map ofInt).foldl plus (ofInt a) = ofInt (l.foldl (· + ·) a)
  | [], a => rfl
  | x :: r, a => by
    rw [List.map_cons, List.foldl_cons, plus_ofInt, foldl_ofInt r]
    rfl
theorem total_ofInt (l : List Int) : total (l.map ofInt) = ofInt (l.foldl (· + ·) 0) := foldl_ofInt l 0
theorem floorOf_fraction (a b : Int) (hb : 0 < b) : floorOf (fraction a b) = a / b := by
  unfold floorOf fraction
  have h : b ≠ 0 := by omega
  have hg : 0 < Int.gcd a b := Int.gcd_pos_of_ne_zero_right _ h
  have hd : ¬ b < 0 := by omega
  simp only [h, hd, if_false]
  obtain ⟨q, hq⟩ : (Int.gcd a b : Int) ∣ b := Int.gcd_dvd_right ..
  obtain ⟨n, hn⟩ : (Int.gcd a b : Int) ∣ a := Int.gcd_dvd_left ..
  have hq' : b / (Int.gcd a b : Int) = q := Int.ediv_eq_of_eq_mul_right (by omega) hq
  have e3 : a / (Int.gcd a b : Int) = n := Int.ediv_eq_of_eq_mul_right (by omega) hn
  have qp : 0 < q := by
    rcases Int.lt_or_le 0 q with z | z
    · exact z
    · have := Int.mul_nonneg (show (0 : Int) ≤ (Int.gcd a b : Int) by omega) (show 0 ≤ -q by omega)
      rw [Int.mul_neg] at this
      omega
  rw [hq', e3, Int.toNat_of_nonneg (by omega)]
  have hg' : (0 : Int) < (Int.gcd a b : Int) := by omega
  generalize (Int.gcd a b : Int) = g at *
  rw [hn, hq, Int.mul_ediv_mul_of_pos _ _ hg']
end Bd
namespace Bd
open Kxd5
/-! # The mirror of matrices.py, over lists of whole numbers -/
abbrev Row := List Int
abbrev Mat := List (List Int)
def movedLine (e t : Int) (line row : Row) : Row := List.zipWith (fun v o => v + t * e * o) line row
def moved (m : Mat) (row : Row) (t : Int) : Mat := List.zipWith (fun e line => movedLine e t line row) row m
def nothing (n : Nat) : Mat := List.replicate n (List.replicate n 0)
def infoStep (f : Mat) (z : Row × Int) : Mat := if z.2 > 0 then moved f z.1 z.2 else f
def information (n : Nat) (rows : List Row) (counts : List Int) : Mat := (rows.zip counts).foldl infoStep (nothing n)
def lessM (a b : Mat) : Mat := List.zipWith (fun x y => List.zipWith (fun p q => p - q) x y) a b
def without (m : Mat) (a c : Nat) : Mat := (m.eraseIdx a).map fun l => l.eraseIdx c
def sgn (k : Nat) : Int := if k % 2 = 0 then 1 else -1
def detF : Nat → Mat → Int
  | 0, _ => 1
  | f + 1, m => match m with
    | [] => 1
    | row :: rest => (row.zipIdx.map fun z => sgn z.2 * z.1 * detF f (rest.map fun r => r.eraseIdx z.2)).foldl (· + ·) 0
def det (m : Mat) : Int := detF m.length m
def cofactor (m : Mat) (a c : Nat) : Int := sgn (a + c) * det (without m a c)
def cofactors (m : Mat) : Mat := (List.range m.length).map fun a => (List.range m.length).map fun c => cofactor m a c
def dot (u v : Row) : Int := (List.zipWith (· * ·) u v).sum
def weighed (m : Mat) (v : Row) : Int := (v.zip m).foldl (fun f z => f + z.1 * dot v z.2) 0
def mulv (m : Mat) (v : Row) : Row := m.map fun l => dot l v
def adjv (m : Mat) (x : Row) : Row := (List.range m.length).map fun j => dot ((List.range m.length).map fun i => cofactor m i j) x
def bil (m : Mat) (u v : Row) : Int := dot u (mulv m v)
def chosen (m : Mat) (ps : List Nat) : Mat := ps.map fun a => ps.map fun c => (m.getD a []).getD c 0
structure IsMat (n : Nat) (m : Mat) : Prop where
  len : m.length = n
  row : ∀ r ∈ m, r.length = n
/-! ## small matrices, entry by entry -/
theorem row1 {r : Row} (h : r.length = 1) : ∃ a, r = [a] := by
  match r, h with
  | [a], _ => exact ⟨a, rfl⟩
theorem row2 {r : Row} (h : r.length = 2) : ∃ a b, r = [a, b] := by
  match r, h with
  | [a, b], _ => exact ⟨a, b, rfl⟩
theorem row3 {r : Row} (h : r.length = 3) : ∃ a b c, r = [a, b, c] := by
  match r, h with
  | [a, b, c], _ => exact ⟨a, b, c, rfl⟩
theorem row4 {r : Row} (h : r.length = 4) : ∃ a b c d, r = [a, b, c, d] := by
  match r, h with
  | [a, b, c, d], _ => exact ⟨a, b, c, d, rfl⟩
theorem mat1 {m : Mat} (h : IsMat 1 m) : ∃ a, m = [[a]] := by
  obtain ⟨l, r⟩ := h
  match m, l with
  | [x], _ =>
    obtain ⟨a, rfl⟩ := row1 (r x (by simp))
    exact ⟨a, rfl⟩
theorem mat2 {m : Mat} (h : IsMat 2 m) : ∃ a b c d, m = [[a, b], [c, d]] := by
  obtain ⟨l, r⟩ := h
  match m, l with
  | [x, y], _ =>
    obtain ⟨a, b, rfl⟩ := row2 (r x (by simp))
    obtain ⟨c, d, rfl⟩ := row2 (r y (by simp))
    exact ⟨a, b, c, d, rfl⟩
theorem mat3 {m : Mat} (h : IsMat 3 m) : ∃ a b c d e f g i j, m = [[a, b, c], [d, e, f], [g, i, j]] := by
  obtain ⟨l, r⟩ := h
  match m, l with
  | [x, y, z], _ =>
    obtain ⟨a, b, c, rfl⟩ := row3 (r x (by simp))
    obtain ⟨d, e, f, rfl⟩ := row3 (r y (by simp))
    obtain ⟨g, i, j, rfl⟩ := row3 (r z (by simp))
    exact ⟨a, b, c, d, e, f, g, i, j, rfl⟩
theorem mat4 {m : Mat} (h : IsMat 4 m) : ∃ a b c d e f g i j k l o p q s t, m = [[a, b, c, d], [e, f, g, i], [j, k, l, o], [p, q, s, t]] := by
  obtain ⟨l, r⟩ := h
  match m, l with
  | [x, y, z, w], _ =>
    obtain ⟨a, b, c, d, rfl⟩ := row4 (r x (by simp))
    obtain ⟨e, f, g, i, rfl⟩ := row4 (r y (by simp))
    obtain ⟨j, k, l, o, rfl⟩ := row4 (r z (by simp))
    obtain ⟨p, q, s, t, rfl⟩ := row4 (r w (by simp))
    exact ⟨a, b, c, d, e, f, g, i, j, k, l, o, p, q, s, t, rfl⟩
theorem sg0 : sgn 0 = 1 := rfl
theorem sg1 : sgn 1 = -1 := rfl
theorem sg2 : sgn 2 = 1 := rfl
theorem sg3 : sgn 3 = -1 := rfl
theorem sg4 : sgn 4 = 1 := rfl
theorem sg5 : sgn 5 = -1 := rfl
theorem sg6 : sgn 6 = 1 := rfl
theorem det1 (a : Int) : det [[a]] = a := by
  show 0 + 1 * a * 1 = a
  grind
theorem det2 (a b c d : Int) : det [[a, b], [c, d]] = a * d - b * c := by
  show 0 + 1 * a * (0 + 1 * d * 1) + -1 * b * (0 + 1 * c * 1) = a * d - b * c
  grind
theorem det3 (a b c d e f g i j : Int) : det [[a, b, c], [d, e, f], [g, i, j]] = a * (e * j - f * i) - b * (d * j - f * g) + c * (d * i - e * g) := by
  have e0 : det [[a, b, c], [d, e, f], [g, i, j]] = 0 + sgn 0 * a * det [[e, f], [i, j]] + sgn 1 * b * det [[d, f], [g, j]] + sgn 2 * c * det [[d, e], [g, i]] := rfl
  rw [e0, det2, det2, det2, sg0, sg1, sg2]
  grind
theorem det4 (a b c d e f g i j k l o p q s t : Int) : det [[a, b, c, d], [e, f, g, i], [j, k, l, o], [p, q, s, t]] =
    a * (f * (l * t - o * s) - g * (k * t - o * q) + i * (k * s - l * q)) - b * (e * (l * t - o * s) - g * (j * t - o * p) + i * (j * s - l * p))
     + c * (e * (k * t - o * q) - f * (j * t - o * p) + i * (j * q - k * p)) - d * (e * (k * s - l * q) - f * (j * s - l * p) + g * (j * q - k * p)) := by
  have e0 : det [[a, b, c, d], [e, f, g, i], [j, k, l, o], [p, q, s, t]] = 0 + sgn 0 * a * det [[f, g, i], [k, l, o], [q, s, t]] + sgn 1 * b * det [[e, g, i], [j, l, o], [p, s, t]] + sgn 2 * c * det [[e, f, i], [j, k, o], [p, q, t]] + sgn 3 * d * det [[e, f, g], [j, k, l], [p, q, s]] := rfl
  rw [e0, det3, det3, det3, det3, sg0, sg1, sg2, sg3]
  grind
theorem dot1 (a x : Int) : dot [a] [x] = a * x := by
  show a * x + 0 = _
  grind
theorem dot2 (a b x y : Int) : dot [a, b] [x, y] = a * x + b * y := by
  show a * x + (b * y + 0) = _
  grind
theorem dot3 (a b c x y z : Int) : dot [a, b, c] [x, y, z] = a * x + b * y + c * z := by
  show a * x + (b * y + (c * z + 0)) = _
  grind
theorem dot4 (a b c d x y z w : Int) : dot [a, b, c, d] [x, y, z, w] = a * x + b * y + c * z + d * w := by
  show a * x + (b * y + (c * z + (d * w + 0))) = _
  grind
theorem det0 : det [] = 1 := rfl
theorem adjv1 (a x : Int) : adjv [[a]] [x] = [x] := by
  have e0 : adjv [[a]] [x] = [dot [sgn 0 * det []] [x]] := rfl
  rw [e0, dot1, det0, sg0]
  grind
theorem adjv2 (a b c d x y : Int) : adjv [[a, b], [c, d]] [x, y] = [d * x - b * y, a * y - c * x] := by
  have e0 : adjv [[a, b], [c, d]] [x, y] = [dot [sgn 0 * det [[d]], sgn 1 * det [[b]]] [x, y], dot [sgn 1 * det [[c]], sgn 2 * det [[a]]] [x, y]] := rfl
  simp only [e0, dot2, det1, sg0, sg1, sg2]
  grind
theorem adjv3 (a b c d e f g i j x y z : Int) : adjv [[a, b, c], [d, e, f], [g, i, j]] [x, y, z] =
    [(e * j - f * i) * x - (b * j - c * i) * y + (b * f - c * e) * z, -(d * j - f * g) * x + (a * j - c * g) * y - (a * f - c * d) * z, (d * i - e * g) * x - (a * i - b * g) * y + (a * e - b * d) * z] := by
  have e0 : adjv [[a, b, c], [d, e, f], [g, i, j]] [x, y, z] = [dot [sgn 0 * det [[e, f], [i, j]], sgn 1 * det [[b, c], [i, j]], sgn 2 * det [[b, c], [e, f]]] [x, y, z],
    dot [sgn 1 * det [[d, f], [g, j]], sgn 2 * det [[a, c], [g, j]], sgn 3 * det [[a, c], [d, f]]] [x, y, z],
    dot [sgn 2 * det [[d, e], [g, i]], sgn 3 * det [[a, b], [g, i]], sgn 4 * det [[a, b], [d, e]]] [x, y, z]] := rfl
  simp only [e0, dot3, det2, sg0, sg1, sg2, sg3, sg4]
  grind
theorem adjv4 (a b c d e f g i j k l o p q s t x y z w : Int) : adjv [[a, b, c, d], [e, f, g, i], [j, k, l, o], [p, q, s, t]] [x, y, z, w] =
    [det [[f, g, i], [k, l, o], [q, s, t]] * x - det [[b, c, d], [k, l, o], [q, s, t]] * y + det [[b, c, d], [f, g, i], [q, s, t]] * z - det [[b, c, d], [f, g, i], [k, l, o]] * w,
     -det [[e, g, i], [j, l, o], [p, s, t]] * x + det [[a, c, d], [j, l, o], [p, s, t]] * y - det [[a, c, d], [e, g, i], [p, s, t]] * z + det [[a, c, d], [e, g, i], [j, l, o]] * w,
     det [[e, f, i], [j, k, o], [p, q, t]] * x - det [[a, b, d], [j, k, o], [p, q, t]] * y + det [[a, b, d], [e, f, i], [p, q, t]] * z - det [[a, b, d], [e, f, i], [j, k, o]] * w,
     -det [[e, f, g], [j, k, l], [p, q, s]] * x + det [[a, b, c], [j, k, l], [p, q, s]] * y - det [[a, b, c], [e, f, g], [p, q, s]] * z + det [[a, b, c], [e, f, g], [j, k, l]] * w] := by
  have e0 : adjv [[a, b, c, d], [e, f, g, i], [j, k, l, o], [p, q, s, t]] [x, y, z, w] = [dot [sgn 0 * det [[f, g, i], [k, l, o], [q, s, t]], sgn 1 * det [[b, c, d], [k, l, o], [q, s, t]], sgn 2 * det [[b, c, d], [f, g, i], [q, s, t]], sgn 3 * det [[b, c, d], [f, g, i], [k, l, o]]] [x, y, z, w],
    dot [sgn 1 * det [[e, g, i], [j, l, o], [p, s, t]], sgn 2 * det [[a, c, d], [j, l, o], [p, s, t]], sgn 3 * det [[a, c, d], [e, g, i], [p, s, t]], sgn 4 * det [[a, c, d], [e, g, i], [j, l, o]]] [x, y, z, w],
    dot [sgn 2 * det [[e, f, i], [j, k, o], [p, q, t]], sgn 3 * det [[a, b, d], [j, k, o], [p, q, t]], sgn 4 * det [[a, b, d], [e, f, i], [p, q, t]], sgn 5 * det [[a, b, d], [e, f, i], [j, k, o]]] [x, y, z, w],
    dot [sgn 3 * det [[e, f, g], [j, k, l], [p, q, s]], sgn 4 * det [[a, b, c], [j, k, l], [p, q, s]], sgn 5 * det [[a, b, c], [e, f, g], [p, q, s]], sgn 6 * det [[a, b, c], [e, f, g], [j, k, l]]] [x, y, z, w]] := rfl
  simp only [e0, dot4, sg0, sg1, sg2, sg3, sg4, sg5, sg6]
  grind
theorem mulv1 (a x : Int) : mulv [[a]] [x] = [a * x] := by
  show [dot [a] [x]] = _
  rw [dot1]
theorem mulv2 (a b c d x y : Int) : mulv [[a, b], [c, d]] [x, y] = [a * x + b * y, c * x + d * y] := by
  show [dot [a, b] [x, y], dot [c, d] [x, y]] = _
  rw [dot2, dot2]
theorem mulv3 (a b c d e f g i j x y z : Int) : mulv [[a, b, c], [d, e, f], [g, i, j]] [x, y, z] = [a * x + b * y + c * z, d * x + e * y + f * z, g * x + i * y + j * z] := by
  show [dot [a, b, c] [x, y, z], dot [d, e, f] [x, y, z], dot [g, i, j] [x, y, z]] = _
  rw [dot3, dot3, dot3]
theorem mulv4 (a b c d e f g i j k l o p q s t x y z w : Int) : mulv [[a, b, c, d], [e, f, g, i], [j, k, l, o], [p, q, s, t]] [x, y, z, w] =
    [a * x + b * y + c * z + d * w, e * x + f * y + g * z + i * w, j * x + k * y + l * z + o * w, p * x + q * y + s * z + t * w] := by
  show [dot [a, b, c, d] [x, y, z, w], dot [e, f, g, i] [x, y, z, w], dot [j, k, l, o] [x, y, z, w], dot [p, q, s, t] [x, y, z, w]] = _
  rw [dot4, dot4, dot4, dot4]
/-! ## the adjugate -/
theorem le4 {n : Nat} (h1 : 1 ≤ n) (h4 : n ≤ 4) : n = 1 ∨ n = 2 ∨ n = 3 ∨ n = 4 := by omega
set_option maxHeartbeats 4000000 in
theorem mulv_adjv {n : Nat} {m : Mat} {x : Row} (h1 : 1 ≤ n) (h4 : n ≤ 4) (hm : IsMat n m) (hx : x.length = n) : mulv m (adjv m x) = x.map (det m * ·) := by
  rcases le4 h1 h4 with rfl | rfl | rfl | rfl
  · obtain ⟨a, rfl⟩ := mat1 hm
    obtain ⟨x, rfl⟩ := row1 hx
    rw [adjv1, mulv1, det1]; rfl
  · obtain ⟨a, b, c, d, rfl⟩ := mat2 hm
    obtain ⟨x, y, rfl⟩ := row2 hx
    rw [adjv2, mulv2, det2]
    simp only [List.map_cons, List.map_nil]
    grind
  · obtain ⟨a, b, c, d, e, f, g, i, j, rfl⟩ := mat3 hm
    obtain ⟨x, y, z, rfl⟩ := row3 hx
    rw [adjv3, mulv3, det3]
    simp only [List.map_cons, List.map_nil, List.cons.injEq, and_true]
    refine ⟨?_, ?_, ?_⟩ <;> grind
  · obtain ⟨a, b, c, d, e, f, g, i, j, k, l, o, p, q, s, t, rfl⟩ := mat4 hm
    obtain ⟨x, y, z, w, rfl⟩ := row4 hx
    rw [adjv4, mulv4, det4]
    simp only [List.map_cons, List.map_nil, List.cons.injEq, and_true, det3]
    refine ⟨?_, ?_, ?_, ?_⟩ <;> grind
set_option maxHeartbeats 4000000 in
theorem adjv_mulv {n : Nat} {m : Mat} {x : Row} (h1 : 1 ≤ n) (h4 : n ≤ 4) (hm : IsMat n m) (hx : x.length = n) : adjv m (mulv m x) = x.map (det m * ·) := by
  rcases le4 h1 h4 with rfl | rfl | rfl | rfl
  · obtain ⟨a, rfl⟩ := mat1 hm
    obtain ⟨x, rfl⟩ := row1 hx
    rw [mulv1, adjv1, det1]; rfl
  · obtain ⟨a, b, c, d, rfl⟩ := mat2 hm
    obtain ⟨x, y, rfl⟩ := row2 hx
    rw [mulv2, adjv2, det2]
    simp only [List.map_cons, List.map_nil]
    grind
  · obtain ⟨a, b, c, d, e, f, g, i, j, rfl⟩ := mat3 hm
    obtain ⟨x, y, z, rfl⟩ := row3 hx
    rw [mulv3, adjv3, det3]
    simp only [List.map_cons, List.map_nil, List.cons.injEq, and_true]
    refine ⟨?_, ?_, ?_⟩ <;> grind
  · obtain ⟨a, b, c, d, e, f, g, i, j, k, l, o, p, q, s, t, rfl⟩ := mat4 hm
    obtain ⟨x, y, z, w, rfl⟩ := row4 hx
    rw [mulv4, adjv4, det4]
    simp only [List.map_cons, List.map_nil, List.cons.injEq, and_true, det3]
    refine ⟨?_, ?_, ?_, ?_⟩ <;> grind
end Bd
namespace Bd
open Kxd5
/-! # Positive semidefinite forms in up to four variables -/
theorem psd_off {a b c : Int} (h : ∀ x y : Int, 0 ≤ a * x * x + 2 * b * x * y + c * y * y) (ha : a = 0) : b = 0 := by
  subst ha
  have h0 := h 0 1
  have h1 := h (-(b * (c + 1))) 1
  have e : (0 : Int) * (-(b * (c + 1))) * (-(b * (c + 1))) + 2 * b * (-(b * (c + 1))) * 1 + c * 1 * 1 = c - 2 * (b * b) * (c + 1) := by grind
  rw [e] at h1
  have hc : 0 ≤ c := by
    have : (0 : Int) * 0 * 0 + 2 * b * 0 * 1 + c * 1 * 1 = c := by grind
    rw [this] at h0
    exact h0
  by_cases hb : b = 0
  · exact hb
  · exfalso
    have hb2 : 1 ≤ b * b := by
      rcases Int.lt_or_gt_of_ne hb with z | z
      · have := Int.mul_le_mul_of_nonneg_left (show (1 : Int) ≤ -b by omega) (show (0 : Int) ≤ -b by omega)
        rw [Int.neg_mul_neg] at this
        omega
      · have := Int.mul_le_mul_of_nonneg_left (show (1 : Int) ≤ b by omega) (show (0 : Int) ≤ b by omega)
        omega
    have := Int.mul_le_mul_of_nonneg_right hb2 (show (0 : Int) ≤ c + 1 by omega)
    have e2 : 2 * (b * b) * (c + 1) = 2 * (b * b * (c + 1)) := by grind
    omega
def f1 (a x : Int) : Int := a * x * x
def f2 (a b e x y : Int) : Int := a * x * x + 2 * b * x * y + f1 e y
def f3 (a b c e f h x y z : Int) : Int := a * x * x + 2 * b * x * y + 2 * c * x * z + f2 e f h y z
def f4 (a b c d e f g h i j x y z w : Int) : Int := a * x * x + 2 * b * x * y + 2 * c * x * z + 2 * d * x * w + f3 e f g h i j y z w
def g1 (a : Int) : Int := a
def g2 (a b e : Int) : Int := a * e - b * b
def g3 (a b c e f h : Int) : Int := a * (e * h - f * f) - b * (b * h - f * c) + c * (b * f - e * c)
def g4 (a b c d e f g h i j : Int) : Int :=
  a * (e * (h * j - i * i) - f * (f * j - i * g) + g * (f * i - h * g)) - b * (b * (h * j - i * i) - f * (c * j - i * d) + g * (c * i - h * d))
   + c * (b * (f * j - i * g) - e * (c * j - i * d) + g * (c * g - f * d)) - d * (b * (f * i - h * g) - e * (c * i - h * d) + f * (c * g - f * d))
theorem pos_of_mul {a b : Int} (ha : 0 < a) (h : 0 ≤ a * b) : 0 ≤ b := by
  rcases Int.lt_or_le b 0 with z | z
  · have := Int.mul_neg_of_pos_of_neg ha z
    omega
  · exact z
theorem zero_of_mul {a b : Int} (ha : 0 < a) (h : a * b = 0) : b = 0 := by
  rcases Int.mul_eq_zero.mp h with z | z
  · omega
  · exact z
theorem psd1 {a : Int} (h : ∀ x, 0 ≤ f1 a x) : 0 ≤ g1 a ∧ (g1 a = 0 → ∃ x, x ≠ 0 ∧ f1 a x = 0) := by
  refine ⟨?_, fun e => ⟨1, by decide, ?_⟩⟩
  · have := h 1
    unfold f1 at this
    unfold g1
    omega
  · unfold g1 at e
    unfold f1
    omega
theorem psd2 {a b e : Int} (h : ∀ x y, 0 ≤ f2 a b e x y) : 0 ≤ g2 a b e ∧ (g2 a b e = 0 → ∃ x y, (x ≠ 0 ∨ y ≠ 0) ∧ f2 a b e x y = 0) := by
  have ha : 0 ≤ a := by
    have := h 1 0
    simp only [f2, f1] at this
    omega
  rcases Int.lt_or_eq_of_le ha with ha | ha
  · have S : ∀ y, 0 ≤ f1 (g2 a b e) y := fun y => by
      have := h (-(b * y)) (a * y)
      have e1 : f2 a b e (-(b * y)) (a * y) = a * f1 (g2 a b e) y := by simp only [f2, f1, g2]; grind
      rw [e1] at this
      exact pos_of_mul ha this
    obtain ⟨p1, p2⟩ := psd1 S
    refine ⟨p1, fun z => ?_⟩
    obtain ⟨y, hy, hz⟩ := p2 z
    refine ⟨-(b * y), a * y, .inr (fun q => hy (zero_of_mul ha q)), ?_⟩
    have e1 : f2 a b e (-(b * y)) (a * y) = a * f1 (g2 a b e) y := by simp only [f2, f1, g2]; grind
    rw [e1, hz, Int.mul_zero]
  · have hb : b = 0 := psd_off (a := a) (c := e) (fun x y => by have := h x y; simp only [f2, f1] at this; exact this) ha.symm
    subst hb
    rw [← ha]
    refine ⟨by simp only [g2]; omega, fun _ => ⟨1, 0, .inl (by decide), by simp only [f2, f1]; omega⟩⟩
theorem psd3 {a b c e f h : Int} (p : ∀ x y z, 0 ≤ f3 a b c e f h x y z) : 0 ≤ g3 a b c e f h ∧ (g3 a b c e f h = 0 → ∃ x y z, (x ≠ 0 ∨ y ≠ 0 ∨ z ≠ 0) ∧ f3 a b c e f h x y z = 0) := by
  have ha : 0 ≤ a := by
    have := p 1 0 0
    simp only [f3, f2, f1] at this
    omega
  rcases Int.lt_or_eq_of_le ha with ha | ha
  · have E : ∀ y z, f3 a b c e f h (-(b * y + c * z)) (a * y) (a * z) = a * f2 (a * e - b * b) (a * f - b * c) (a * h - c * c) y z := fun y z => by
      simp only [f3, f2, f1]; grind
    have D : g2 (a * e - b * b) (a * f - b * c) (a * h - c * c) = a * g3 a b c e f h := by simp only [g2, g3]; grind
    have S : ∀ y z, 0 ≤ f2 (a * e - b * b) (a * f - b * c) (a * h - c * c) y z := fun y z => by
      have := p (-(b * y + c * z)) (a * y) (a * z)
      rw [E] at this
      exact pos_of_mul ha this
    obtain ⟨p1, p2⟩ := psd2 S
    rw [D] at p1 p2
    refine ⟨pos_of_mul ha p1, fun z => ?_⟩
    obtain ⟨y, z, hy, hz⟩ := p2 (by rw [z, Int.mul_zero])
    refine ⟨-(b * y + c * z), a * y, a * z, .inr ?_, by rw [E, hz, Int.mul_zero]⟩
    rcases hy with q | q
    · exact .inl fun r => q (zero_of_mul ha r)
    · exact .inr fun r => q (zero_of_mul ha r)
  · have hb : b = 0 := psd_off (a := a) (c := e) (fun x y => by
      have := p x y 0; simp only [f3, f2, f1] at this
      have e1 : a * x * x + 2 * b * x * y + 2 * c * x * 0 + (e * y * y + 2 * f * y * 0 + h * 0 * 0) = a * x * x + 2 * b * x * y + e * y * y := by grind
      rw [e1] at this; exact this) ha.symm
    have hc : c = 0 := psd_off (a := a) (c := h) (fun x y => by
      have := p x 0 y; simp only [f3, f2, f1] at this
      have e1 : a * x * x + 2 * b * x * 0 + 2 * c * x * y + (e * 0 * 0 + 2 * f * 0 * y + h * y * y) = a * x * x + 2 * c * x * y + h * y * y := by grind
      rw [e1] at this; exact this) ha.symm
    subst hb hc
    rw [← ha]
    refine ⟨by simp only [g3]; omega, fun _ => ⟨1, 0, 0, .inl (by decide), by simp only [f3, f2, f1]; omega⟩⟩
theorem psd4 {a b c d e f g h i j : Int} (p : ∀ x y z w, 0 ≤ f4 a b c d e f g h i j x y z w) :
    0 ≤ g4 a b c d e f g h i j ∧ (g4 a b c d e f g h i j = 0 → ∃ x y z w, (x ≠ 0 ∨ y ≠ 0 ∨ z ≠ 0 ∨ w ≠ 0) ∧ f4 a b c d e f g h i j x y z w = 0) := by
  have ha : 0 ≤ a := by
    have := p 1 0 0 0
    simp only [f4, f3, f2, f1] at this
    omega
  rcases Int.lt_or_eq_of_le ha with ha | ha
  · have E : ∀ y z w, f4 a b c d e f g h i j (-(b * y + c * z + d * w)) (a * y) (a * z) (a * w) = a * f3 (a * e - b * b) (a * f - b * c) (a * g - b * d) (a * h - c * c) (a * i - c * d) (a * j - d * d) y z w := fun y z w => by
      simp only [f4, f3, f2, f1]; grind
    have D : g3 (a * e - b * b) (a * f - b * c) (a * g - b * d) (a * h - c * c) (a * i - c * d) (a * j - d * d) = a * (a * g4 a b c d e f g h i j) := by simp only [g3, g4]; grind
    have S : ∀ y z w, 0 ≤ f3 (a * e - b * b) (a * f - b * c) (a * g - b * d) (a * h - c * c) (a * i - c * d) (a * j - d * d) y z w := fun y z w => by
      have := p (-(b * y + c * z + d * w)) (a * y) (a * z) (a * w)
      rw [E] at this
      exact pos_of_mul ha this
    obtain ⟨p1, p2⟩ := psd3 S
    rw [D] at p1 p2
    refine ⟨pos_of_mul ha (pos_of_mul ha p1), fun z => ?_⟩
    obtain ⟨y, z, w, hy, hz⟩ := p2 (by rw [z, Int.mul_zero, Int.mul_zero])
    refine ⟨-(b * y + c * z + d * w), a * y, a * z, a * w, .inr ?_, by rw [E, hz, Int.mul_zero]⟩
    rcases hy with q | q | q
    · exact .inl fun r => q (zero_of_mul ha r)
    · exact .inr (.inl fun r => q (zero_of_mul ha r))
    · exact .inr (.inr fun r => q (zero_of_mul ha r))
  · have hb : b = 0 := psd_off (a := a) (c := e) (fun x y => by
      have := p x y 0 0
      have e1 : f4 a b c d e f g h i j x y 0 0 = a * x * x + 2 * b * x * y + e * y * y := by simp only [f4, f3, f2, f1]; grind
      rw [e1] at this; exact this) ha.symm
    have hc : c = 0 := psd_off (a := a) (c := h) (fun x y => by
      have := p x 0 y 0
      have e1 : f4 a b c d e f g h i j x 0 y 0 = a * x * x + 2 * c * x * y + h * y * y := by simp only [f4, f3, f2, f1]; grind
      rw [e1] at this; exact this) ha.symm
    have hd : d = 0 := psd_off (a := a) (c := j) (fun x y => by
      have := p x 0 0 y
      have e1 : f4 a b c d e f g h i j x 0 0 y = a * x * x + 2 * d * x * y + j * y * y := by simp only [f4, f3, f2, f1]; grind
      rw [e1] at this; exact this) ha.symm
    subst hb hc hd
    rw [← ha]
    refine ⟨by simp only [g4]; omega, fun _ => ⟨1, 0, 0, 0, .inl (by decide), by simp only [f4, f3, f2, f1]; omega⟩⟩
/-! ## .. of matrices -/
def SymB (n : Nat) (m : Mat) : Prop := ∀ u v : Row, u.length = n → v.length = n → bil m u v = bil m v u
def Psd (n : Nat) (m : Mat) : Prop := ∀ v : Row, v.length = n → 0 ≤ bil m v v
set_option maxHeartbeats 1000000 in
theorem psd_det {n : Nat} {m : Mat} (h1 : 1 ≤ n) (h4 : n ≤ 4) (hm : IsMat n m) (hs : SymB n m) (hp : Psd n m) :
    0 ≤ det m ∧ (det m = 0 → ∃ v : Row, v.length = n ∧ (∃ x ∈ v, x ≠ 0) ∧ bil m v v = 0) := by
  rcases le4 h1 h4 with rfl | rfl | rfl | rfl
  · obtain ⟨a, rfl⟩ := mat1 hm
    have F : ∀ x, bil [[a]] [x] [x] = f1 a x := fun x => by unfold bil; rw [mulv1, dot1]; simp only [f1]; grind
    obtain ⟨p1, p2⟩ := psd1 (a := a) fun x => by rw [← F]; exact hp [x] rfl
    rw [det1]
    refine ⟨p1, fun e => ?_⟩
    obtain ⟨x, hx, hz⟩ := p2 e
    exact ⟨[x], rfl, ⟨x, by simp, hx⟩, by rw [F]; exact hz⟩
  · obtain ⟨a, b, c, d, rfl⟩ := mat2 hm
    have s1 := hs [1, 0] [0, 1] rfl rfl
    simp only [bil, mulv2, dot2] at s1
    have s1' : b = c := by omega
    subst s1'
    have F : ∀ x y, bil [[a, b], [b, d]] [x, y] [x, y] = f2 a b d x y := fun x y => by unfold bil; rw [mulv2, dot2]; simp only [f2, f1]; grind
    obtain ⟨p1, p2⟩ := psd2 (a := a) (b := b) (e := d) fun x y => by rw [← F]; exact hp [x, y] rfl
    have D : det [[a, b], [b, d]] = g2 a b d := by rw [det2]; rfl
    rw [D]
    refine ⟨p1, fun e => ?_⟩
    obtain ⟨x, y, hx, hz⟩ := p2 e
    refine ⟨[x, y], rfl, ?_, by rw [F]; exact hz⟩
    rcases hx with q | q
    · exact ⟨x, by simp, q⟩
    · exact ⟨y, by simp, q⟩
  · obtain ⟨a, b, c, d, e, f, g, i, j, rfl⟩ := mat3 hm
    have s1 := hs [1, 0, 0] [0, 1, 0] rfl rfl
    have s2 := hs [1, 0, 0] [0, 0, 1] rfl rfl
    have s3 := hs [0, 1, 0] [0, 0, 1] rfl rfl
    simp only [bil, mulv3, dot3] at s1 s2 s3
    have s1' : b = d := by omega
    have s2' : c = g := by omega
    have s3' : f = i := by omega
    subst s1' s2' s3'
    have F : ∀ x y z, bil [[a, b, c], [b, e, f], [c, f, j]] [x, y, z] [x, y, z] = f3 a b c e f j x y z := fun x y z => by unfold bil; rw [mulv3, dot3]; simp only [f3, f2, f1]; grind
    obtain ⟨p1, p2⟩ := psd3 (a := a) (b := b) (c := c) (e := e) (f := f) (h := j) fun x y z => by rw [← F]; exact hp [x, y, z] rfl
    have D : det [[a, b, c], [b, e, f], [c, f, j]] = g3 a b c e f j := by rw [det3]; rfl
    rw [D]
    refine ⟨p1, fun e => ?_⟩
    obtain ⟨x, y, z, hx, hz⟩ := p2 e
    refine ⟨[x, y, z], rfl, ?_, by rw [F]; exact hz⟩
    rcases hx with q | q | q
    · exact ⟨x, by simp, q⟩
    · exact ⟨y, by simp, q⟩
    · exact ⟨z, by simp, q⟩
  · obtain ⟨a, b, c, d, e, f, g, i, j, k, l, o, p, q, s, t, rfl⟩ := mat4 hm
    have s1 := hs [1, 0, 0, 0] [0, 1, 0, 0] rfl rfl
    have s2 := hs [1, 0, 0, 0] [0, 0, 1, 0] rfl rfl
    have s3 := hs [1, 0, 0, 0] [0, 0, 0, 1] rfl rfl
    have s4 := hs [0, 1, 0, 0] [0, 0, 1, 0] rfl rfl
    have s5 := hs [0, 1, 0, 0] [0, 0, 0, 1] rfl rfl
    have s6 := hs [0, 0, 1, 0] [0, 0, 0, 1] rfl rfl
    simp only [bil, mulv4, dot4] at s1 s2 s3 s4 s5 s6
    have s1' : b = e := by omega
    have s2' : c = j := by omega
    have s3' : d = p := by omega
    have s4' : g = k := by omega
    have s5' : i = q := by omega
    have s6' : o = s := by omega
    subst s1' s2' s3' s4' s5' s6'
    have F : ∀ x y z w, bil [[a, b, c, d], [b, f, g, i], [c, g, l, o], [d, i, o, t]] [x, y, z, w] [x, y, z, w] = f4 a b c d f g i l o t x y z w := fun x y z w => by unfold bil; rw [mulv4, dot4]; simp only [f4, f3, f2, f1]; grind
    obtain ⟨p1, p2⟩ := psd4 (a := a) (b := b) (c := c) (d := d) (e := f) (f := g) (g := i) (h := l) (i := o) (j := t) fun x y z w => by rw [← F]; exact hp [x, y, z, w] rfl
    have D : det [[a, b, c, d], [b, f, g, i], [c, g, l, o], [d, i, o, t]] = g4 a b c d f g i l o t := by rw [det4]; rfl
    rw [D]
    refine ⟨p1, fun e => ?_⟩
    obtain ⟨x, y, z, w, hx, hz⟩ := p2 e
    refine ⟨[x, y, z, w], rfl, ?_, by rw [F]; exact hz⟩
    rcases hx with q | q | q | q
    · exact ⟨x, by simp, q⟩
    · exact ⟨y, by simp, q⟩
    · exact ⟨z, by simp, q⟩
    · exact ⟨w, by simp, q⟩
end Bd
namespace Bd
open Kxd5
/-! ## numbers in bounds -/
def Bn (n : Nat) (x : Int) : Prop := x.natAbs ≤ 2 ^ n
theorem Bn.mono {m n : Nat} {x : Int} (h : Bn m x) (hm : m ≤ n) : Bn n x := Nat.le_trans h (Nat.pow_le_pow_right (by decide) hm)
theorem Bn.mul {m n : Nat} {x y : Int} (h : Bn m x) (h' : Bn n y) : Bn (m + n) (x * y) := by
  unfold Bn
  rw [Int.natAbs_mul, Nat.pow_add]
  exact Nat.mul_le_mul h h'
theorem Bn.add {n : Nat} {x y : Int} (h : Bn n x) (h' : Bn n y) : Bn (n + 1) (x + y) := by
  unfold Bn at *
  rw [Nat.pow_succ]
  have := Int.natAbs_add_le x y
  omega
theorem Bn.neg {n : Nat} {x : Int} (h : Bn n x) : Bn n (-x) := by
  unfold Bn
  rw [Int.natAbs_neg]
  exact h
theorem Bn.zero {n : Nat} : Bn n 0 := Nat.zero_le _
theorem Bn.one {n : Nat} : Bn n 1 := Nat.one_le_two_pow
theorem Bn.log {n : Nat} {x : Int} (h : Bn n x) : x.natAbs.log2 ≤ n := by
  by_cases e : x.natAbs = 0
  · rw [e]; exact Nat.zero_le _
  · have h1 : 2 ^ x.natAbs.log2 ≤ 2 ^ n := Nat.le_trans (Nat.log2_self_le e) h
    exact (Nat.pow_le_pow_iff_right (by decide)).mp h1
def EB (b : Nat) (m : Mat) : Prop := ∀ r ∈ m, ∀ x ∈ r, Bn b x
/-! # Information matrices -/
theorem moved_isMat {n : Nat} {m : Mat} {row : Row} {t : Int} (hm : IsMat n m) (hr : row.length = n) : IsMat n (moved m row t) := by
  refine ⟨by unfold moved; rw [List.length_zipWith, hm.len, hr]; omega, fun r h => ?_⟩
  unfold moved at h
  obtain ⟨i, hi⟩ := List.getElem?_of_mem h
  rw [List.getElem?_zipWith] at hi
  cases e1 : row[i]? with
  | none => rw [e1] at hi; cases hi
  | some e =>
    cases e2 : m[i]? with
    | none => rw [e1, e2] at hi; cases hi
    | some l =>
      rw [e1, e2] at hi
      have hi' : movedLine e t l row = r := Option.some.inj hi
      rw [← hi']
      unfold movedLine
      rw [List.length_zipWith, hm.row l (List.mem_of_getElem? e2), hr]
      omega
theorem step_isMat {n : Nat} {m : Mat} {z : Row × Int} (hm : IsMat n m) (hr : z.1.length = n) : IsMat n (infoStep m z) := by
  unfold infoStep
  split
  · exact moved_isMat hm hr
  · exact hm
theorem fold_isMat {n : Nat} : ∀ {zs : List (Row × Int)} {m : Mat}, IsMat n m → (∀ z ∈ zs, z.1.length = n) → IsMat n (zs.foldl infoStep m)
  | [], _, hm, _ => hm
  | z :: zs, _, hm, h => fold_isMat (zs := zs) (step_isMat hm (h z List.mem_cons_self)) fun y hy => h y (List.mem_cons_of_mem _ hy)
theorem nothing_isMat (n : Nat) : IsMat n (nothing n) := ⟨by simp [nothing], fun r h => by
  unfold nothing at h
  rw [List.eq_of_mem_replicate h]
  simp⟩
theorem dot_nil_right (u : Row) : dot u [] = 0 := by cases u <;> rfl
theorem dot_nil_left (u : Row) : dot [] u = 0 := by cases u <;> rfl
theorem dot_cons (a b : Int) (u v : Row) : dot (a :: u) (b :: v) = a * b + dot u v := rfl
theorem dot_comm : ∀ u v : Row, dot u v = dot v u
  | [], v => by rw [dot_nil_left, dot_nil_right]
  | _ :: _, [] => by rw [dot_nil_left, dot_nil_right]
  | a :: u, b :: v => by rw [dot_cons, dot_cons, dot_comm u v, Int.mul_comm]
theorem dot_movedLine (e t : Int) : ∀ (line row v : Row), line.length = row.length → dot (movedLine e t line row) v = dot line v + t * e * dot row v
  | [], [], v, _ => by
    show dot [] v = dot [] v + t * e * dot [] v
    rw [dot_nil_left]; grind
  | a :: l, b :: r, [], _ => by
    rw [dot_nil_right, dot_nil_right, dot_nil_right]; grind
  | a :: l, b :: r, c :: v, h => by
    have ih := dot_movedLine e t l r v (by simpa using h)
    show dot ((a + t * e * b) :: movedLine e t l r) (c :: v) = _
    rw [dot_cons, dot_cons, dot_cons, ih]; grind
theorem bil_moved_aux (t : Int) (v row : Row) : ∀ (u : Row) (es : Row) (m : Mat), (∀ l ∈ m, l.length = row.length) → m.length = es.length → u.length = es.length →
    dot u (mulv (List.zipWith (fun e line => movedLine e t line row) es m) v) = dot u (mulv m v) + t * dot u es * dot row v
  | [], [], [], _, _, _ => by
    show dot [] [] = dot [] [] + t * dot [] [] * dot row v
    rw [dot_nil_left]; grind
  | a :: u, e :: es, l :: m, h, h1, h2 => by
    have ih := bil_moved_aux t v row u es m (fun x hx => h x (List.mem_cons_of_mem _ hx)) (by simpa using h1) (by simpa using h2)
    have hl := dot_movedLine e t l row v (h l List.mem_cons_self)
    show dot (a :: u) (dot (movedLine e t l row) v :: mulv (List.zipWith (fun e line => movedLine e t line row) es m) v) = dot (a :: u) (dot l v :: mulv m v) + t * dot (a :: u) (e :: es) * dot row v
    rw [dot_cons, dot_cons, dot_cons, ih, hl]; grind
theorem bil_moved {n : Nat} {m : Mat} {row u v : Row} {t : Int} (hm : IsMat n m) (hr : row.length = n) (hu : u.length = n) : bil (moved m row t) u v = bil m u v + t * (dot u row * dot row v) := by
  unfold bil moved
  rw [bil_moved_aux t v row u row m (fun l hl => by rw [hm.row l hl, hr]) (by rw [hm.len, hr]) (by rw [hu, hr])]
  grind
theorem sq_nn (a : Int) : 0 ≤ a * a := by
  rcases Int.le_total 0 a with h | h
  · exact Int.mul_nonneg h h
  · have := Int.mul_nonneg (show 0 ≤ -a by omega) (show 0 ≤ -a by omega)
    rw [Int.neg_mul_neg] at this
    exact this
theorem dot_self {w : Row} (e : dot w w = 0) : ∀ x ∈ w, x = 0 := by
  induction w with
  | nil => intro x hx; cases hx
  | cons a w ih =>
    rw [dot_cons] at e
    have ha := sq_nn a
    have hw : 0 ≤ dot w w := by
      clear ih e
      induction w with
      | nil => exact Int.le_refl 0
      | cons b w ih => rw [dot_cons]; have := sq_nn b; omega
    intro x hx
    rcases List.mem_cons.mp hx with rfl | hx
    · have : x * x = 0 := by omega
      rcases Int.mul_eq_zero.mp this with q | q <;> exact q
    · exact ih (by omega) x hx
theorem mulv_length (m : Mat) (v : Row) : (mulv m v).length = m.length := by simp [mulv]
theorem adjv_length (m : Mat) (v : Row) : (adjv m v).length = m.length := by simp [adjv]
theorem dot_map_mul (d : Int) (u x : Row) : dot u (x.map (d * ·)) = d * dot u x := by
  induction u generalizing x with
  | nil => rw [dot_nil_left, dot_nil_left]; omega
  | cons a u ih =>
    cases x with
    | nil => show (0 : Int) = d * 0; omega
    | cons b x => rw [List.map_cons, dot_cons, dot_cons, ih]; grind
def quad (zs : List (Row × Int)) (u v : Row) : Int := (zs.map fun z => z.2 * (dot u z.1 * dot z.1 v)).sum
theorem bil_fold {n : Nat} {u v : Row} (hu : u.length = n) : ∀ (zs : List (Row × Int)) (m : Mat), IsMat n m → (∀ z ∈ zs, z.1.length = n ∧ 0 ≤ z.2) → bil (zs.foldl infoStep m) u v = bil m u v + quad zs u v
  | [], m, _, _ => by
    show bil m u v = bil m u v + 0
    omega
  | z :: zs, m, hm, h => by
    obtain ⟨h1, h2⟩ := h z List.mem_cons_self
    have ih := bil_fold (v := v) hu zs (infoStep m z) (step_isMat hm h1) fun y hy => h y (List.mem_cons_of_mem _ hy)
    rw [List.foldl_cons, ih]
    have e : bil (infoStep m z) u v = bil m u v + z.2 * (dot u z.1 * dot z.1 v) := by
      unfold infoStep
      split
      · exact bil_moved hm h1 hu
      · have : z.2 = 0 := by omega
        rw [this]; omega
    rw [e]
    show _ = bil m u v + (z.2 * (dot u z.1 * dot z.1 v) + quad zs u v)
    omega
theorem dot_zeros (n : Nat) : ∀ v : Row, dot (List.replicate n 0) v = 0 := by
  induction n with
  | zero => intro v; exact dot_nil_left v
  | succ n ih =>
    intro v
    cases v with
    | nil => exact dot_nil_right _
    | cons a v => rw [List.replicate_succ, dot_cons, ih]; omega
theorem dot_zero_right (u v : Row) (h : ∀ x ∈ v, x = 0) : dot u v = 0 := by
  induction v generalizing u with
  | nil => exact dot_nil_right u
  | cons a v ih =>
    cases u with
    | nil => exact dot_nil_left _
    | cons b u =>
      rw [dot_cons, ih u (fun x hx => h x (List.mem_cons_of_mem _ hx)), h a List.mem_cons_self]
      omega
theorem bil_nothing (n : Nat) (u v : Row) : bil (nothing n) u v = 0 := by
  unfold bil
  refine dot_zero_right _ _ fun x hx => ?_
  unfold mulv at hx
  obtain ⟨l, hl, rfl⟩ := List.mem_map.mp hx
  unfold nothing at hl
  rw [List.eq_of_mem_replicate hl]
  exact dot_zeros n v
/-- what is asked of rows and weights -/
structure RW (n : Nat) (rows : List Row) (ws : List Int) : Prop where
  row : ∀ r ∈ rows, r.length = n
  nn : ∀ c ∈ ws, 0 ≤ c
theorem RW.zip {n : Nat} {rows : List Row} {ws : List Int} (h : RW n rows ws) : ∀ z ∈ rows.zip ws, z.1.length = n ∧ 0 ≤ z.2 := fun z hz => by
  obtain ⟨h1, h2⟩ := List.of_mem_zip (a := z.1) (b := z.2) hz
  exact ⟨h.row _ h1, h.nn _ h2⟩
theorem info_isMat {n : Nat} {rows : List Row} {ws : List Int} (h : RW n rows ws) : IsMat n (information n rows ws) := fold_isMat (nothing_isMat n) fun z hz => (h.zip z hz).1
theorem info_bil {n : Nat} {rows : List Row} {ws : List Int} (h : RW n rows ws) {u v : Row} (hu : u.length = n) : bil (information n rows ws) u v = quad (rows.zip ws) u v := by
  unfold information
  rw [bil_fold hu _ _ (nothing_isMat n) h.zip, bil_nothing]
  omega
theorem quad_comm (zs : List (Row × Int)) (u v : Row) : quad zs u v = quad zs v u := by
  unfold quad
  congr 1
  refine List.map_congr_left fun z _ => ?_
  rw [dot_comm u, dot_comm _ v, Int.mul_comm (dot z.1 u)]
theorem quad_nn {zs : List (Row × Int)} (h : ∀ z ∈ zs, 0 ≤ z.2) (v : Row) : 0 ≤ quad zs v v := by
  unfold quad
  induction zs with
  | nil => exact Int.le_refl 0
  | cons z zs ih =>
    have i := ih fun y hy => h y (List.mem_cons_of_mem _ hy)
    rw [List.map_cons, List.sum_cons, dot_comm v]
    have := Int.mul_nonneg (h z List.mem_cons_self) (sq_nn (dot z.1 v))
    omega
theorem quad_zero {zs : List (Row × Int)} (h : ∀ z ∈ zs, 0 ≤ z.2) (v : Row) (e : quad zs v v = 0) : ∀ z ∈ zs, z.2 = 0 ∨ dot z.1 v = 0 := by
  induction zs with
  | nil => intro z hz; cases hz
  | cons y zs ih =>
    have i := quad_nn (zs := zs) (fun y hy => h y (List.mem_cons_of_mem _ hy)) v
    have a := Int.mul_nonneg (h y List.mem_cons_self) (sq_nn (dot y.1 v))
    have e' : y.2 * (dot y.1 v * dot y.1 v) + quad zs v v = 0 := by
      rw [← e]
      unfold quad
      rw [List.map_cons, List.sum_cons, dot_comm v]
    have ez : quad zs v v = 0 := by omega
    have ey : y.2 * (dot y.1 v * dot y.1 v) = 0 := by omega
    intro z hz
    rcases List.mem_cons.mp hz with rfl | hz
    · rcases Int.mul_eq_zero.mp ey with q | q
      · exact .inl q
      · rcases Int.mul_eq_zero.mp q with q | q <;> exact .inr q
    · exact ih (fun y hy => h y (List.mem_cons_of_mem _ hy)) ez z hz
theorem quad_vanish {zs : List (Row × Int)} {v : Row} (h : ∀ z ∈ zs, z.2 = 0 ∨ dot z.1 v = 0) (u : Row) : quad zs u v = 0 := by
  unfold quad
  induction zs with
  | nil => rfl
  | cons z zs ih =>
    rw [List.map_cons, List.sum_cons, ih fun y hy => h y (List.mem_cons_of_mem _ hy)]
    rcases h z List.mem_cons_self with q | q <;> rw [q] <;> omega
section
variable {n : Nat} {rows : List Row} {ws : List Int} (h1 : 1 ≤ n) (h4 : n ≤ 4) (h : RW n rows ws)
include h
theorem info_sym : SymB n (information n rows ws) := fun u v hu hv => by
  rw [info_bil h hu, info_bil h hv, quad_comm]
theorem info_psd : Psd n (information n rows ws) := fun v hv => by
  rw [info_bil h hv]
  exact quad_nn (fun z hz => (h.zip z hz).2) v
include h1 h4
/-- the determinant is never negative -/
theorem info_det_nn : 0 ≤ det (information n rows ws) := (psd_det h1 h4 (info_isMat h) (info_sym h) (info_psd h)).1
/-- a vector whose form vanishes is nothing, where the determinant isn't 0 -/
theorem info_def (hd : det (information n rows ws) ≠ 0) {v : Row} (hv : v.length = n) (e : bil (information n rows ws) v v = 0) : ∀ x ∈ v, x = 0 := by
  have hm := info_isMat h
  rw [info_bil h hv] at e
  have k := quad_zero (fun z hz => (h.zip z hz).2) v e
  have hw : (mulv (information n rows ws) v).length = n := by rw [mulv_length, hm.len]
  have z : dot (mulv (information n rows ws) v) (mulv (information n rows ws) v) = 0 := by
    have := info_bil h (u := mulv (information n rows ws) v) (v := v) hw
    unfold bil at this
    rw [this]
    exact quad_vanish k _
  have zz := dot_self z
  have a := adjv_mulv h1 h4 hm hv
  intro x hx
  have hx2 : det (information n rows ws) * x ∈ adjv (information n rows ws) (mulv (information n rows ws) v) := by
    rw [a]
    exact List.mem_map.mpr ⟨x, hx, rfl⟩
  unfold adjv at hx2
  obtain ⟨j, _, hj⟩ := List.mem_map.mp hx2
  rw [dot_zero_right _ _ zz] at hj
  rcases Int.mul_eq_zero.mp hj.symm with q | q
  · exact absurd q hd
  · exact q
/-- the variance's numerator is never negative, and 0 of the vector of noughts alone -/
theorem info_var_nn (hd : 0 < det (information n rows ws)) {x : Row} (hx : x.length = n) : 0 ≤ dot x (adjv (information n rows ws) x) ∧ (dot x (adjv (information n rows ws) x) = 0 → ∀ a ∈ x, a = 0) := by
  have hm := info_isMat h
  have hz : (adjv (information n rows ws) x).length = n := by rw [adjv_length, hm.len]
  have e := mulv_adjv h1 h4 hm hx
  have b : bil (information n rows ws) (adjv (information n rows ws) x) (adjv (information n rows ws) x) = det (information n rows ws) * dot x (adjv (information n rows ws) x) := by
    unfold bil
    rw [e, dot_map_mul, dot_comm x]
  have p := info_psd h _ hz
  rw [b] at p
  refine ⟨pos_of_mul hd p, fun q => ?_⟩
  rw [q, Int.mul_zero] at b
  have k := info_def h1 h4 h (by omega) hz b
  have mz : mulv (information n rows ws) (adjv (information n rows ws) x) = x.map (det (information n rows ws) * ·) := e
  intro a ha
  have hx2 : det (information n rows ws) * a ∈ mulv (information n rows ws) (adjv (information n rows ws) x) := by
    rw [mz]
    exact List.mem_map.mpr ⟨a, ha, rfl⟩
  unfold mulv at hx2
  obtain ⟨l, _, hl⟩ := List.mem_map.mp hx2
  rw [dot_zero_right _ _ k] at hl
  rcases Int.mul_eq_zero.mp hl.symm with r | r
  · omega
  · exact r
/-- other weights that are above 0 wherever these are, but for rows of noughts -/
theorem info_stays {ws' : List Int} (h' : RW n rows ws') (hd : 0 < det (information n rows ws)) (hl : ws'.length = ws.length)
    (k : ∀ (i : Nat) (r : Row) (c c' : Int), rows[i]? = some r → ws[i]? = some c → ws'[i]? = some c' → 0 < c → (∃ a ∈ r, a ≠ 0) → 0 < c') : 0 < det (information n rows ws') := by
  obtain ⟨p1, p2⟩ := psd_det h1 h4 (info_isMat h') (info_sym h') (info_psd h')
  by_cases e : det (information n rows ws') = 0
  · exfalso
    obtain ⟨v, hv, ⟨x, hx, hx0⟩, hz⟩ := p2 e
    rw [info_bil h' hv] at hz
    have q := quad_zero (fun z hz => (h'.zip z hz).2) v hz
    have q2 : ∀ z ∈ rows.zip ws, z.2 = 0 ∨ dot z.1 v = 0 := by
      intro z hz
      obtain ⟨i, hi⟩ := List.getElem?_of_mem hz
      rw [List.getElem?_zip_eq_some] at hi
      obtain ⟨hi1, hi2⟩ := hi
      have hlt : i < ws'.length := by
        rw [hl]
        exact (List.getElem?_eq_some_iff.mp hi2).1
      obtain ⟨c', hc'⟩ : ∃ c', ws'[i]? = some c' := ⟨ws'[i], by simp [hlt]⟩
      have hz' : (z.1, c') ∈ rows.zip ws' := List.mem_of_getElem? (by rw [List.getElem?_zip_eq_some]; exact ⟨hi1, hc'⟩)
      rcases q _ hz' with r | r
      · by_cases c0 : z.2 = 0
        · exact .inl c0
        · have cp : 0 < z.2 := by have := (h.zip z hz).2; omega
          by_cases hr : ∃ a ∈ z.1, a ≠ 0
          · have := k i z.1 z.2 c' hi1 hi2 hc' cp hr
            simp only at r
            omega
          · refine .inr ?_
            rw [dot_comm]
            exact dot_zero_right _ _ fun a ha => Classical.byContradiction fun hn => hr ⟨a, ha, hn⟩
      · exact .inr r
    have b0 : bil (information n rows ws) v v = 0 := by
      rw [info_bil h hv]
      exact quad_vanish q2 v
    exact hx0 (info_def h1 h4 h (by omega) hv b0 x hx)
  · omega
end
theorem weighed_cof {n : Nat} {m : Mat} {x : Row} (h1 : 1 ≤ n) (h4 : n ≤ 4) (hm : IsMat n m) (hx : x.length = n) : weighed (cofactors m) x = dot x (adjv m x) := by
  rcases le4 h1 h4 with rfl | rfl | rfl | rfl
  · obtain ⟨a, rfl⟩ := mat1 hm
    obtain ⟨x, rfl⟩ := row1 hx
    have e0 : weighed (cofactors [[a]]) [x] = 0 + x * dot [x] [sgn 0 * det []] := rfl
    have e1 : adjv [[a]] [x] = [dot [sgn 0 * det []] [x]] := rfl
    simp only [e0, e1, dot1]
    grind
  · obtain ⟨a, b, c, d, rfl⟩ := mat2 hm
    obtain ⟨x, y, rfl⟩ := row2 hx
    have e0 : weighed (cofactors [[a, b], [c, d]]) [x, y] = 0 + x * dot [x, y] [cofactor [[a, b], [c, d]] 0 0, cofactor [[a, b], [c, d]] 0 1] + y * dot [x, y] [cofactor [[a, b], [c, d]] 1 0, cofactor [[a, b], [c, d]] 1 1] := rfl
    have e1 : adjv [[a, b], [c, d]] [x, y] = [dot [cofactor [[a, b], [c, d]] 0 0, cofactor [[a, b], [c, d]] 1 0] [x, y], dot [cofactor [[a, b], [c, d]] 0 1, cofactor [[a, b], [c, d]] 1 1] [x, y]] := rfl
    simp only [e0, e1, dot2]
    grind
  · obtain ⟨a, b, c, d, e, f, g, i, j, rfl⟩ := mat3 hm
    obtain ⟨x, y, z, rfl⟩ := row3 hx
    generalize hM : [[a, b, c], [d, e, f], [g, i, j]] = M
    have hl : M.length = 3 := by rw [← hM]; rfl
    have e0 : weighed (cofactors M) [x, y, z] = 0 + x * dot [x, y, z] [cofactor M 0 0, cofactor M 0 1, cofactor M 0 2] + y * dot [x, y, z] [cofactor M 1 0, cofactor M 1 1, cofactor M 1 2] + z * dot [x, y, z] [cofactor M 2 0, cofactor M 2 1, cofactor M 2 2] := by
      unfold cofactors; rw [hl]; rfl
    have e1 : adjv M [x, y, z] = [dot [cofactor M 0 0, cofactor M 1 0, cofactor M 2 0] [x, y, z], dot [cofactor M 0 1, cofactor M 1 1, cofactor M 2 1] [x, y, z], dot [cofactor M 0 2, cofactor M 1 2, cofactor M 2 2] [x, y, z]] := by
      unfold adjv; rw [hl]; rfl
    simp only [e0, e1, dot3]
    grind
  · obtain ⟨a, b, c, d, e, f, g, i, j, k, l, o, p, q, s, t, rfl⟩ := mat4 hm
    obtain ⟨x, y, z, w, rfl⟩ := row4 hx
    generalize hM : [[a, b, c, d], [e, f, g, i], [j, k, l, o], [p, q, s, t]] = M
    have hl : M.length = 4 := by rw [← hM]; rfl
    have e0 : weighed (cofactors M) [x, y, z, w] = 0 + x * dot [x, y, z, w] [cofactor M 0 0, cofactor M 0 1, cofactor M 0 2, cofactor M 0 3] + y * dot [x, y, z, w] [cofactor M 1 0, cofactor M 1 1, cofactor M 1 2, cofactor M 1 3] + z * dot [x, y, z, w] [cofactor M 2 0, cofactor M 2 1, cofactor M 2 2, cofactor M 2 3] + w * dot [x, y, z, w] [cofactor M 3 0, cofactor M 3 1, cofactor M 3 2, cofactor M 3 3] := by
      unfold cofactors; rw [hl]; rfl
    have e1 : adjv M [x, y, z, w] = [dot [cofactor M 0 0, cofactor M 1 0, cofactor M 2 0, cofactor M 3 0] [x, y, z, w], dot [cofactor M 0 1, cofactor M 1 1, cofactor M 2 1, cofactor M 3 1] [x, y, z, w], dot [cofactor M 0 2, cofactor M 1 2, cofactor M 2 2, cofactor M 3 2] [x, y, z, w], dot [cofactor M 0 3, cofactor M 1 3, cofactor M 2 3, cofactor M 3 3] [x, y, z, w]] := by
      unfold adjv; rw [hl]; rfl
    simp only [e0, e1, dot4]
    grind
/-! ## bounds -/
def EV (b : Nat) (m : Mat) : Prop := ∀ r ∈ m, ∀ x ∈ r, x.natAbs ≤ b
theorem EV.mono {a b : Nat} {m : Mat} (h : EV a m) (hl : a ≤ b) : EV b m := fun r hr x hx => Nat.le_trans (h r hr x hx) hl
theorem EV.eb {a b : Nat} {m : Mat} (h : EV a m) (hl : a ≤ 2 ^ b) : EB b m := fun r hr x hx => Nat.le_trans (h r hr x hx) hl
theorem moved_ev {b k : Nat} {m : Mat} {row : Row} {t : Int} (h : EV b m) (hr : ∀ x ∈ row, x.natAbs ≤ 10) (ht : t.natAbs ≤ k) : EV (b + 100 * k) (moved m row t) := by
  intro r hr2 x hx
  unfold moved at hr2
  obtain ⟨i, hi⟩ := List.getElem?_of_mem hr2
  rw [List.getElem?_zipWith] at hi
  cases e1 : row[i]? with
  | none => rw [e1] at hi; cases hi
  | some e =>
    cases e2 : m[i]? with
    | none => rw [e1, e2] at hi; cases hi
    | some l =>
      rw [e1, e2] at hi
      have hi' : movedLine e t l row = r := Option.some.inj hi
      subst hi'
      unfold movedLine at hx
      obtain ⟨j, hj⟩ := List.getElem?_of_mem hx
      rw [List.getElem?_zipWith] at hj
      cases e3 : l[j]? with
      | none => rw [e3] at hj; cases hj
      | some v =>
        cases e4 : row[j]? with
        | none => rw [e3, e4] at hj; cases hj
        | some o =>
          rw [e3, e4] at hj
          have hj' : v + t * e * o = x := Option.some.inj hj
          rw [← hj']
          have b1 := h l (List.mem_of_getElem? e2) v (List.mem_of_getElem? e3)
          have b2 := hr e (List.mem_of_getElem? e1)
          have b3 := hr o (List.mem_of_getElem? e4)
          have b4 : (t * e * o).natAbs ≤ k * 10 * 10 := by
            rw [Int.natAbs_mul, Int.natAbs_mul]
            exact Nat.mul_le_mul (Nat.mul_le_mul ht b2) b3
          have := Int.natAbs_add_le v (t * e * o)
          omega
theorem fold_ev {k : Nat} : ∀ (zs : List (Row × Int)) (m : Mat) (b : Nat), EV b m → (∀ z ∈ zs, (∀ x ∈ z.1, x.natAbs ≤ 10) ∧ z.2.natAbs ≤ k) → EV (b + zs.length * (100 * k)) (zs.foldl infoStep m)
  | [], m, b, h, _ => by simpa using h
  | z :: zs, m, b, h, hz => by
    obtain ⟨h1, h2⟩ := hz z List.mem_cons_self
    have e : EV (b + 100 * k) (infoStep m z) := by
      unfold infoStep
      split
      · exact moved_ev h h1 h2
      · exact h.mono (by omega)
    have := fold_ev zs _ _ e fun y hy => hz y (List.mem_cons_of_mem _ hy)
    rw [List.foldl_cons, List.length_cons]
    refine this.mono ?_
    rw [Nat.succ_mul (zs.length) (100 * k)]
    omega
theorem info_ev {n k : Nat} {rows : List Row} {ws : List Int} (hr : EV 10 rows) (hw : ∀ c ∈ ws, c.natAbs ≤ k) (hl : rows.length ≤ 10) : EV (1000 * k) (information n rows ws) := by
  have h0 : EV 0 (nothing n) := fun r hr x hx => by
    unfold nothing at hr
    rw [List.eq_of_mem_replicate hr] at hx
    rw [List.eq_of_mem_replicate hx]
    exact Nat.le_refl 0
  have := fold_ev (k := k) (rows.zip ws) _ _ h0 fun z hz => by
    obtain ⟨h1, h2⟩ := List.of_mem_zip (a := z.1) (b := z.2) hz
    exact ⟨hr _ h1, hw _ h2⟩
  refine this.mono ?_
  have hz : (rows.zip ws).length ≤ 10 := by rw [List.length_zip]; omega
  have := Nat.mul_le_mul_right (100 * k) hz
  omega
end Bd
namespace Bd
open Kxd5
/-! # Weights: whole numbers over one denominator -/
def sbStep (f : Int) (w : Fraction) : Int := f * ((fraction f (w.denominator : Int)).denominator : Int)
def sb (ws : List Fraction) : Int := ws.foldl sbStep 1
def wCounts (ws : List Fraction) : List Int := ws.map fun w => w.numerator * (sb ws / (w.denominator : Int))
def soMat (n : Nat) (rows : List Row) (ws : List Fraction) : Mat := information n rows (wCounts ws)
def soF (n : Nat) (rows : List Row) (ws : List Fraction) : List Fraction :=
  List.zipWith (fun r w => times w (times (fraction (weighed (cofactors (soMat n rows ws)) r) (det (soMat n rows ws))) (fraction (sb ws) (n : Int)))) rows ws
theorem den_fraction {a b : Int} (hb : 0 < b) : ((fraction a b).denominator : Int) = b / (Int.gcd a b : Int) := by
  unfold fraction
  simp only [show ¬ b = 0 by omega, show ¬ b < 0 by omega, if_false]
  exact Int.toNat_of_nonneg (Int.ediv_nonneg (by omega) (by omega))
theorem num_fraction {a b : Int} (hb : 0 < b) : (fraction a b).numerator = a / (Int.gcd a b : Int) := by
  unfold fraction
  simp only [show ¬ b = 0 by omega, show ¬ b < 0 by omega, if_false]
theorem fraction_cross {a b : Int} (hb : 0 < b) : (fraction a b).numerator * b = a * ((fraction a b).denominator : Int) := by
  rw [den_fraction hb, num_fraction hb]
  have hg : 0 < Int.gcd a b := Int.gcd_pos_of_ne_zero_right _ (by omega)
  obtain ⟨p, hp⟩ : (Int.gcd a b : Int) ∣ a := Int.gcd_dvd_left ..
  obtain ⟨q, hq⟩ : (Int.gcd a b : Int) ∣ b := Int.gcd_dvd_right ..
  have e1 : a / (Int.gcd a b : Int) = p := Int.ediv_eq_of_eq_mul_right (by omega) hp
  have e2 : b / (Int.gcd a b : Int) = q := Int.ediv_eq_of_eq_mul_right (by omega) hq
  rw [e1, e2]
  have h1 : a * q = (Int.gcd a b : Int) * p * q := congrArg (· * q) hp
  have h2 : p * b = p * ((Int.gcd a b : Int) * q) := congrArg (p * ·) hq
  rw [h1, h2]
  grind
theorem den_dvd {a b : Int} (hb : 0 < b) : ((fraction a b).denominator : Int) ∣ b := by
  rw [den_fraction hb]
  obtain ⟨q, hq⟩ : (Int.gcd a b : Int) ∣ b := Int.gcd_dvd_right ..
  have hg : 0 < Int.gcd a b := Int.gcd_pos_of_ne_zero_right _ (by omega)
  have e2 : b / (Int.gcd a b : Int) = q := Int.ediv_eq_of_eq_mul_right (by omega) hq
  rw [e2]
  exact ⟨_, by rw [Int.mul_comm q]; exact hq⟩
theorem num_nn {a b : Int} (hb : 0 < b) (ha : 0 ≤ a) : 0 ≤ (fraction a b).numerator := by
  rw [num_fraction hb]
  exact Int.ediv_nonneg ha (by omega)
/-- the least common multiple -/
theorem sbStep_ok {f d : Int} {w : Fraction} (hf : 0 < f) (hw : 0 < w.denominator) (h1 : f ∣ d) (h2 : (w.denominator : Int) ∣ d) : 0 < sbStep f w ∧ f ∣ sbStep f w ∧ (w.denominator : Int) ∣ sbStep f w ∧ sbStep f w ∣ d := by
  unfold sbStep
  have hb : (0 : Int) < (w.denominator : Int) := by omega
  rw [den_fraction hb]
  have hg : 0 < Int.gcd f (w.denominator : Int) := Int.gcd_pos_of_ne_zero_right _ (by omega)
  obtain ⟨p, hp⟩ : (Int.gcd f (w.denominator : Int) : Int) ∣ f := Int.gcd_dvd_left ..
  obtain ⟨q, hq⟩ : (Int.gcd f (w.denominator : Int) : Int) ∣ (w.denominator : Int) := Int.gcd_dvd_right ..
  have e2 : (w.denominator : Int) / (Int.gcd f (w.denominator : Int) : Int) = q := Int.ediv_eq_of_eq_mul_right (by omega) hq
  have e1 : f / (Int.gcd f (w.denominator : Int) : Int) = p := Int.ediv_eq_of_eq_mul_right (by omega) hp
  rw [e2]
  have qp : 0 < q := by
    rcases Int.lt_or_le 0 q with z | z
    · exact z
    · have := Int.mul_nonneg (show (0 : Int) ≤ (Int.gcd f (w.denominator : Int) : Int) by omega) (show 0 ≤ -q by omega)
      rw [Int.mul_neg] at this
      omega
  have cop := gcd_div (n := f) (d := (w.denominator : Int)) (by omega)
  rw [e1, e2] at cop
  refine ⟨Int.mul_pos hf qp, ⟨q, rfl⟩, ⟨p, ?_⟩, ?_⟩
  · have h3 : f * q = (Int.gcd f (w.denominator : Int) : Int) * p * q := congrArg (· * q) hp
    have h4 : (w.denominator : Int) * p = (Int.gcd f (w.denominator : Int) : Int) * q * p := congrArg (· * p) hq
    rw [h3, h4]
    grind
  · obtain ⟨x, hx⟩ := h1
    obtain ⟨y, hy⟩ := h2
    have h5 : p * x = q * y := by
      have h6 : (Int.gcd f (w.denominator : Int) : Int) * (p * x) = (Int.gcd f (w.denominator : Int) : Int) * (q * y) := by
        have a1 : d = (Int.gcd f (w.denominator : Int) : Int) * p * x := by
          rw [hx]; exact congrArg (· * x) hp
        have a2 : d = (Int.gcd f (w.denominator : Int) : Int) * q * y := by
          rw [hy]; exact congrArg (· * y) hq
        rw [← Int.mul_assoc, ← Int.mul_assoc, ← a1, ← a2]
      exact Int.eq_of_mul_eq_mul_left (by omega) h6
    have h7 : q ∣ x := by
      have z : q ∣ p * x := ⟨y, h5⟩
      have z2 := Int.dvd_gcd_mul_iff_dvd_mul.mpr z
      rw [Int.gcd_comm, cop] at z2
      simpa using z2
    obtain ⟨k, hk⟩ := h7
    exact ⟨k, by rw [hx, hk]; grind⟩
theorem sb_ok {d : Int} : ∀ (ws : List Fraction) (f : Int), 0 < f → f ∣ d → (∀ w ∈ ws, 0 < w.denominator ∧ (w.denominator : Int) ∣ d) →
    0 < ws.foldl sbStep f ∧ f ∣ ws.foldl sbStep f ∧ (∀ w ∈ ws, (w.denominator : Int) ∣ ws.foldl sbStep f) ∧ ws.foldl sbStep f ∣ d
  | [], f, hf, hd, _ => ⟨hf, Int.dvd_refl f, fun w hw => (by cases hw), hd⟩
  | w :: ws, f, hf, hd, h => by
    obtain ⟨h1, h2⟩ := h w List.mem_cons_self
    obtain ⟨a, b, c, e⟩ := sbStep_ok hf h1 hd h2
    obtain ⟨a', b', c', e'⟩ := sb_ok ws (sbStep f w) a e fun x hx => h x (List.mem_cons_of_mem _ hx)
    refine ⟨a', Int.dvd_trans b b', fun x hx => ?_, e'⟩
    rcases List.mem_cons.mp hx with rfl | hx
    · exact Int.dvd_trans c b'
    · exact c' x hx
theorem zw_congr {α β γ : Type} {f g : α → β → γ} : ∀ (l : List α) (m : List β), (∀ z ∈ l.zip m, f z.1 z.2 = g z.1 z.2) → List.zipWith f l m = List.zipWith g l m
  | [], _, _ => rfl
  | _ :: _, [], _ => rfl
  | a :: l, b :: m, h => by
    rw [List.zipWith_cons_cons, List.zipWith_cons_cons, h (a, b) List.mem_cons_self, zw_congr l m fun z hz => h z (List.mem_cons_of_mem _ hz)]
/-- weights: a whole number each, over D -/
structure GoodW (n : Nat) (rows : List Row) (k : Nat) (ws : List Fraction) (a : List Int) (D : Int) : Prop where
  dp : 0 < D
  db : Bn k D
  eq : ws = a.map fun x => fraction x D
  len : a.length = rows.length
  nn : ∀ x ∈ a, 0 ≤ x
  bn : ∀ x ∈ a, Bn k x
  det : 0 < det (information n rows a)
section
variable {n : Nat} {rows : List Row} {k : Nat} {ws : List Fraction} {a : List Int} {D : Int} (g : GoodW n rows k ws a D)
include g
theorem GoodW.mem {w : Fraction} (hw : w ∈ ws) : ∃ x ∈ a, w = fraction x D := by
  rw [g.eq] at hw
  obtain ⟨x, hx, rfl⟩ := List.mem_map.mp hw
  exact ⟨x, hx, rfl⟩
theorem GoodW.den {w : Fraction} (hw : w ∈ ws) : 0 < w.denominator ∧ (w.denominator : Int) ∣ D := by
  obtain ⟨x, hx, rfl⟩ := g.mem hw
  exact ⟨(norm_fraction _ _).pos, den_dvd g.dp⟩
theorem GoodW.sb : 0 < sb ws ∧ (∀ w ∈ ws, (w.denominator : Int) ∣ sb ws) ∧ sb ws ∣ D := by
  obtain ⟨h1, _, h2, h3⟩ := sb_ok (d := D) ws 1 (by decide) (Int.one_dvd D) fun w hw => g.den hw
  exact ⟨h1, h2, h3⟩
theorem GoodW.sb_le : Bd.sb ws ≤ D := Int.le_of_dvd g.dp g.sb.2.2
theorem GoodW.sb_bn : Bn k (Bd.sb ws) := by
  have h1 := g.sb.1
  have h2 := g.sb_le
  have h3 := g.db
  unfold Bn at *
  omega
/-- the count of x -/
theorem GoodW.count {x : Int} (hx : x ∈ a) : (fraction x D).numerator * (Bd.sb ws / ((fraction x D).denominator : Int)) * D = x * Bd.sb ws := by
  have hw : fraction x D ∈ ws := by rw [g.eq]; exact List.mem_map.mpr ⟨x, hx, rfl⟩
  obtain ⟨q, hq⟩ := g.sb.2.1 _ hw
  have dp := (norm_fraction x D).pos
  have e : Bd.sb ws / ((fraction x D).denominator : Int) = q := Int.ediv_eq_of_eq_mul_right (by omega) hq
  rw [e]
  have c := fraction_cross (a := x) g.dp
  have h1 : x * Bd.sb ws = x * (((fraction x D).denominator : Int) * q) := congrArg (x * ·) hq
  rw [h1, ← Int.mul_assoc, ← c]
  grind
theorem GoodW.counts : wCounts ws = a.map fun x => (fraction x D).numerator * (Bd.sb ws / ((fraction x D).denominator : Int)) := by
  unfold wCounts
  conv => lhs; arg 2; rw [g.eq]
  rw [List.map_map]
  rfl
theorem GoodW.c_ok {x : Int} (hx : x ∈ a) : 0 ≤ (fraction x D).numerator * (Bd.sb ws / ((fraction x D).denominator : Int)) ∧ (fraction x D).numerator * (Bd.sb ws / ((fraction x D).denominator : Int)) ≤ x ∧
    (0 < x → 0 < (fraction x D).numerator * (Bd.sb ws / ((fraction x D).denominator : Int))) := by
  have c := g.count hx
  have x0 := g.nn x hx
  have s0 := g.sb.1
  have sl := g.sb_le
  have dp := g.dp
  generalize (fraction x D).numerator * (Bd.sb ws / ((fraction x D).denominator : Int)) = y at c
  have y0 : 0 ≤ y := by
    rcases Int.lt_or_le y 0 with z | z
    · have h1 := Int.mul_neg_of_neg_of_pos z dp
      have h2 := Int.mul_nonneg x0 (Int.le_of_lt s0)
      omega
    · exact z
  refine ⟨y0, ?_, fun xp => ?_⟩
  · rcases Int.lt_or_le x y with z | z
    · have h1 := Int.mul_lt_mul_of_pos_right z dp
      have h2 := Int.mul_le_mul_of_nonneg_left sl x0
      omega
    · exact z
  · rcases Int.lt_or_eq_of_le y0 with z | z
    · exact z
    · rw [← z] at c
      have := Int.mul_pos xp s0
      omega
theorem GoodW.c_mem {c : Int} (hc : c ∈ wCounts ws) : 0 ≤ c ∧ Bn k c := by
  rw [g.counts] at hc
  obtain ⟨x, hx, rfl⟩ := List.mem_map.mp hc
  obtain ⟨h1, h2, _⟩ := g.c_ok hx
  have h3 := g.bn x hx
  refine ⟨h1, ?_⟩
  unfold Bn at *
  omega
theorem GoodW.c_len : (wCounts ws).length = rows.length := by rw [g.counts, List.length_map, g.len]
variable (h1 : 1 ≤ n) (h4 : n ≤ 4) (hr : ∀ r ∈ rows, r.length = n)
include hr
theorem GoodW.rwA : RW n rows a := ⟨hr, g.nn⟩
theorem GoodW.rwC : RW n rows (wCounts ws) := ⟨hr, fun c hc => (g.c_mem hc).1⟩
include h1 h4
theorem GoodW.c_det : 0 < Bd.det (soMat n rows ws) := by
  refine info_stays h1 h4 (g.rwA hr) (g.rwC hr) g.det (by rw [g.c_len, g.len]) fun i r c c' hr' hc hc' cp _ => ?_
  rw [g.counts, List.getElem?_map, hc] at hc'
  have e : (fraction c D).numerator * (Bd.sb ws / ((fraction c D).denominator : Int)) = c' := Option.some.inj hc'
  rw [← e]
  exact (g.c_ok (List.mem_of_getElem? hc)).2.2 cp
omit h1 h4
theorem GoodW.quad (u v : Row) : D * quad (rows.zip (wCounts ws)) u v = Bd.sb ws * quad (rows.zip a) u v := by
  have key : ∀ (rs : List Row) (b : List Int), (∀ x ∈ b, x ∈ a) → D * Bd.quad (rs.zip (b.map fun x => (fraction x D).numerator * (Bd.sb ws / ((fraction x D).denominator : Int)))) u v = Bd.sb ws * Bd.quad (rs.zip b) u v := by
    intro rs
    induction rs with
    | nil => intro b _; show D * 0 = Bd.sb ws * 0; omega
    | cons r rs ih =>
      intro b hb
      cases b with
      | nil => show D * 0 = Bd.sb ws * 0; omega
      | cons x b =>
        have e := ih b fun y hy => hb y (List.mem_cons_of_mem _ hy)
        have c := g.count (hb x List.mem_cons_self)
        show D * (_ * (dot u r * dot r v) + Bd.quad (rs.zip (b.map _)) u v) = Bd.sb ws * (x * (dot u r * dot r v) + Bd.quad (rs.zip b) u v)
        rw [Int.mul_add, e]
        grind
  rw [g.counts]
  exact key rows a fun _ h => h
include h1 h4
/-- the variances by the counts and by the whole numbers -/
theorem GoodW.cross {x : Row} (hx : x.length = n) : D * Bd.det (soMat n rows ws) * weighed (cofactors (information n rows a)) x = Bd.sb ws * Bd.det (information n rows a) * weighed (cofactors (soMat n rows ws)) x := by
  have rA := g.rwA hr
  have rC := g.rwC hr
  have mA := info_isMat rA
  have mC : IsMat n (soMat n rows ws) := info_isMat rC
  rw [weighed_cof h1 h4 mA hx, weighed_cof h1 h4 mC hx]
  have zA : (adjv (information n rows a) x).length = n := by rw [adjv_length, mA.len]
  have zC : (adjv (soMat n rows ws) x).length = n := by rw [adjv_length, mC.len]
  have eA := mulv_adjv h1 h4 mA hx
  have eC := mulv_adjv h1 h4 mC hx
  have b1 : bil (soMat n rows ws) (adjv (information n rows a) x) (adjv (soMat n rows ws) x) = Bd.det (soMat n rows ws) * dot x (adjv (information n rows a) x) := by
    unfold bil
    rw [eC, dot_map_mul, dot_comm x]
  have b2 : bil (information n rows a) (adjv (soMat n rows ws) x) (adjv (information n rows a) x) = Bd.det (information n rows a) * dot x (adjv (soMat n rows ws) x) := by
    unfold bil
    rw [eA, dot_map_mul, dot_comm x]
  have b3 : bil (soMat n rows ws) (adjv (information n rows a) x) (adjv (soMat n rows ws) x) = Bd.quad (rows.zip (wCounts ws)) (adjv (soMat n rows ws) x) (adjv (information n rows a) x) := by
    rw [quad_comm]
    exact info_bil rC zA
  have b4 := info_bil rA (u := adjv (soMat n rows ws) x) (v := adjv (information n rows a) x) zC
  have q := g.quad hr (adjv (soMat n rows ws) x) (adjv (information n rows a) x)
  rw [← b3, ← b4, b1, b2] at q
  grind
def nextA (n : Nat) (rows : List Row) (a : List Int) : List Int := List.zipWith (fun r x => x * weighed (cofactors (information n rows a)) r) rows a
/-- one step, over the new denominator -/
theorem GoodW.step : soF n rows ws = (nextA n rows a).map fun x => fraction x ((n : Int) * Bd.det (information n rows a)) := by
  unfold soF nextA
  rw [List.map_zipWith]
  conv => lhs; rw [show List.zipWith (fun r w => times w (times (fraction (weighed (cofactors (soMat n rows ws)) r) (Bd.det (soMat n rows ws))) (fraction (Bd.sb ws) (n : Int)))) rows ws =
    List.zipWith (fun r x => times (fraction x D) (times (fraction (weighed (cofactors (soMat n rows ws)) r) (Bd.det (soMat n rows ws))) (fraction (Bd.sb ws) (n : Int)))) rows a from by
      conv => lhs; arg 3; rw [g.eq]
      rw [List.zipWith_map_right]]
  refine zw_congr _ _ fun z hz => ?_
  obtain ⟨hz1, hz2⟩ := List.of_mem_zip (a := z.1) (b := z.2) hz
  refine val_inj (norm_times _ _) (norm_fraction _ _) ?_
  rw [val_times, val_times, val_fraction, val_fraction, val_fraction, val_fraction]
  have c := g.cross h1 h4 hr (hr _ hz1)
  have d1 : (D : Rat) ≠ 0 := rat_ne (by have := g.dp; omega)
  have d2 : (Bd.det (soMat n rows ws) : Rat) ≠ 0 := rat_ne (by have := g.c_det h1 h4 hr; omega)
  have d3 : (Bd.det (information n rows a) : Rat) ≠ 0 := rat_ne (by have := g.det; omega)
  have d4 : ((n : Int) : Rat) ≠ 0 := rat_ne (by omega)
  have c' : (D : Rat) * (Bd.det (soMat n rows ws) : Rat) * (weighed (cofactors (information n rows a)) z.1 : Rat) = (Bd.sb ws : Rat) * (Bd.det (information n rows a) : Rat) * (weighed (cofactors (soMat n rows ws)) z.1 : Rat) := by
    rw [← Rat.intCast_mul, ← Rat.intCast_mul, ← Rat.intCast_mul, ← Rat.intCast_mul, c]
  rw [Rat.intCast_mul, Rat.intCast_mul]
  grind
end
end Bd
namespace Bd
open Kxd5
/-! # Kxd5.solve gives the solution -/
def en (r : List Fraction) (k : Nat) : Rat := val (r.getD k ⟨0, 1⟩)
structure Rw (n : Nat) (r : List Fraction) : Prop where
  len : r.length = n + 1
  nm : ∀ x ∈ r, Norm x
variable {n k j : Nat} {r o : List Fraction}
theorem getD_of {α : Type} {l : List α} {i : Nat} (d : α) (h : i < l.length) : l.getD i d = l[i] := by
  rw [List.getD_eq_getElem?_getD, List.getElem?_eq_getElem h]
  rfl
theorem Rw.en_at (h : Rw n r) (hk : k ≤ n) : en r k = val (r[k]'(by rw [h.len]; omega)) := by
  unfold en
  rw [getD_of _ (by rw [h.len]; omega)]
theorem Rw.norm (h : Rw n r) (hk : k ≤ n) (d : Fraction) : Norm (r.getD k d) := by
  rw [getD_of _ (by rw [h.len]; omega)]
  exact h.nm _ (List.getElem_mem _)
theorem bne_iff' {x : Fraction} (h : Norm x) : (x.numerator != 0) = true ↔ val x ≠ 0 := by
  rw [bne_iff_ne, Ne, num_zero h]
theorem lead_some (h : Rw n r) (e : leadOf r = some k) : k ≤ n ∧ en r k ≠ 0 ∧ ∀ j, j < k → en r j = 0 := by
  unfold leadOf at e
  rw [List.findIdx?_eq_some_iff_getElem] at e
  obtain ⟨hk, h1, h2⟩ := e
  have hk' : k ≤ n := by rw [h.len] at hk; omega
  refine ⟨hk', ?_, fun j hj => ?_⟩
  · rw [h.en_at hk']
    exact (bne_iff' (h.nm _ (List.getElem_mem _))).mp h1
  · rw [h.en_at (by omega)]
    have := h2 j hj
    rw [bne_iff' (h.nm _ (List.getElem_mem _))] at this
    exact Classical.not_not.mp this
theorem lead_of (h : Rw n r) (hk : k ≤ n) (h1 : en r k ≠ 0) (h2 : ∀ j, j < k → en r j = 0) : leadOf r = some k := by
  unfold leadOf
  rw [List.findIdx?_eq_some_iff_getElem]
  refine ⟨by rw [h.len]; omega, ?_, fun j hj => ?_⟩
  · rw [bne_iff' (h.nm _ (List.getElem_mem _)), ← h.en_at hk]
    exact h1
  · rw [bne_iff' (h.nm _ (List.getElem_mem _)), ← h.en_at (by omega)]
    exact fun z => z (h2 j hj)
theorem lead_none (h : Rw n r) (e : leadOf r = none) : ∀ k, k ≤ n → en r k = 0 := fun k hk => by
  unfold leadOf at e
  rw [List.findIdx?_eq_none_iff] at e
  rw [h.en_at hk]
  have hk2 : k < r.length := by rw [h.len]; omega
  have hm : r[k] ∈ r := List.getElem_mem hk2
  have := e _ hm
  exact Classical.not_not.mp fun z => by rw [(bne_iff' (h.nm _ hm)).mpr z] at this; cases this
theorem red_rw (h : Rw n r) (ho : Rw n o) : Rw n (reduceBy r o) := by
  unfold reduceBy
  split
  · exact h
  · rename_i k e
    refine ⟨by rw [List.length_zipWith, h.len, ho.len]; omega, fun x hx => ?_⟩
    obtain ⟨i, hi⟩ := List.getElem?_of_mem hx
    rw [List.getElem?_zipWith] at hi
    split at hi
    · obtain rfl := Option.some.inj hi
      exact norm_minus _ _
    · cases hi
theorem red_en (h : Rw n r) (ho : Rw n o) (e : leadOf o = some k) (hj : j ≤ n) : en (reduceBy r o) j = en r j - en r k / en o k * en o j := by
  have hk := (lead_some ho e).1
  have h2 := red_rw h ho
  rw [h2.en_at hj]
  have e2 : reduceBy r o = List.zipWith (fun x y => minus x (times (over (r.getD k ⟨0, 1⟩) (o.getD k ⟨1, 1⟩)) y)) r o := by
    unfold reduceBy
    rw [e]
  simp only [e2, List.getElem_zipWith]
  rw [val_minus (h.nm _ (List.getElem_mem _)) (norm_times _ _), val_times, val_over (h.norm hk _) (ho.norm hk _), ← h.en_at hj, ← ho.en_at hj]
  have : val (o.getD k ⟨1, 1⟩) = en o k := by
    unfold en
    rw [getD_of _ (by rw [ho.len]; omega), getD_of _ (by rw [ho.len]; omega)]
  rw [this]
  rfl
/-! ## linear functionals -/
def Lin (n : Nat) (L : List Fraction → Rat) : Prop := ∀ r o k, Rw n r → Rw n o → leadOf o = some k → L (reduceBy r o) = L r - en r k / en o k * L o
theorem lin_en (hj : j ≤ n) : Lin n fun r => en r j := fun r o k h ho e => red_en h ho e hj
def sm (n : Nat) (v : Nat → Rat) (r : List Fraction) : Rat := ((List.range n).map fun j => en r j * v j).sum
theorem sum_lin (f : Rat) (a b v : Nat → Rat) : ∀ l : List Nat, (l.map fun j => (a j - f * b j) * v j).sum = (l.map fun j => a j * v j).sum - f * (l.map fun j => b j * v j).sum
  | [] => by
    simp only [List.map_nil, List.sum_nil]
    grind
  | x :: l => by
    simp only [List.map_cons, List.sum_cons]
    rw [sum_lin f a b v l]
    grind
theorem lin_sm (v : Nat → Rat) : Lin n (sm n v) := fun r o k h ho e => by
  unfold sm
  rw [← sum_lin]
  congr 1
  refine List.map_congr_left fun j hj => ?_
  rw [red_en h ho e (Nat.le_of_lt (List.mem_range.mp hj))]
theorem lin_sub {L M : List Fraction → Rat} (h : Lin n L) (h' : Lin n M) : Lin n fun r => L r - M r := fun r o k a b e => by
  show L _ - M _ = _
  rw [h r o k a b e, h' r o k a b e]
  grind
/-- rows that rows are reduced by -/
def Good (n : Nat) (o : List Fraction) : Prop := Rw n o ∧ ∃ k, leadOf o = some k
theorem reds_rw : ∀ (fs : List (List Fraction)) {r}, Rw n r → (∀ o ∈ fs, Good n o) → Rw n (fs.foldl reduceBy r)
  | [], _, h, _ => h
  | o :: fs, r, h, hf => reds_rw fs (red_rw h (hf o List.mem_cons_self).1) fun x hx => hf x (List.mem_cons_of_mem _ hx)
theorem reds_lin {L : List Fraction → Rat} (hL : Lin n L) : ∀ (fs : List (List Fraction)) {r}, Rw n r → (∀ o ∈ fs, Good n o ∧ L o = 0) → L (fs.foldl reduceBy r) = L r
  | [], _, _, _ => rfl
  | o :: fs, r, h, hf => by
    obtain ⟨⟨ho, k, e⟩, hz⟩ := hf o List.mem_cons_self
    show L (fs.foldl reduceBy (reduceBy r o)) = _
    rw [reds_lin hL fs (red_rw h ho) fun x hx => hf x (List.mem_cons_of_mem _ hx), hL r o k h ho e, hz]
    grind
def Tri (a b : List Fraction) : Prop := ∀ k, leadOf a = some k → en b k = 0
theorem reds_zero : ∀ (fs : List (List Fraction)) {r}, Rw n r → (∀ o ∈ fs, Good n o) → fs.Pairwise Tri → ∀ a ∈ fs, ∀ k, leadOf a = some k → en (fs.foldl reduceBy r) k = 0
  | [], _, _, _, _, a, ha, _, _ => by cases ha
  | o :: fs, r, h, hf, hp, a, ha, k, e => by
    obtain ⟨ho, k', e'⟩ := hf o List.mem_cons_self
    have hf' : ∀ x ∈ fs, Good n x := fun x hx => hf x (List.mem_cons_of_mem _ hx)
    obtain ⟨h1, h2⟩ := List.pairwise_cons.mp hp
    show en (fs.foldl reduceBy (reduceBy r o)) k = 0
    rcases List.mem_cons.mp ha with rfl | ha
    · obtain ⟨hk, ne, _⟩ := lead_some ho e
      have := reds_lin (lin_en hk) fs (red_rw h ho) fun x hx => ⟨hf' x hx, h1 x hx k e⟩
      rw [this, red_en h ho e hk]
      grind
    · exact reds_zero fs (red_rw h ho) hf' h2 a ha k e
/-! ## down -/
structure Ech (n : Nat) (s : Nat → Rat) (v : Nat → Nat → Rat) (fs : List (List Fraction)) (i : Nat) : Prop where
  rw_ : ∀ o ∈ fs, Rw n o ∧ ∃ k, k < n ∧ leadOf o = some k
  tri : fs.Pairwise Tri
  phi : ∀ o ∈ fs, ∀ t, i ≤ t → t < n → sm n (v t) o = 0
  sat : ∀ o ∈ fs, sm n s o = en o n
  len : fs.length = i
theorem Ech.good {s : Nat → Rat} {v : Nat → Nat → Rat} {fs : List (List Fraction)} {i : Nat} (h : Ech n s v fs i) : ∀ o ∈ fs, Good n o := fun o ho => let ⟨a, k, _, e⟩ := h.rw_ o ho; ⟨a, k, e⟩
def eStep (found : List (List Fraction)) (row : List Fraction) : List (List Fraction) :=
  if (leadOf (found.foldl reduceBy row)).isNone then found else found ++ [found.foldl reduceBy row]
theorem ech_eq (rows : List (List Fraction)) : echelon rows = rows.foldl eStep [] := rfl
/-- what is asked of the i-th row -/
structure RowOk (n : Nat) (s : Nat → Rat) (v : Nat → Nat → Rat) (r : List Fraction) (i : Nat) : Prop where
  rw_ : Rw n r
  own : sm n (v i) r ≠ 0
  oth : ∀ t, i < t → t < n → sm n (v t) r = 0
  sat : sm n s r = en r n
theorem ech_step {s : Nat → Rat} {v : Nat → Nat → Rat} {fs : List (List Fraction)} {i : Nat} (h : Ech n s v fs i) (hi : i < n) (hr : RowOk n s v r i) : Ech n s v (eStep fs r) (i + 1) := by
  have rw' := reds_rw fs hr.rw_ h.good
  have own : sm n (v i) (fs.foldl reduceBy r) ≠ 0 := by
    rw [reds_lin (lin_sm (v i)) fs hr.rw_ fun o ho => ⟨h.good o ho, h.phi o ho i (Nat.le_refl _) hi⟩]
    exact hr.own
  have some' : ∃ k, k < n ∧ leadOf (fs.foldl reduceBy r) = some k := by
    refine Classical.byContradiction fun z => own ?_
    have all : ∀ j, j < n → en (fs.foldl reduceBy r) j = 0 := by
      cases e : leadOf (fs.foldl reduceBy r) with
      | none => exact fun j hj => lead_none rw' e j (Nat.le_of_lt hj)
      | some k =>
        have : ¬ k < n := fun hk => z ⟨k, hk, e⟩
        exact fun j hj => (lead_some rw' e).2.2 j (by omega)
    unfold sm
    have : (List.range n).map (fun j => en (fs.foldl reduceBy r) j * v i j) = (List.range n).map fun _ => 0 := List.map_congr_left fun j hj => by rw [all j (List.mem_range.mp hj)]; grind
    rw [this]
    generalize List.range n = l
    induction l with
    | nil => rfl
    | cons x l ih => rw [List.map_cons, List.sum_cons, ih]; grind
  obtain ⟨k, hk, e⟩ := some'
  have es : eStep fs r = fs ++ [fs.foldl reduceBy r] := by
    unfold eStep
    rw [e]
    rfl
  rw [es]
  refine ⟨fun o ho => ?_, ?_, fun o ho t ht htn => ?_, fun o ho => ?_, by rw [List.length_append, h.len]; rfl⟩
  · rcases List.mem_append.mp ho with ho | ho
    · exact h.rw_ o ho
    · rw [List.mem_singleton.mp ho]
      exact ⟨rw', k, hk, e⟩
  · rw [List.pairwise_append]
    refine ⟨h.tri, List.pairwise_singleton _ _, fun a ha b hb => ?_⟩
    rw [List.mem_singleton.mp hb]
    exact fun k' e' => reds_zero fs hr.rw_ h.good h.tri a ha k' e'
  · rcases List.mem_append.mp ho with ho | ho
    · exact h.phi o ho t (by omega) htn
    · rw [List.mem_singleton.mp ho, reds_lin (lin_sm (v t)) fs hr.rw_ fun o ho => ⟨h.good o ho, h.phi o ho t (by omega) htn⟩]
      exact hr.oth t (by omega) htn
  · rcases List.mem_append.mp ho with ho | ho
    · exact h.sat o ho
    · rw [List.mem_singleton.mp ho]
      have := reds_lin (lin_sub (lin_sm s) (lin_en (Nat.le_refl n))) fs hr.rw_ fun o ho => ⟨h.good o ho, by show sm n s o - en o n = 0; rw [h.sat o ho]; grind⟩
      have h3 := hr.sat
      simp only [h3] at this
      grind
theorem ech_all {s : Nat → Rat} {v : Nat → Nat → Rat} : ∀ (rest : List (List Fraction)) (fs : List (List Fraction)) (i : Nat), (∀ j r, rest[j]? = some r → RowOk n s v r (i + j)) → Ech n s v fs i → i + rest.length = n → Ech n s v (rest.foldl eStep fs) n
  | [], fs, i, _, h, hl => by
    have : i = n := hl
    rw [← this]
    rw [this] at h ⊢
    exact h
  | r :: rest, fs, i, hr, h, hl => by
    rw [List.length_cons] at hl
    exact ech_all rest _ (i + 1) (fun j x hx => by have := hr (j + 1) x hx; rw [show i + 1 + j = i + (j + 1) by omega]; exact this) (ech_step h (by omega) (hr 0 r rfl)) (by omega)
/-! ## up -/
def upAll (fs : List (List Fraction)) : List (List Fraction) := fs.foldr (fun row found => found.foldl reduceBy row :: found) []
def ld (o : List Fraction) : Nat := (leadOf o).getD 0
/-- a row of the reduced form, its place k -/
structure Unit (n : Nat) (r : List Fraction) (k : Nat) : Prop where
  rw_ : Rw n r
  lead : leadOf r = some k
  zero : ∀ j, j < n → j ≠ k → en r j = 0
inductive Units (n : Nat) : List (List Fraction) → List Nat → Prop
  | nil : Units n [] []
  | cons {r k us ks} : Unit n r k → Units n us ks → Units n (r :: us) (k :: ks)
theorem Units.mem {us : List (List Fraction)} {ks : List Nat} (h : Units n us ks) : ∀ u ∈ us, ∃ k ∈ ks, Unit n u k := by
  induction h with
  | nil => intro u hu; cases hu
  | cons h1 h2 ih =>
    intro u hu
    rcases List.mem_cons.mp hu with rfl | hu
    · exact ⟨_, List.mem_cons_self, h1⟩
    · obtain ⟨k, hk, q⟩ := ih u hu
      exact ⟨k, List.mem_cons_of_mem _ hk, q⟩
theorem Units.mem' {us : List (List Fraction)} {ks : List Nat} (h : Units n us ks) : ∀ k ∈ ks, ∃ u ∈ us, Unit n u k := by
  induction h with
  | nil => intro u hu; cases hu
  | cons h1 h2 ih =>
    intro k hk
    rcases List.mem_cons.mp hk with rfl | hk
    · exact ⟨_, List.mem_cons_self, h1⟩
    · obtain ⟨u, hu, q⟩ := ih k hk
      exact ⟨u, List.mem_cons_of_mem _ hu, q⟩
theorem Units.tri {us : List (List Fraction)} {ks : List Nat} (h : Units n us ks) (hn : ks.Nodup) (hk : ∀ k ∈ ks, k < n) : us.Pairwise Tri := by
  induction h with
  | nil => exact List.Pairwise.nil
  | @cons r k us ks h1 h2 ih =>
    obtain ⟨a, b⟩ := List.nodup_cons.mp hn
    refine List.pairwise_cons.mpr ⟨fun u hu k' e => ?_, ih b fun x hx => hk x (List.mem_cons_of_mem _ hx)⟩
    rw [h1.lead] at e
    obtain rfl := Option.some.inj e
    obtain ⟨k2, hk2, q⟩ := h2.mem u hu
    exact q.zero _ (hk _ List.mem_cons_self) fun e => a (by rw [e]; exact hk2)
theorem up_units : ∀ (fs : List (List Fraction)) (P : Nat → Prop), (∀ o ∈ fs, Rw n o ∧ leadOf o = some (ld o) ∧ ld o < n) → fs.Pairwise Tri → (∀ j, j < n → P j ∨ j ∈ fs.map ld) → (∀ o ∈ fs, ∀ j, P j → j < n → en o j = 0) →
    Units n (upAll fs) (fs.map ld) ∧ ∀ L, Lin n L → (∀ o ∈ fs, L o = 0) → ∀ u ∈ upAll fs, L u = 0
  | [], _, _, _, _, _ => ⟨.nil, fun _ _ _ u hu => by cases hu⟩
  | o :: fs, P, hg, hp, hc, hz => by
    obtain ⟨h1, h2⟩ := List.pairwise_cons.mp hp
    obtain ⟨ho, eo, lo⟩ := hg o List.mem_cons_self
    have hg' : ∀ x ∈ fs, Rw n x ∧ leadOf x = some (ld x) ∧ ld x < n := fun x hx => hg x (List.mem_cons_of_mem _ hx)
    obtain ⟨U, UL⟩ := up_units fs (fun j => P j ∨ j = ld o) hg' h2 (fun j hj => by
        rcases hc j hj with h | h
        · exact .inl (.inl h)
        · rw [List.map_cons] at h
          rcases List.mem_cons.mp h with h | h
          · exact .inl (.inr h)
          · exact .inr h) (fun x hx j hj hjn => by
        rcases hj with hj | rfl
        · exact hz x (List.mem_cons_of_mem _ hx) j hj hjn
        · exact h1 x hx _ eo)
    have nd : (fs.map ld).Nodup := by
      clear U UL hc hz hg hp h1 ho eo lo
      induction fs with
      | nil => exact List.nodup_nil
      | cons a fs ih =>
        obtain ⟨t1, t2⟩ := List.pairwise_cons.mp h2
        refine List.nodup_cons.mpr ⟨fun hm => ?_, ih t2 fun x hx => hg' x (List.mem_cons_of_mem _ hx)⟩
        obtain ⟨b, hb, e⟩ := List.mem_map.mp hm
        have hb1 := hg' b (List.mem_cons_of_mem _ hb)
        have := (lead_some hb1.1 hb1.2.1).2.1
        rw [e] at this
        exact this (t1 b hb _ (hg' a List.mem_cons_self).2.1)
    have Ug : ∀ u ∈ upAll fs, Good n u := fun u hu => let ⟨k, _, q⟩ := U.mem u hu; ⟨q.rw_, k, q.lead⟩
    have Ut : (upAll fs).Pairwise Tri := U.tri nd fun k hk => by
      obtain ⟨b, hb, rfl⟩ := List.mem_map.mp hk
      exact (hg' b hb).2.2
    have rr := reds_rw (upAll fs) ho Ug
    have keep : ∀ j, j ≤ n → (∀ x ∈ fs, en x j = 0) → en ((upAll fs).foldl reduceBy o) j = en o j := fun j hj hx =>
      reds_lin (lin_en hj) (upAll fs) ho fun u hu => ⟨Ug u hu, UL _ (lin_en hj) hx u hu⟩
    have zr : ∀ j, j < n → j ≠ ld o → en ((upAll fs).foldl reduceBy o) j = 0 := fun j hj ne => by
      rcases hc j hj with h | h
      · rw [keep j (Nat.le_of_lt hj) fun x hx => hz x (List.mem_cons_of_mem _ hx) j h hj]
        exact hz o List.mem_cons_self j h hj
      · rw [List.map_cons] at h
        rcases List.mem_cons.mp h with h | h
        · exact absurd h ne
        · obtain ⟨u, hu, q⟩ := U.mem' j h
          exact reds_zero (upAll fs) ho Ug Ut u hu j q.lead
    have own : en ((upAll fs).foldl reduceBy o) (ld o) ≠ 0 := by
      rw [keep (ld o) (Nat.le_of_lt lo) fun x hx => h1 x hx _ eo]
      exact (lead_some ho eo).2.1
    have ul : Unit n ((upAll fs).foldl reduceBy o) (ld o) := ⟨rr, lead_of rr (Nat.le_of_lt lo) own fun j hj => zr j (by omega) (by omega), zr⟩
    refine ⟨.cons ul U, fun L hL h0 u hu => ?_⟩
    have hf : ∀ x ∈ fs, L x = 0 := fun x hx => h0 x (List.mem_cons_of_mem _ hx)
    rcases List.mem_cons.mp (show u ∈ (upAll fs).foldl reduceBy o :: upAll fs from hu) with rfl | hu
    · rw [reds_lin hL (upAll fs) ho fun u hu => ⟨Ug u hu, UL L hL hf u hu⟩]
      exact h0 o List.mem_cons_self
    · exact UL L hL hf u hu
theorem nodup_le : ∀ (l m : List Nat), l.Nodup → (∀ x ∈ l, x ∈ m) → l.length ≤ m.length
  | [], _, _, _ => Nat.zero_le _
  | a :: l, m, hn, hs => by
    obtain ⟨h1, h2⟩ := List.nodup_cons.mp hn
    have ha := hs a List.mem_cons_self
    have := nodup_le l (m.erase a) h2 fun x hx => (List.mem_erase_of_ne (fun e => h1 (by rw [← e]; exact hx))).mpr (hs x (List.mem_cons_of_mem _ hx))
    rw [List.length_erase_of_mem ha] at this
    have := List.length_pos_of_mem ha
    rw [List.length_cons]
    omega
theorem nodup_all {l : List Nat} (hn : l.Nodup) (hl : l.length = n) (hs : ∀ x ∈ l, x < n) (hj : j < n) : j ∈ l := by
  refine Classical.byContradiction fun z => ?_
  have := nodup_le (j :: l) (List.range n) (List.nodup_cons.mpr ⟨z, hn⟩) fun x hx => by
    rcases List.mem_cons.mp hx with rfl | hx
    · exact List.mem_range.mpr hj
    · exact List.mem_range.mpr (hs x hx)
  rw [List.length_cons, List.length_range] at this
  omega
/-- the solution -/
theorem solve_ok {s : Nat → Rat} {v : Nat → Nat → Rat} {rows : List (List Fraction)} (hl : rows.length = n) (hr : ∀ i r, rows[i]? = some r → RowOk n s v r i) :
    (solve n rows).length = n ∧ (∀ x ∈ solve n rows, Norm x) ∧ ∀ j, j < n → en (solve n rows) j = s j := by
  have E : Ech n s v (echelon rows) n := by
    rw [ech_eq]
    exact ech_all rows [] 0 (fun j r h => by rw [Nat.zero_add]; exact hr j r h) ⟨fun o ho => (by cases ho), List.Pairwise.nil, fun o ho => (by cases ho), fun o ho => (by cases ho), rfl⟩ (by omega)
  have hg : ∀ o ∈ echelon rows, Rw n o ∧ leadOf o = some (ld o) ∧ ld o < n := fun o ho => by
    obtain ⟨a, k, hk, e⟩ := E.rw_ o ho
    have : ld o = k := by unfold ld; rw [e]; rfl
    rw [this]
    exact ⟨a, e, hk⟩
  have nd : ((echelon rows).map ld).Nodup := by
    have ht := E.tri
    clear E
    generalize echelon rows = fs at hg ht
    induction fs with
    | nil => exact List.nodup_nil
    | cons a fs ih =>
      obtain ⟨t1, t2⟩ := List.pairwise_cons.mp ht
      refine List.nodup_cons.mpr ⟨fun hm => ?_, ih (fun x hx => hg x (List.mem_cons_of_mem _ hx)) t2⟩
      obtain ⟨b, hb, e⟩ := List.mem_map.mp hm
      have hb1 := hg b (List.mem_cons_of_mem _ hb)
      have := (lead_some hb1.1 hb1.2.1).2.1
      rw [e] at this
      exact this (t1 b hb _ (hg a List.mem_cons_self).2.1)
  have cover : ∀ j, j < n → False ∨ j ∈ (echelon rows).map ld := fun j hj => .inr (nodup_all nd (by rw [List.length_map, E.len]) (fun x hx => by
    obtain ⟨b, hb, rfl⟩ := List.mem_map.mp hx
    exact (hg b hb).2.2) hj)
  obtain ⟨U, UL⟩ := up_units (echelon rows) (fun _ => False) hg E.tri cover fun _ _ _ h => h.elim
  have sat : ∀ u ∈ upAll (echelon rows), sm n s u = en u n := fun u hu => by
    have := UL _ (lin_sub (lin_sm s) (lin_en (Nat.le_refl n))) (fun o ho => by show sm n s o - en o n = 0; rw [E.sat o ho]; grind) u hu
    have h2 : sm n s u - en u n = 0 := this
    grind
  have es : solve n rows = (List.range n).map fun j => match (upAll (echelon rows)).find? fun r => leadOf r == some j with
    | none => ⟨0, 1⟩
    | some r => over (r.getD n ⟨0, 1⟩) (r.getD j ⟨1, 1⟩) := rfl
  have val_j : ∀ j, j < n → ∃ u, (upAll (echelon rows)).find? (fun r => leadOf r == some j) = some u ∧ Unit n u j ∧ u ∈ upAll (echelon rows) := fun j hj => by
    obtain ⟨u, hu, q⟩ := U.mem' j ((cover j hj).resolve_left id)
    cases e : (upAll (echelon rows)).find? (fun r => leadOf r == some j) with
    | none =>
      rw [List.find?_eq_none] at e
      exact absurd (by rw [q.lead]; exact beq_self_eq_true _) (e u hu)
    | some w =>
      have hw := List.mem_of_find?_eq_some e
      have lw : leadOf w = some j := eq_of_beq (List.find?_some (p := fun r => leadOf r == some j) e)
      obtain ⟨k, hk, qk⟩ := U.mem w hw
      rw [qk.lead] at lw
      obtain rfl := Option.some.inj lw
      exact ⟨w, rfl, qk, hw⟩
  rw [es]
  refine ⟨by rw [List.length_map, List.length_range], fun x hx => ?_, fun j hj => ?_⟩
  · obtain ⟨j, hj, rfl⟩ := List.mem_map.mp hx
    obtain ⟨u, e, _, _⟩ := val_j j (List.mem_range.mp hj)
    rw [e]
    exact norm_over _ _
  · unfold en
    rw [getD_of _ (by rw [List.length_map, List.length_range]; exact hj), List.getElem_map, List.getElem_range]
    obtain ⟨u, e, q, hu⟩ := val_j j hj
    rw [e]
    show val (over (u.getD n ⟨0, 1⟩) (u.getD j ⟨1, 1⟩)) = s j
    have hj' : j ≤ n := Nat.le_of_lt hj
    rw [val_over (q.rw_.norm (Nat.le_refl n) _) (q.rw_.norm hj' _)]
    have e1 : val (u.getD n ⟨0, 1⟩) = en u n := rfl
    have e2 : val (u.getD j ⟨1, 1⟩) = en u j := by
      unfold en
      rw [getD_of _ (by rw [q.rw_.len]; omega), getD_of _ (by rw [q.rw_.len]; omega)]
    rw [e1, e2, ← sat u hu]
    have ne := (lead_some q.rw_ q.lead).2.1
    have key : sm n s u = en u j * s j := by
      unfold sm
      have hm : ∀ l : List Nat, l.Nodup → (∀ x ∈ l, x < n) → (l.map fun i => en u i * s i).sum = if j ∈ l then en u j * s j else 0 := by
        intro l
        induction l with
        | nil => intro _ _; rfl
        | cons x l ih =>
          intro hn hx
          obtain ⟨a, b⟩ := List.nodup_cons.mp hn
          rw [List.map_cons, List.sum_cons, ih b fun y hy => hx y (List.mem_cons_of_mem _ hy)]
          by_cases h : x = j
          · subst h
            rw [if_neg a, if_pos List.mem_cons_self]
            grind
          · rw [q.zero x (hx x List.mem_cons_self) h]
            by_cases h2 : j ∈ l
            · rw [if_pos h2, if_pos (List.mem_cons_of_mem _ h2)]
              grind
            · rw [if_neg h2, if_neg fun h3 => (List.mem_cons.mp h3).elim (fun e => h e.symm) h2]
              grind
      rw [hm _ List.nodup_range fun x hx => List.mem_range.mp hx, if_pos (List.mem_range.mpr hj)]
    rw [key]
    grind
end Bd
namespace Bd
open Kxd5
/-! # Kxd5's matrices by their whole numbers -/
theorem range_map_cons {α : Type} (f : Nat → α) (n : Nat) : (List.range (n + 1)).map f = f 0 :: (List.range n).map fun k => f (k + 1) := by
  rw [List.range_succ_eq_map, List.map_cons, List.map_map]
  rfl
theorem dot_range : ∀ (a u : Row), a.length = u.length → dot a u = ((List.range a.length).map fun k => a.getD k 0 * u.getD k 0).sum
  | [], [], _ => rfl
  | x :: a, y :: u, h => by
    rw [dot_cons, List.length_cons, range_map_cons, List.sum_cons, dot_range a u (Nat.succ.inj h)]
    rfl
theorem cast_sum : ∀ l : List Int, ((l.sum : Int) : Rat) = (l.map fun (x : Int) => ((x : Int) : Rat)).sum
  | [] => rfl
  | x :: l => by rw [List.sum_cons, List.map_cons, List.sum_cons, Rat.intCast_add, cast_sum l]
theorem sum_pick {n j : Nat} (f : Nat → Rat) (hj : j < n) (h : ∀ k, k < n → k ≠ j → f k = 0) : ((List.range n).map f).sum = f j := by
  have hm : ∀ l : List Nat, l.Nodup → (∀ x ∈ l, x < n) → (l.map f).sum = if j ∈ l then f j else 0 := by
    intro l
    induction l with
    | nil => intro _ _; rfl
    | cons x l ih =>
      intro hn hx
      obtain ⟨a, b⟩ := List.nodup_cons.mp hn
      rw [List.map_cons, List.sum_cons, ih b fun y hy => hx y (List.mem_cons_of_mem _ hy)]
      by_cases e : x = j
      · subst e
        rw [if_neg a, if_pos List.mem_cons_self]
        grind
      · rw [h x (hx x List.mem_cons_self) e]
        by_cases h2 : j ∈ l
        · rw [if_pos h2, if_pos (List.mem_cons_of_mem _ h2)]
          grind
        · rw [if_neg h2, if_neg fun h3 => (List.mem_cons.mp h3).elim (fun e' => e e'.symm) h2]
          grind
  rw [hm _ List.nodup_range fun x hx => List.mem_range.mp hx, if_pos (List.mem_range.mpr hj)]
def unitR (n i : Nat) : Row := (List.range n).map fun j => if j = i then 1 else 0
theorem unitR_len (n i : Nat) : (unitR n i).length = n := by unfold unitR; rw [List.length_map, List.length_range]
theorem unitR_at {n i k : Nat} (h : k < n) : (unitR n i).getD k 0 = if k = i then 1 else 0 := by
  unfold unitR
  rw [getD_of _ (by rw [List.length_map, List.length_range]; exact h), List.getElem_map, List.getElem_range]
theorem dot_unit {n i : Nat} {r : Row} (hi : i < n) (hr : r.length = n) : dot (unitR n i) r = r.getD i 0 := by
  have h : ((dot (unitR n i) r : Int) : Rat) = ((r.getD i 0 : Int) : Rat) := by
    rw [dot_range _ _ (by rw [unitR_len, hr]), cast_sum, List.map_map, unitR_len, sum_pick (j := i) _ hi]
    · show (((unitR n i).getD i 0 * r.getD i 0 : Int) : Rat) = _
      rw [unitR_at hi, if_pos rfl, Int.one_mul]
    · intro k hk ne
      show (((unitR n i).getD k 0 * r.getD k 0 : Int) : Rat) = _
      rw [unitR_at hk, if_neg ne, Int.zero_mul]
      rfl
  exact Rat.intCast_inj.mp h
theorem mulv_at (m : Mat) (u : Row) {i : Nat} (h : i < m.length) : (mulv m u).getD i 0 = dot m[i] u := by
  unfold mulv
  rw [getD_of _ (by rw [List.length_map]; exact h), List.getElem_map]
/-- an entry of an information matrix -/
theorem info_at {n : Nat} {rows : List Row} {cs : List Int} (h : RW n rows cs) {i j : Nat} (hi : i < n) (hj : j < n) :
    ((information n rows cs).getD i []).getD j 0 = (List.zipWith (fun r c => c * (r.getD i 0 * r.getD j 0)) rows cs).sum := by
  have hm := info_isMat h
  have b := info_bil h (u := unitR n i) (v := unitR n j) (unitR_len n i)
  have hl : i < (information n rows cs).length := by rw [hm.len]; exact hi
  unfold bil at b
  rw [dot_unit hi (by rw [mulv_length, hm.len]), mulv_at _ _ hl, dot_comm, dot_unit hj (hm.row _ (List.getElem_mem hl))] at b
  rw [getD_of _ hl, b]
  unfold quad
  have : (rows.zip cs).map (fun z => z.2 * (dot (unitR n i) z.1 * dot z.1 (unitR n j))) = (rows.zip cs).map fun z => z.2 * (z.1.getD i 0 * z.1.getD j 0) := List.map_congr_left fun z hz => by
    have hz1 := (h.zip z hz).1
    rw [dot_unit hi hz1, dot_comm z.1, dot_unit hj hz1]
  rw [this, List.map_zip_eq_zipWith]
  rfl
theorem foldl_from : ∀ (l : List Int) (a : Int), l.foldl (· + ·) a = a + l.sum
  | [], a => by rw [List.foldl_nil, List.sum_nil, Int.add_zero]
  | x :: l, a => by rw [List.foldl_cons, foldl_from l, List.sum_cons, Int.add_assoc]
theorem total_sum (l : List Int) : total (l.map ofInt) = ofInt l.sum := by rw [total_ofInt, foldl_from, Int.zero_add]
/-- a matrix of whole numbers as one of fractions -/
def ofM (m : Mat) : List (List Fraction) := m.map fun r => r.map ofInt
theorem mat_ext {n : Nat} {m : Mat} (hm : IsMat n m) : ofM m = (List.range n).map fun i => (List.range n).map fun j => ofInt ((m.getD i []).getD j 0) := by
  unfold ofM
  refine List.ext_getElem (by rw [List.length_map, List.length_map, List.length_range, hm.len]) fun i h1 h2 => ?_
  rw [List.length_map] at h1
  have hl := hm.row _ (List.getElem_mem h1)
  rw [List.getElem_map, List.getElem_map, List.getElem_range, getD_of _ h1]
  refine List.ext_getElem (by simp only [List.length_map, List.length_range]; exact hl) fun j h3 h4 => ?_
  rw [List.length_map] at h3
  rw [List.getElem_map, List.getElem_map, List.getElem_range, getD_of _ h3]
theorem zip_ofInt (i j : Nat) : ∀ (rows : List Row) (cs : List Int),
    List.zipWith (fun (x : List Int) (n : Fraction) => times n (times (ofInt (x.getD i 0)) (ofInt (x.getD j 0)))) rows (cs.map ofInt) = (List.zipWith (fun (r : Row) (c : Int) => c * (r.getD i 0 * r.getD j 0)) rows cs).map ofInt
  | [], _ => rfl
  | _ :: _, [] => rfl
  | r :: rows, c :: cs => by
    show times (ofInt c) (times (ofInt (r.getD i 0)) (ofInt (r.getD j 0))) :: _ = ofInt (c * (r.getD i 0 * r.getD j 0)) :: _
    rw [times_ofInt, times_ofInt, zip_ofInt i j rows cs]
theorem kinfo {n : Nat} {rows : List Row} {l0 : List Nat} {l : List Nat} (h : RW n rows (toInts l)) : Kxd5.information ⟨n, rows, l0⟩ l = ofM (Bd.information n rows (toInts l)) := by
  rw [mat_ext (info_isMat h)]
  unfold Kxd5.information weightedInformation
  have e : l.map ofNat = (toInts l).map ofInt := by
    unfold toInts
    rw [List.map_map]
    rfl
  refine List.map_congr_left fun i hi => List.map_congr_left fun j hj => ?_
  rw [e]
  show total (List.zipWith _ rows ((toInts l).map ofInt)) = _
  rw [zip_ofInt, total_sum, info_at h (List.mem_range.mp hi) (List.mem_range.mp hj)]
theorem ofM_erase (m : Mat) (c : Nat) : (ofM m).map (fun r => r.eraseIdx c) = ofM (m.map fun r => r.eraseIdx c) := by
  unfold ofM
  rw [List.map_map, List.map_map]
  refine List.map_congr_left fun r _ => ?_
  show (r.map ofInt).eraseIdx c = (r.eraseIdx c).map ofInt
  rw [List.eraseIdx_eq_take_drop_succ, List.eraseIdx_eq_take_drop_succ, List.map_append, List.map_take, List.map_drop]
theorem detIn : ∀ (f : Nat) (m : Mat), determinantIn f (ofM m) = ofInt (detF f m)
  | 0, _ => rfl
  | f + 1, [] => rfl
  | f + 1, row :: rest => by
    show total (((row.map ofInt).zipIdx).map fun z => times (times (ofInt (if z.2 % 2 = 0 then 1 else -1)) z.1) (determinantIn f ((ofM rest).map fun r => r.eraseIdx z.2))) = ofInt ((row.zipIdx.map fun z => sgn z.2 * z.1 * detF f (rest.map fun r => r.eraseIdx z.2)).foldl (· + ·) 0)
    rw [← total_ofInt, List.map_map, List.zipIdx_map, List.map_map]
    congr 1
    refine List.map_congr_left fun z _ => ?_
    show times (times (ofInt (sgn z.2)) (ofInt z.1)) (determinantIn f ((ofM rest).map fun r => r.eraseIdx z.2)) = ofInt (sgn z.2 * z.1 * detF f (rest.map fun r => r.eraseIdx z.2))
    rw [ofM_erase, detIn f, times_ofInt, times_ofInt]
theorem kdet (m : Mat) : Kxd5.determinant (ofM m) = ofInt (det m) := by
  unfold Kxd5.determinant
  rw [detIn]
  unfold ofM
  rw [List.length_map]
  rfl
/-! ## variances -/
/-- m is the matrix M of whole numbers, divided by D -/
structure IsQ (n : Nat) (m : List (List Fraction)) (M : Mat) (D : Int) : Prop where
  len : m.length = n
  row : ∀ (i : Nat) (r : List Fraction), m[i]? = some r → ∃ R : Row, M[i]? = some R ∧ r.length = n ∧ (∀ x ∈ r, Norm x) ∧ ∀ k, k < n → val (r.getD k ⟨0, 1⟩) = (R.getD k 0 : Rat) / (D : Rat)
/-- c is the row x of whole numbers -/
structure IsV (n : Nat) (c : List Fraction) (x : Row) : Prop where
  len : c.length = n
  len' : x.length = n
  nm : ∀ y ∈ c, Norm y
  at_ : ∀ k, k < n → val (c.getD k ⟨0, 1⟩) = (x.getD k 0 : Rat)
theorem en_app {n k : Nat} {r : List Fraction} {b : Fraction} (h : r.length = n) (hk : k < n) : en (r ++ [b]) k = val (r.getD k ⟨0, 1⟩) := by
  unfold en
  rw [List.getD_eq_getElem?_getD, List.getD_eq_getElem?_getD, List.getElem?_append_left (by omega)]
theorem en_last {n : Nat} {r : List Fraction} {b : Fraction} (h : r.length = n) : en (r ++ [b]) n = val b := by
  unfold en
  rw [List.getD_eq_getElem?_getD, List.getElem?_append_right (by omega), h, Nat.sub_self]
  rfl
theorem sm_dot {n : Nat} {r : List Fraction} {b : Fraction} {R u : Row} {D : Int} (f : Rat) (h : r.length = n) (hR : R.length = n) (hu : u.length = n) (e : ∀ k, k < n → val (r.getD k ⟨0, 1⟩) = (R.getD k 0 : Rat) / (D : Rat)) :
    sm n (fun k => f * (u.getD k 0 : Rat)) (r ++ [b]) = f / (D : Rat) * (dot R u : Rat) := by
  unfold sm
  have : (List.range n).map (fun j => en (r ++ [b]) j * (f * (u.getD j 0 : Rat))) = ((List.range n).map fun k => R.getD k 0 * u.getD k 0).map fun (z : Int) => f / (D : Rat) * (z : Rat) := by
    rw [List.map_map]
    refine List.map_congr_left fun k hk => ?_
    have hk' := List.mem_range.mp hk
    rw [en_app h hk', e k hk']
    show _ = f / (D : Rat) * ((R.getD k 0 * u.getD k 0 : Int) : Rat)
    rw [Rat.intCast_mul, Rat.div_def, Rat.div_def]
    grind
  rw [this, dot_range R u (by rw [hR, hu]), hR, cast_sum]
  generalize (List.range n).map (fun k => R.getD k 0 * u.getD k 0) = l
  induction l with
  | nil => show (0 : Rat) = f / (D : Rat) * 0; grind
  | cons x l ih =>
    rw [List.map_cons, List.sum_cons, ih, List.map_cons, List.sum_cons]
    grind
theorem variance_val {n : Nat} {M : Mat} {m : List (List Fraction)} {D : Int} {c : List Fraction} {x : Row} (h1 : 1 ≤ n) (h4 : n ≤ 4) (hM : IsMat n M) (hd : det M ≠ 0) (hD : D ≠ 0) (q : IsQ n m M D) (hc : IsV n c x) :
    Norm (varianceIn m c) ∧ val (varianceIn m c) = (D : Rat) * (dot x (adjv M x) : Rat) / (det M : Rat) := by
  have d0 := rat_ne hD
  have d1 := rat_ne hd
  have la : ∀ y : Row, (adjv M y).length = n := fun y => by rw [adjv_length, hM.len]
  have S := solve_ok (n := n) (s := fun k => (D : Rat) / (det M : Rat) * ((adjv M x).getD k 0 : Rat)) (v := fun t k => 1 * ((adjv M (unitR n t)).getD k 0 : Rat)) (rows := List.zipWith (fun r b => r ++ [b]) m c)
    (by rw [List.length_zipWith, q.len, hc.len]; omega) (fun i r hr => by
      rw [List.getElem?_zipWith] at hr
      cases e1 : m[i]? with
      | none => rw [e1] at hr; cases hr
      | some r0 =>
        cases e2 : c[i]? with
        | none => rw [e1, e2] at hr; cases hr
        | some b =>
          rw [e1, e2] at hr
          obtain rfl := Option.some.inj hr
          obtain ⟨R, hR, lr, nr, er⟩ := q.row i r0 e1
          have hRm := List.mem_of_getElem? hR
          have lR := hM.row R hRm
          have hi : i < n := by have := (List.getElem?_eq_some_iff.mp e1).1; rw [q.len] at this; exact this
          have nb := hc.nm b (List.mem_of_getElem? e2)
          have vb : val b = (x.getD i 0 : Rat) := by
            have := hc.at_ i hi
            rw [List.getD_eq_getElem?_getD, e2] at this
            exact this
          have row_of : ∀ y : Row, y.length = n → dot R (adjv M y) = det M * y.getD i 0 := fun y hy => by
            have e := mulv_adjv h1 h4 hM hy
            have hMi : i < M.length := by rw [hM.len]; exact hi
            have := mulv_at M (adjv M y) hMi
            rw [e, getD_of _ (by rw [List.length_map, hy]; exact hi), List.getElem_map] at this
            have hR2 : M[i] = R := by rw [List.getElem?_eq_getElem hMi] at hR; exact Option.some.inj hR
            rw [← hR2, ← this, getD_of _ (by rw [hy]; exact hi)]
          refine ⟨⟨by rw [List.length_append, lr]; rfl, fun y hy => ?_⟩, ?_, fun t ht htn => ?_, ?_⟩
          · rcases List.mem_append.mp hy with hy | hy
            · exact nr y hy
            · rw [List.mem_singleton.mp hy]; exact nb
          · rw [sm_dot 1 lr lR (la _) er, row_of _ (unitR_len n i), unitR_at hi, if_pos rfl, Int.mul_one]
            intro z
            rw [Rat.div_def] at z
            have : (D : Rat)⁻¹ * (det M : Rat) = 0 := by grind
            grind
          · rw [sm_dot 1 lr lR (la _) er, row_of _ (unitR_len n t), unitR_at hi, if_neg (by omega), Int.mul_zero]
            show _ * (0 : Rat) = 0
            grind
          · rw [sm_dot _ lr lR (la _) er, row_of x hc.len', en_last lr, vb, Rat.intCast_mul]
            grind)
  obtain ⟨S1, S2, S3⟩ := S
  have nz : ∀ y ∈ List.zipWith times c (solve n (List.zipWith (fun r b => r ++ [b]) m c)), Norm y := fun y hy => by
    obtain ⟨i, hi⟩ := List.getElem?_of_mem hy
    rw [List.getElem?_zipWith] at hi
    split at hi
    · obtain rfl := Option.some.inj hi
      exact norm_times _ _
    · cases hi
  unfold varianceIn Kxd5.dot
  rw [q.len]
  refine ⟨norm_total nz, ?_⟩
  rw [val_total nz]
  have : (List.zipWith times c (solve n (List.zipWith (fun r b => r ++ [b]) m c))).map val = ((List.range n).map fun k => x.getD k 0 * (adjv M x).getD k 0).map fun (z : Int) => (D : Rat) / (det M : Rat) * (z : Rat) := by
    rw [List.map_map]
    refine List.ext_getElem (by rw [List.length_map, List.length_zipWith, hc.len, S1, List.length_map, List.length_range]; omega) fun i g1 g2 => ?_
    rw [List.length_map, List.length_range] at g2
    have v1 := hc.at_ i g2
    have v2 := S3 i g2
    unfold en at v2
    rw [getD_of _ (by rw [hc.len]; exact g2)] at v1
    rw [getD_of _ (by rw [S1]; exact g2)] at v2
    rw [List.getElem_map, List.getElem_map, List.getElem_zipWith, List.getElem_range, val_times, v1, v2]
    show _ = (D : Rat) / (det M : Rat) * ((x.getD i 0 * (adjv M x).getD i 0 : Int) : Rat)
    rw [Rat.intCast_mul]
    grind
  rw [this]
  have key : ∀ l : List Int, (l.map fun (z : Int) => (D : Rat) / (det M : Rat) * (z : Rat)).sum = (D : Rat) / (det M : Rat) * ((l.sum : Int) : Rat) := by
    intro l
    induction l with
    | nil => show (0 : Rat) = _ * 0; grind
    | cons x l ih => rw [List.map_cons, List.sum_cons, ih, List.sum_cons, Rat.intCast_add]; grind
  have hx : ((List.range n).map fun k => x.getD k 0 * (adjv M x).getD k 0).sum = dot x (adjv M x) := by rw [dot_range x (adjv M x) (by rw [hc.len', la]), hc.len']
  rw [key, hx]
  grind
theorem isQ_ofM {n : Nat} {M : Mat} (hM : IsMat n M) : IsQ n (ofM M) M 1 := by
  refine ⟨by unfold ofM; rw [List.length_map, hM.len], fun i r hr => ?_⟩
  unfold ofM at hr
  rw [List.getElem?_map] at hr
  cases e : M[i]? with
  | none => rw [e] at hr; cases hr
  | some R =>
    rw [e] at hr
    obtain rfl := Option.some.inj hr
    have lR := hM.row R (List.mem_of_getElem? e)
    refine ⟨R, rfl, by rw [List.length_map, lR], fun x hx => ?_, fun k hk => ?_⟩
    · obtain ⟨y, _, rfl⟩ := List.mem_map.mp hx
      exact norm_ofInt y
    · rw [getD_of _ (by rw [List.length_map, lR]; exact hk), List.getElem_map, val_ofInt, getD_of _ (by rw [lR]; exact hk)]
      show _ = _ / (1 : Rat)
      grind
theorem isV_vector {n : Nat} {x : Row} (h : x.length = n) : IsV n (vector x) x := by
  unfold vector
  refine ⟨by rw [List.length_map, h], h, fun y hy => ?_, fun k hk => ?_⟩
  · obtain ⟨z, _, rfl⟩ := List.mem_map.mp hy
    exact norm_ofInt z
  · rw [getD_of _ (by rw [List.length_map, h]; exact hk), List.getElem_map, val_ofInt, getD_of _ (by rw [h]; exact hk)]
/-- a variance over a matrix of whole numbers -/
theorem kvar {n : Nat} {M : Mat} {x : Row} (h1 : 1 ≤ n) (h4 : n ≤ 4) (hM : IsMat n M) (hd : det M ≠ 0) {c : List Fraction} (hc : IsV n c x) : varianceIn (ofM M) c = fraction (weighed (cofactors M) x) (det M) := by
  obtain ⟨a, b⟩ := variance_val h1 h4 hM hd (by decide) (isQ_ofM hM) hc
  refine val_inj a (norm_fraction _ _) ?_
  rw [b, val_fraction, weighed_cof h1 h4 hM hc.len']
  show (1 : Rat) * _ / _ = _
  grind
theorem isV_unit {n i : Nat} : IsV n (unitVector n i) (unitR n i) := by
  unfold unitVector
  refine ⟨by rw [List.length_map, List.length_range], unitR_len n i, fun y hy => ?_, fun k hk => ?_⟩
  · obtain ⟨z, _, rfl⟩ := List.mem_map.mp hy
    by_cases e : z = i
    · rw [if_pos e]; exact norm_ofInt 1
    · rw [if_neg e]; exact norm_zero
  · rw [getD_of _ (by rw [List.length_map, List.length_range]; exact hk), List.getElem_map, List.getElem_range, unitR_at hk]
    by_cases e : k = i
    · rw [if_pos e, if_pos e]; exact val_one
    · rw [if_neg e, if_neg e]; exact val_zero
end Bd
set_option maxRecDepth 100000
set_option maxHeartbeats 4000000
namespace Bd
open PySem PySem.Spec PyProof.Rows L2
/-! # The walk: words -/
def top (i : Nat) : Stmt := PySem.Challenge.pw_bestdesigns_s01_answers.main.body.getD i (.Pass ⟨0, 0, 0, 0⟩)
/-- the scope of a comprehension that a return hands back -/
def lcScope (s : Stmt) : Scope := match s with
  | .Return (some (.ListComp _ _ sc _)) _ => sc
  | _ => { kind := .function, names := [], isGenerator := false, isCoroutine := false }
/-- a def that is known by a global name -/
structure Cal (P : Program) (w : World) (K : PySem.W.Frag) (mg : Str → Option Value) (base : Heap) (C : CXT) (k : Nat) (x : Str) (ps : List Str) (sp : Sp) : Prop where
  ex : ∃ (f : Addr) (fd : FuncData), FnOk P w K mg base C k f fd ps sp ∧ mg x = some (.ref f) ∧ PySem.W.keepIn K (.ref f) = true ∧ Binds K fd ps []
/-- a method of the class at D -/
structure Mal (P : Program) (w : World) (K : PySem.W.Frag) (mg : Str → Option Value) (base : Heap) (C : CXT) (k : Nat) (D : Addr) (x : Str) (ps : List Str) (sp : Sp) : Prop where
  ex : ∃ (f : Addr) (fd : FuncData), FnOk P w K mg base C k f fd ps sp ∧ Meth K D x f ∧ Binds K fd ps []
def tCl (sp : Sp) (E : XK) (t : TA) : TE := fun σ H Q => t σ H fun vs H1 => sp vs H1 Q E
def tMl (D : Addr) (m : Str) (sp : Sp) (E : XK) (ta : TE) (t : TA) : TE := fun σ H Q => ta σ H fun x H1 => ∃ a dx fs, x = .ref a ∧ H1 a = some (.ins D dx fs) ∧ fs.lookup m = none ∧
  t σ H1 fun vs H2 => sp (x :: vs) H2 Q E
section
variable {X : Cx} {C : CXT} {k : Nat} {ps : List Str} {sp : Sp} {E : XK} {x m : Str} {p pos apos : Pos} {e o : Expr} {es : List Expr} {ta : TE} {t : TA} {D : Addr}
theorem pe_cal (c : Cal X.prog X.w X.K X.mg X.base C k x ps sp) (hr : Room k X.A) (hx : Passes C X E) (ha : PA X (e :: es) t) (hg : Gl X x := by rfl)
    (hdb : (x == ("__debug__" : Str)) = false := by decide) (he : starEach (e :: es) X.env = (false, eval e X.env) :: starEach es X.env := by rfl) (hpl : (backTo pos (starEach es X.env)).any (·.1) = false := by rfl) :
    PE X (.Call (.Name x p) (e :: es) [] pos) (tCl sp E t) := by
  obtain ⟨f, fd, F, hm, hk, hb⟩ := c.ex
  have r := pe_call (p := p) (pos := pos) (dvs := []) F hr hg hm hk hb .nil hx ha hdb he hpl
  refine ⟨fun pins s σ H Q I h => r.run pins s σ H Q I ?_⟩
  have q : (fun (vs : List V) (H1 : Hp) => sp (vs ++ []) H1 Q E) = fun vs H1 => sp vs H1 Q E := by
    funext vs H1
    rw [List.append_nil]
  exact Eq.mpr (congrArg (t σ H) q) h
theorem pe_mal {pl : Sem Bool} (he : PE X o ta) (cl : Cls X.K D) (c : Mal X.prog X.w X.K X.mg X.base C k D m ps sp) (hr : Room k X.A) (hx : Passes C X E) (ha : PA X (e :: es) t)
    (hst : starEach (e :: es) X.env = (false, eval e X.env) :: starEach es X.env := by rfl) (hpl : (backTo pos (starEach es X.env)).any (·.1) = false := by rfl)
    (ht : eval (.Call (.Attribute o m apos) (e :: es) [] pos) X.env = (do
      let ov ← eval o X.env
      standAt apos.atName
      let (f, first) ← holding [ov] (getMethod ov m pl)
      callWith pos f first (backTo pos (starEach (e :: es) X.env)) (backToKw pos (keywordEach [] X.env))) := by rfl) :
    PE X (.Call (.Attribute o m apos) (e :: es) [] pos) (tMl D m sp E ta t) := by
  obtain ⟨f, fd, F, hm, hb⟩ := c.ex
  have r := pe_meth (pl := pl) (apos := apos) (pos := pos) (dvs := []) he cl hm F hr hb .nil hx ha hst hpl ht
  refine ⟨fun pins s σ H Q I h => r.run pins s σ H Q I ?_⟩
  have q : tMeth D m sp [] E ta t = tMl D m sp E ta t := by
    funext σ H Q
    unfold tMeth tMl
    simp only [List.append_nil]
  rw [q]
  exact h
theorem pe_mal0 {pl : Sem Bool} (he : PE X o ta) (cl : Cls X.K D) (c : Mal X.prog X.w X.K X.mg X.base C k D m ps sp) (hr : Room k X.A) (hx : Passes C X E)
    (ht : eval (.Call (.Attribute o m apos) [] [] pos) X.env = (do
      let ov ← eval o X.env
      standAt apos.atName
      let (f, first) ← holding [ov] (getMethod ov m pl)
      callWith pos f first (backTo pos (starEach [] X.env)) (backToKw pos (keywordEach [] X.env))) := by rfl) :
    PE X (.Call (.Attribute o m apos) [] [] pos) (tMl D m sp E ta tNil) := by
  obtain ⟨f, fd, F, hm, hb⟩ := c.ex
  have r := pe_meth0 (pl := pl) (apos := apos) (pos := pos) (dvs := []) he cl hm F hr hb .nil hx ht
  refine ⟨fun pins s σ H Q I h => r.run pins s σ H Q I ?_⟩
  have q : tMeth D m sp [] E ta tNil = tMl D m sp E ta tNil := by
    funext σ H Q
    unfold tMeth tMl
    simp only [List.append_nil]
  rw [q]
  exact h
end
/-- a class that is called by its global name, with an __init__ that raises nothing -/
structure Kal (P : Program) (w : World) (K : PySem.W.Frag) (mg : Str → Option Value) (base : Heap) (k : Nat) (x : Str) (D : Addr) (ps : List Str) (sp : Sp) : Prop where
  ex : ∃ (f : Addr) (fd : FuncData), Mk K D f ∧ FnOk P w K mg base CX0 k f fd ps sp ∧ mg x = some (.ref D) ∧ Binds K fd ps []
def tMk (D : Addr) (sp : Sp) (t : TA) : TE := fun σ H Q => t σ H fun vs H1 => ∀ x dx, H1 x = none → H1 dx = none → dx ≠ x →
  sp (.ref x :: vs) (upd (upd H1 dx (.own x)) x (.ins D dx [])) (fun v H2 => v = .non ∧ Q (.ref x) H2) E0
section
variable {X : Cx} {k : Nat} {ps : List Str} {sp : Sp} {x : Str} {p pos : Pos} {e : Expr} {es : List Expr} {t : TA} {D : Addr}
theorem tMk_eq (t : TA) : tMake D sp [] E0 t = tMk D sp t := by
  funext σ H Q
  unfold tMake tMk
  simp only [List.append_nil]
theorem pe_mk (c : Kal X.prog X.w X.K X.mg X.base k x D ps sp) (hr : Room (k + 1) X.A) (ha : PA X (e :: es) t) (hg : Gl X x := by rfl)
    (hdb : (x == ("__debug__" : Str)) = false := by decide) (he : starEach (e :: es) X.env = (false, eval e X.env) :: starEach es X.env := by rfl) (hpl : (backTo pos (starEach es X.env)).any (·.1) = false := by rfl) :
    PE X (.Call (.Name x p) (e :: es) [] pos) (tMk D sp t) := by
  obtain ⟨f, fd, M, F, hm, hb⟩ := c.ex
  have r := pe_make (p := p) (pos := pos) (dvs := []) M F hr hg hm hb .nil pass0 ha hdb he hpl
  rw [tMk_eq] at r
  exact r
theorem pe_mk0 (c : Kal X.prog X.w X.K X.mg X.base k x D ps sp) (hr : Room (k + 1) X.A) (hg : Gl X x := by rfl) (hdb : (x == ("__debug__" : Str)) = false := by decide) :
    PE X (.Call (.Name x p) [] [] pos) (tMk D sp tNil) := by
  obtain ⟨f, fd, M, F, hm, hb⟩ := c.ex
  have r := pe_make0 (p := p) (pos := pos) (dvs := []) M F hr hg hm hb .nil pass0 hdb
  rw [tMk_eq] at r
  exact r
end
/-! ## numbers in bounds -/
theorem Bn.cm {m n : Nat} {x y : Int} (h : Bn m x) (h' : Bn n y) (hl : m + n < 1000000) : CMulW x y := by
  have a := h.log
  have b := h'.log
  unfold CMulW
  omega
theorem Bn.cd {m : Nat} {x y : Int} (hp : 0 < y) (h : Bn m y) (hl : m < 9000) : CDivW x y := ⟨hp, by have := h.log; omega⟩
/-! ## lists and tuples in the heap -/
abbrev vI (l : List Int) : List V := l.map V.int
/-- the rows of a matrix at the addresses -/
def RowsAt (H : Hp) : List Addr → List (List Int) → Prop
  | [], [] => True
  | a :: as, r :: m => H a = some (.lst (vI r)) ∧ RowsAt H as m
  | _, _ => False
def IsM (H : Hp) (a : Addr) (m : List (List Int)) : Prop := ∃ as : List Addr, H a = some (.lst (as.map V.ref)) ∧ RowsAt H as m
theorem RowsAt.length {H : Hp} : ∀ {as : List Addr} {m : List (List Int)}, RowsAt H as m → as.length = m.length
  | [], [], _ => rfl
  | _ :: as, _ :: m, h => by rw [List.length_cons, List.length_cons, RowsAt.length h.2]
theorem RowsAt.same {H H' : Hp} (s : Same H H') : ∀ {as : List Addr} {m : List (List Int)}, RowsAt H as m → RowsAt H' as m
  | [], [], _ => trivial
  | _ :: _, _ :: _, h => ⟨s _ _ h.1, RowsAt.same s h.2⟩
theorem IsM.same {H H' : Hp} {a : Addr} {m : List (List Int)} (h : IsM H a m) (s : Same H H') : IsM H' a m := let ⟨as, e, r⟩ := h; ⟨as, s _ _ e, r.same s⟩
theorem RowsAt.get {H : Hp} : ∀ {as : List Addr} {m : List (List Int)} {i : Nat} {r : List Int}, RowsAt H as m → m[i]? = some r → ∃ a, as[i]? = some a ∧ H a = some (.lst (vI r))
  | [], [], i, r, _, e => by simp at e
  | a :: as, x :: m, 0, r, h, e => ⟨a, rfl, by have e' : x = r := Option.some.inj e; rw [← e']; exact h.1⟩
  | a :: as, x :: m, i + 1, r, h, e => RowsAt.get (i := i) h.2 e
theorem RowsAt.get' {H : Hp} : ∀ {as : List Addr} {m : List (List Int)} {i : Nat} {a : Addr}, RowsAt H as m → as[i]? = some a → ∃ r, m[i]? = some r ∧ H a = some (.lst (vI r))
  | [], [], i, a, _, e => by simp at e
  | b :: as, x :: m, 0, a, h, e => ⟨x, rfl, by have e' : b = a := Option.some.inj e; rw [← e']; exact h.1⟩
  | b :: as, x :: m, i + 1, a, h, e => RowsAt.get' (i := i) h.2 e
theorem RowsAt.snoc {H : Hp} {a : Addr} {r : List Int} (ha : H a = some (.lst (vI r))) : ∀ {as : List Addr} {m : List (List Int)}, RowsAt H as m → RowsAt H (as ++ [a]) (m ++ [r])
  | [], [], _ => ⟨ha, trivial⟩
  | _ :: _, _ :: _, h => ⟨h.1, RowsAt.snoc ha h.2⟩
theorem RowsAt.append {H : Hp} : ∀ {as bs : List Addr} {m n : List (List Int)}, RowsAt H as m → RowsAt H bs n → RowsAt H (as ++ bs) (m ++ n)
  | [], _, [], _, _, h' => h'
  | _ :: _, _, _ :: _, _, h, h' => ⟨h.1, RowsAt.append h.2 h'⟩
theorem RowsAt.drop {H : Hp} : ∀ {as : List Addr} {m : List (List Int)} (n : Nat), RowsAt H as m → RowsAt H (as.drop n) (m.drop n)
  | _, _, 0, h => by simpa using h
  | [], [], _ + 1, _ => trivial
  | _ :: _, _ :: _, n + 1, h => RowsAt.drop n h.2
theorem RowsAt.take {H : Hp} : ∀ {as : List Addr} {m : List (List Int)} (n : Nat), RowsAt H as m → RowsAt H (as.take n) (m.take n)
  | _, _, 0, _ => trivial
  | [], [], _ + 1, _ => trivial
  | _ :: _, _ :: _, n + 1, h => ⟨h.1, RowsAt.take n h.2⟩
/-- another object is written -/
theorem RowsAt.upd {H : Hp} {p : Addr} {o : HO} : ∀ {as : List Addr} {m : List (List Int)}, RowsAt H as m → p ∉ as → RowsAt (L2.upd H p o) as m
  | [], [], _, _ => trivial
  | a :: _, _ :: _, h, n => ⟨by rw [upd_ne (fun e => n (by rw [e]; exact List.mem_cons_self))]; exact h.1, RowsAt.upd h.2 fun z => n (List.mem_cons_of_mem _ z)⟩
theorem RowsAt.mem {H : Hp} {a : Addr} : ∀ {as : List Addr} {m : List (List Int)}, RowsAt H as m → a ∈ as → ∃ r, H a = some (.lst (vI r))
  | [], [], _, z => by cases z
  | b :: as, r :: m, h, z => by
    rcases List.mem_cons.mp z with e | z
    · rw [e]; exact ⟨r, h.1⟩
    · exact RowsAt.mem h.2 z
/-- a list of lists is none of its rows -/
theorem RowsAt.notin {H : Hp} {p : Addr} {as : List Addr} {m : List (List Int)} (h : RowsAt H as m) (hp : H p = some (.lst (as.map V.ref))) : p ∉ as := fun z => by
  obtain ⟨r, e⟩ := h.mem z
  rw [hp] at e
  have e1 : as.map V.ref = vI r := HO.lst.inj (Option.some.inj e)
  cases as with
  | nil => cases z
  | cons a as =>
    cases r with
    | nil => cases e1
    | cons b r => cases (List.cons.inj e1).1
theorem sUp {H : Hp} {p : Addr} {o : HO} (hp : H p = none) : Same H (upd H p o) := fun b u e => by rw [upd_ne (ne_of_none e hp)]; exact e
theorem sUps {H0 H : Hp} {p : Addr} {o : HO} (s : Same H0 H) (hp : H0 p = none) : Same H0 (upd H p o) := fun b u e => by rw [upd_ne (ne_of_none e hp)]; exact s b u e
/-- a fraction: a tuple of two -/
def IsF (K : PySem.W.Frag) (H : Hp) (a : Addr) (f : Kxd5.Fraction) : Prop := SqT K H a [.int f.numerator, .int (f.denominator : Int)]
theorem sSqt {K : PySem.W.Frag} {H H' : Hp} {a : Addr} {xs : List V} (e : Same H H') (h : SqT K H a xs) : SqT K H' a xs := by
  rcases h with (h | ⟨o, h⟩) | h
  · exact .inl (.inl (e _ _ h))
  · exact .inl (.inr ⟨o, e _ _ h⟩)
  · exact .inr h
theorem small2 {n : Nat} (h : n ≤ 1000) : n ≤ sizeLine := Nat.le_of_lt (small1000 h)
theorem foldl_take {α β : Type} (f : β → α → β) (a : β) : ∀ {l : List α} {i : Nat} {x : α}, l[i]? = some x → (l.take (i + 1)).foldl f a = f ((l.take i).foldl f a) x := by
  intro l i x h
  have e : l.take (i + 1) = l.take i ++ [x] := by
    rw [List.take_add_one, h]
    rfl
  rw [e, List.foldl_append]
  rfl
theorem map_get {α β : Type} {f : α → β} {l : List α} {i : Nat} {y : β} (h : (l.map f)[i]? = some y) : ∃ x, l[i]? = some x ∧ y = f x := by
  rw [List.getElem?_map] at h
  cases e : l[i]? with
  | none => rw [e] at h; cases h
  | some x => rw [e] at h; exact ⟨x, rfl, (Option.some.inj h).symm⟩
theorem zip_get {α β : Type} {l : List α} {m : List β} {i : Nat} {x : α} {y : β} (h : l[i]? = some x) (h' : m[i]? = some y) : (l.zip m)[i]? = some (x, y) := by
  rw [List.getElem?_zip_eq_some]
  exact ⟨h, h'⟩
theorem walk_range0 {n : Nat} : Walk (Itr 0 n) n (fun _ => True) (fun i H x H' => H' = H ∧ x = .int (i : Nat)) :=
  walk_range.mono (fun _ h => h) fun i H x H' _ _ y => ⟨y.1, y.2.trans (congrArg V.int (Int.zero_add _))⟩
theorem ifT {c A B : Prop} [Decidable c] (h : c) (x : A) : if decide c = true then A else B := by
  rw [if_pos (decide_eq_true h)]
  exact x
theorem ifF {c A B : Prop} [Decidable c] (h : ¬ c) (x : B) : if decide c = true then A else B := by
  rw [if_neg (by rw [decide_eq_true_iff]; exact h)]
  exact x
theorem ifB {c A B : Prop} [Decidable c] (x : c → A) (y : ¬ c → B) : if decide c = true then A else B := by
  by_cases h : c
  · exact ifT h (x h)
  · exact ifF h (y h)
theorem ifNT {c A B : Prop} [Decidable c] (h : ¬ c) (x : A) : if (!decide c) = true then A else B := by
  rw [decide_eq_false h]
  exact x
theorem ifNF {c A B : Prop} [Decidable c] (h : c) (x : B) : if (!decide c) = true then A else B := by
  rw [decide_eq_true h]
  exact iteF x
theorem hu65 {k : Nat} {A : Around} (r : Room k A) : A.units + 65 < cLine := by have := r.un; omega
theorem take_next {α : Type} {l : List α} {i : Nat} {x : α} (h : l[i]? = some x) : l.take (i + 1) = l.take i ++ [x] := by
  rw [List.take_add_one, h]
  rfl
end Bd
set_option maxRecDepth 100000
set_option maxHeartbeats 4000000
namespace Bd
open PySem PySem.Spec PyProof.Rows L2
/-! ## a list against the empty list -/
section
variable {X : Cx}
theorem op_eqE (hu : X.A.units < cLine) : OpR X (compareOp .Eq) (fun x y H Q => ∃ a b xs, x = .ref a ∧ y = .ref b ∧ SqL X.K H a xs ∧ SqL X.K H b [] ∧ Q (.bl xs.isEmpty) H) := by
  intro pins s σ H x y v u Q I rx ry h
  obtain ⟨a, b, xs, rfl, rfl, h1, h2, q⟩ := h
  cases rx
  cases ry
  obtain ⟨its, rv, p, _⟩ := I.list h1
  obtain ⟨its2, rv2, p2, _⟩ := I.list h2
  have l2 := rv2.length
  have l1 := rv.length
  have z2 : its2 = [] := List.length_eq_zero_iff.mp l2.symm
  subst z2
  by_cases e : xs = []
  · subst e
    have z1 : its = [] := List.length_eq_zero_iff.mp l1.symm
    subst z1
    exact SeqAt.eq_listAt (e := fun _ => true) p.isList p2.isList rfl hu (fun j h1 _ => absurd h1 (Nat.not_lt_zero _)) ⟨.bl true, H, I, rfl, q⟩
  · have ne : its.length ≠ 0 := fun z => e (List.length_eq_zero_iff.mp (l1.trans z))
    have e2 : xs.isEmpty = false := by cases xs <;> first | exact absurd rfl e | rfl
    rw [e2] at q
    exact SeqAt.eq_list_lengthsAt p.isList p2.isList (by simp; exact fun z => ne (by rw [z]; rfl)) hu ⟨.bl false, H, I, rfl, q⟩
theorem canLay_ints : ∀ ns : List Int, PyData.canLayAll0 (ns.map PyData.int) = true
  | [] => rfl
  | _ :: r => by
    show (PyData.canLay0 (.int _) && PyData.canLayAll0 (r.map PyData.int)) = true
    rw [canLay_ints r]
    rfl
theorem depth_ints : ∀ ns : List Int, PyData.depthAll (ns.map PyData.int) = 0
  | [] => rfl
  | _ :: r => by
    show max (PyData.depth (.int _)) (PyData.depthAll (r.map PyData.int)) = 0
    rw [depth_ints r]
    rfl
def dI (ns : List Int) : PyData := .list (ns.map PyData.int)
theorem shaped_dI (ns : List Int) : SeqAt.shaped (dI ns) = true := by
  simp [dI, SeqAt.shaped, PyData.canLay0, PyData.depth, canLay_ints, depth_ints]
theorem dpAll_ints {K : PySem.W.Frag} {H : Hp} : ∀ ns : List Int, DpAll K H (vI ns) (ns.map PyData.int)
  | [] => .nil
  | x :: r => .cons (.int x) (dpAll_ints r)
theorem dp_dI {K : PySem.W.Frag} {H : Hp} {a : Addr} {ns : List Int} (h : SqL K H a (vI ns)) : Dp K H (.ref a) (dI ns) := .lst h (dpAll_ints ns)
theorem canLay_mat : ∀ m : List (List Int), PyData.canLayAll0 (m.map dI) = true
  | [] => rfl
  | x :: r => by
    show (PyData.canLay0 (dI x) && PyData.canLayAll0 (r.map dI)) = true
    rw [canLay_mat r]
    simp [dI, PyData.canLay0, canLay_ints]
theorem depth_mat : ∀ m : List (List Int), PyData.depthAll (m.map dI) ≤ 1
  | [] => Nat.zero_le _
  | x :: r => by
    show max (PyData.depth (dI x)) (PyData.depthAll (r.map dI)) ≤ 1
    have := depth_mat r
    have e : PyData.depth (dI x) = 1 := by simp [dI, PyData.depth, depth_ints]
    omega
theorem shaped_mat (m : List (List Int)) : SeqAt.shaped (.list (m.map dI)) = true := by
  have := depth_mat m
  simp [SeqAt.shaped, PyData.canLay0, PyData.depth, canLay_mat]
  omega
theorem dpAll_rows {K : PySem.W.Frag} {H : Hp} : ∀ {as : List Addr} {m : List (List Int)}, RowsAt H as m → DpAll K H (as.map V.ref) (m.map dI)
  | [], [], _ => .nil
  | a :: as, r :: m, h => .cons (dp_dI (SqL.of h.1)) (dpAll_rows h.2)
theorem eqv_dI (x y : List Int) : PyData.eqv (dI x) (dI y) = decide (x = y) := by
  have key : ∀ x y : List Int, PyData.eqvAll (x.map PyData.int) (y.map PyData.int) = decide (x = y) := by
    intro x
    induction x with
    | nil => intro y; cases y <;> rfl
    | cons a x ih =>
      intro y
      cases y with
      | nil => rfl
      | cons b y =>
        show (PyData.eqv (.int a) (.int b) && PyData.eqvAll (x.map PyData.int) (y.map PyData.int)) = _
        rw [ih y]
        have e : PyData.eqv (.int a) (.int b) = decide (a = b) := by rw [Bool.eq_iff_iff]; simp [PyData.eqv]
        rw [e]
        by_cases h1 : a = b <;> by_cases h2 : x = y <;> simp [h1, h2]
  exact key x y
/-- places != [] -/
theorem op_neI (hu : X.A.units + 64 < cLine) : OpR X (compareOp .NotEq) (fun x y H Q => ∃ a b ns, x = .ref a ∧ y = .ref b ∧ SqL X.K H a (vI ns) ∧ SqL X.K H b [] ∧ Q (.bl (!decide (ns = []))) H) := by
  intro pins s σ H x y v u Q I rx ry h
  obtain ⟨a, b, ns, rfl, rfl, h1, h2, q⟩ := h
  refine op_neD hu pins s σ H _ _ v u Q I rx ry ⟨dI ns, dI [], dp_dI h1, dp_dI h2, shaped_dI _, shaped_dI _, ?_⟩
  rw [eqv_dI]
  exact q
/-- row not in rows -/
theorem op_notRow (hu : X.A.units + 65 < cLine) : OpR X (compareOp .NotIn) (fun x y H Q => ∃ a b r m, x = .ref a ∧ y = .ref b ∧ SqL X.K H a (vI r) ∧ IsM H b m ∧ Q (.bl (!(m.any fun z => decide (z = r)))) H) := by
  intro pins s σ H x y v u Q I rx ry h
  obtain ⟨a, b, r, m, rfl, rfl, h1, ⟨as, h2, h3⟩, q⟩ := h
  refine op_notInD hu pins s σ H _ _ v u Q I rx ry ⟨dI r, m.map dI, dp_dI h1, .lst (SqL.of h2) (dpAll_rows h3), shaped_dI _, shaped_mat _, ?_⟩
  have e : ((m.map dI).any fun z => PyData.eqv z (dI r)) = m.any fun z => decide (z = r) := by
    rw [List.any_map]
    congr 1
    funext z
    exact eqv_dI z r
  rw [e]
  exact q
/-! ## names of the module -/
def MI (mg : Str → Option Value) (x : Str) (i : Int) : Prop := ∃ t, mg x = some (.int i t)
theorem pe_gi {x : Str} {i : Int} {pos : Pos} (h : MI X.mg x i) (hg : Gl X x := by rfl) (hd : (x == ("__debug__" : Str)) = false := by decide) : PE X (.Name x pos) (tC (.int i)) := by
  obtain ⟨t, e⟩ := h
  exact pe_glob hg e ⟨t, rfl⟩ hd
def MR (mg : Str → Option Value) (x : Str) (φ : Addr → Prop) : Prop := ∃ a, mg x = some (.ref a) ∧ φ a
def tGr (φ : Addr → Prop) : TE := fun _ H Q => ∀ a, φ a → Q (.ref a) H
theorem pe_gr {x : Str} {φ : Addr → Prop} {pos : Pos} (h : MR X.mg x φ) (hg : Gl X x := by rfl) (hd : (x == ("__debug__" : Str)) = false := by decide) : PE X (.Name x pos) (tGr φ) := by
  obtain ⟨a, e, p⟩ := h
  have r := pe_glob (pos := pos) (v := .ref a) hg e rfl hd
  exact ⟨fun pins s σ H Q I h => r.run pins s σ H Q I (h a p)⟩
end
/-- what the top has written: built-in names that are still the built-ins, numbers, tuples; the classes Design (D), Desk (E), Refused (R), NotRegular (N), TooLarge (L) -/
structure Txt (K : PySem.W.Frag) (mg : Str → Option Value) (D E R N L : Addr) : Prop where
  n_len : mg "len" = none
  n_abs : mg "abs" = none
  n_sum : mg "sum" = none
  n_all : mg "all" = none
  n_int : mg "int" = none
  n_list : mg "list" = none
  n_range : mg "range" = none
  n_zip : mg "zip" = none
  n_enumerate : mg "enumerate" = none
  n_ValueError : mg "ValueError" = none
  i_MOST_COUNT : MI mg "MOST_COUNT" 20
  i_MOST_LISTS : MI mg "MOST_LISTS" 500
  i_NO_DESIGN : MI mg "NO_DESIGN" (-11)
  i_NO_CANDIDATE : MI mg "NO_CANDIDATE" (-2)
  i_THERE_ALREADY : MI mg "THERE_ALREADY" (-17)
  i_OUT_OF_RANGE : MI mg "OUT_OF_RANGE" (-22)
  i_TOO_MANY : MI mg "TOO_MANY" (-28)
  i_NOT_THERE : MI mg "NOT_THERE" (-33)
  i_CREATE : MI mg "CREATE" 0
  i_MOST_COLUMNS : MI mg "MOST_COLUMNS" 4
  i_MOST_ENTRY : MI mg "MOST_ENTRY" 10
  i_MOST_CANDIDATES : MI mg "MOST_CANDIDATES" 10
  i_MOST_SIZE : MI mg "MOST_SIZE" 20
  i_MOST_BOUND : MI mg "MOST_BOUND" 100
  i_MOST_LIMIT : MI mg "MOST_LIMIT" 20
  i_MOST_STEPS : MI mg "MOST_STEPS" 3
  r_NOUGHT : MR mg "NOUGHT" fun a => ∀ H, SqT K H a (vI [0, 1])
  r_WITH_NUMBER : MR mg "WITH_NUMBER" fun a => ∀ H, SqT K H a (vI [0, 2, 3, 12, 14, 17, 18, 19, 20])
  r_WITH_LIST : MR mg "WITH_LIST" fun a => ∀ H, SqT K H a (vI [1, 4, 9, 21, 22])
  clD : Cls K D
  dc : NoAttr K D "columns"
  dr : NoAttr K D "rows"
  dn : NoAttr K D "counts"
  gD : mg "Design" = some (.ref D)
  clK : Cls K E
  ed : NoAttr K E "design"
  gK : mg "Desk" = some (.ref E)
  xR : OexC K R
  fR : XfC K R
  rc : PySem.W.findIn K (.ref R) "code" = some none
  gR : mg "Refused" = some (.ref R)
  vV : PySem.W.findCls K (.type "ValueError") (.type "type") "__init__" = some (.val (.builtin "ValueError.__init__"))
  eR : PySem.W.exmOne K (.ref R) (.ref R) = some true
  xN : PySem.W.excIn K N [.type "ValueError", .type "Exception", .type "BaseException", .type "object"] "ValueError.__new__" = true
  gN : mg "NotRegular" = some (.ref N)
  kN : PySem.W.keepIn K (.ref N) = true
  bN : PySem.W.subIn K (.ref N) (.type "BaseException") = some true
  tN : PySem.W.typeIn K (.ref N) = some (.type "type")
  eNR : PySem.W.exmOne K (.ref N) (.ref R) = some false
  eN : PySem.W.exmOne K (.ref N) (.ref N) = some true
  xL : PySem.W.excIn K L [.type "ValueError", .type "Exception", .type "BaseException", .type "object"] "ValueError.__new__" = true
  gL : mg "TooLarge" = some (.ref L)
  kL : PySem.W.keepIn K (.ref L) = true
  bL : PySem.W.subIn K (.ref L) (.type "BaseException") = some true
  tL : PySem.W.typeIn K (.ref L) = some (.type "type")
  eLR : PySem.W.exmOne K (.ref L) (.ref R) = some false
  eLN : PySem.W.exmOne K (.ref L) (.ref N) = some false
  eL : PySem.W.exmOne K (.ref L) (.ref L) = some true
end Bd
set_option maxRecDepth 100000
set_option maxHeartbeats 4000000
namespace Bd
open PySem PySem.Spec PyProof.Rows L2
/-! ## try with three clauses, the first of which gives the exception a name -/
/-- an exception at a has come down: sI is the state without it, t the state now -/
structure Lnd (X : Cx) (pins : List (Addr × Obj)) (σ : L2.St) (H : Hp) (a : Addr) (cls : Value) (d : Option Addr) (B : Heap) (sI t : Shared) : Prop where
  inv : Inv X pins σ H sI
  low : ∀ b o, sI.heap.get? b = some o → b ∉ frs X.stack → B.get? b = some o
  ups : sI.heap.UpToSlots t.heap
  fly : HandSPX.FlyingZ B (X.env :: X.outer) a (Zc cls d) t.heap
  new : H a = none
  os : t.os = sI.os
  gens : AllBare t.gens
section
variable {X : Cx} {pins : List (Addr × Obj)} {σ : L2.St} {H : Hp} {a : Addr} {cls : Value} {d : Option Addr} {B : Heap} {sI t : Shared} {D : Ends}
theorem Lnd.here (z : Lnd X pins σ H a cls d B sI t) : Inv X pins σ H t := z.inv.landed z.low z.fly.1 z.ups z.os z.gens
/-- inside a clause -/
theorem Lnd.inside (z : Lnd X pins σ H a cls d B sI t) (hf : X.env.frame = some X.env.locals) : ∃ ob vs, t.heap.get? a = some ob ∧ Zc cls d ob ∧ ob.data = .fields vs ∧ Inv (X.suite a ((a, ob) :: (X.pn ++ pins))) [] σ H t := by
  obtain ⟨ob, vs, e1, e2, e3⟩ := z.fly.there
  have out : a ∉ frs (X.env :: X.outer) := fun hm => by
    obtain ⟨_, o', e', no⟩ := (show t.heap.FunFrames B (X.env :: X.outer) from z.fly.2.2.1).mem hm
    rw [e1] at e'
    cases e'
    exact no _ e3
  refine ⟨ob, vs, e1, e2, e3, z.here.suite e1 e3 z.new (fun y => out ?_) fun hm => out ?_⟩
  · exact List.mem_filterMap.mpr ⟨X.env, List.mem_cons_self, by rw [hf, y]⟩
  · obtain ⟨en, hen, q⟩ := List.mem_filterMap.mp hm
    exact List.mem_filterMap.mpr ⟨en, List.mem_cons_of_mem _ hen, q⟩
/-- the clauses hds bear what V allows -/
def Bears (X : Cx) (pins : List (Addr × Obj)) (D : Ends) (hds : List ExceptHandler) (V : WX) : Prop :=
  ∀ σ H a cls d B sI t, Lnd X pins σ H a cls d B sI t → V cls d σ H → wpAny (model X.prog X.w) X.A (handleBy (.ref a) X.env hds) (SP X pins D) X.xe t
/-- one clause's wish, with the rest's -/
def orElse (K : PySem.W.Frag) (c : Value) (V : Addr → WX) (V' : WX) : WX := fun cls d σ H => ∃ b, PySem.W.exmOne K cls c = some b ∧ (b = true → ∀ a, H a = none → V a cls d σ H) ∧ (b = false → V' cls d σ H)
/-- the test of a clause -/
theorem tested {x : Str} {c : Value} {np : Pos} {Q : Bool → Shared → Prop} {E : Value → Shared → Prop} {b : Bool} (z : Lnd X pins σ H a cls d B sI t) (hf : X.env.frame = some X.env.locals) (hc : Names X x c) (hb : PySem.W.exmOne X.K cls c = some b) (q : Q b t) :
    wpAny (model X.prog X.w) (X.A.mark (some (.ref a))) (eval (.Name x np) X.env) (fun v u => wpAny (model X.prog X.w) (X.A.mark (some (.ref a))) (excMatches (.ref a) v) Q E u) E t := by
  obtain ⟨ob, vs, e1, e2, e3, S⟩ := z.inside hf
  have ty : PySem.W.Looks (model X.prog X.w) t.heap (typeOf (.ref a)) cls := fun A Q E s k q => wpAny_typeOf_ref (k _ _ e1) (by rw [e2.1]; exact q)
  have go := PySem.W.exm_one (M := model X.prog X.w) (z.here.kIn) ty hb
  obtain ⟨h1, h2, h3 | ⟨h3, h4, h5⟩⟩ := hc
  · exact ld_glob (X := X.suite a ((a, ob) :: (X.pn ++ pins))) S h1 h3 (go.here q) h2
  · exact ld_blt (X := X.suite a ((a, ob) :: (X.pn ++ pins))) S h1 h3 h4 (go.here q) h5 h2
theorem bears_cons {x : Str} {c : Value} {np pos' : Pos} {b₀ : Stmt} {suite : List Stmt} {hds : List ExceptHandler} {ts : Addr → Value → Option Addr → TS} {V' : WX} (hf : X.env.frame = some X.env.locals) (hc : Names X x c)
    (hsu : ∀ (a : Addr) (oe : Obj) (cls : Value) (d : Option Addr) (pn : List (Addr × Obj)), Zc cls d oe → (∃ vs, oe.data = .fields vs) → PSs (X.suite a ((a, oe) :: pn)) (b₀ :: suite) (ts a cls d)) (r : Bears X pins D hds V') :
    Bears X pins D (.ExceptHandler (some (.Name x np)) none (b₀ :: suite) pos' :: hds) (orElse X.K c (fun a cls d σ H => ts a cls d D σ H) V') := by
  intro σ H a cls d B sI t z v
  obtain ⟨b, hb, vy, vn⟩ := v
  have ok := z.inv.ok
  refine wpAny_handleBy_cons (codeAny_handlers_test (tested z hf hc hb ?_)) (by intro q; cases q)
  cases b with
  | false => exact r _ _ _ _ _ _ _ _ z (vn rfl)
  | true =>
    refine codeAny_handlers_suite (HandSPX.lands_againZ z.fly fun g fl up => ?_)
    have z' : Lnd X pins σ H a cls d B sI { t with heap := g } := ⟨z.inv, z.low, z.ups.trans up, fl, z.new, z.os, z.gens⟩
    obtain ⟨ob, vs, e1, e2, e3, S⟩ := z'.inside hf
    refine wpAny_mono ((hsu a ob cls d (X.pn ++ pins) e2 ⟨_, e3⟩).run [] _ _ _ _ S (vy rfl a z.new)) (fun f u hu => ?_) (fun _ _ no => False.elim no)
    cases f with
    | ret y => obtain ⟨v, σ', H', S', rv, q⟩ := hu; exact ⟨v, σ', H', S'.unsuite ok, rv, q⟩
    | next => obtain ⟨σ', H', S', q⟩ := hu; exact ⟨σ', H', S'.unsuite ok, q⟩
    | brk => obtain ⟨σ', H', S', q⟩ := hu; exact ⟨σ', H', S'.unsuite ok, q⟩
    | cont => obtain ⟨σ', H', S', q⟩ := hu; exact ⟨σ', H', S'.unsuite ok, q⟩
/-- the ends behind a clause whose name sits in slot i -/
def dropped (D : Ends) (i : Nat) : Ends := { nx := fun σ' H' => D.nx (σ'.set i none) H', rt := D.rt, bk := fun σ' H' => D.bk (σ'.set i none) H', ct := fun σ' H' => D.ct (σ'.set i none) H' }
theorem bears_as {x n : Str} {i : Nat} {c : Value} {np pos' : Pos} {b₀ : Stmt} {suite : List Stmt} {hds : List ExceptHandler} {ts : Addr → Value → Option Addr → TS} {V' : WX} (hf : X.env.frame = some X.env.locals) (hN : X.N.Nodup) (hi : X.N[i]? = some n) (hln : X.env.kindOf n = some .local) (hc : Names X x c)
    (hsu : ∀ (a : Addr) (oe : Obj) (cls : Value) (d : Option Addr) (pn : List (Addr × Obj)), Zc cls d oe → (∃ vs, oe.data = .fields vs) → PSs (X.suite a ((a, oe) :: pn)) (b₀ :: suite) (ts a cls d)) (r : Bears X pins D hds V') :
    Bears X pins D (.ExceptHandler (some (.Name x np)) (some n) (b₀ :: suite) pos' :: hds) (orElse X.K c (fun a cls d σ H => ts a cls d (dropped D i) (σ.set i (some (.ref a))) H) V') := by
  intro σ H a cls d B sI t z v
  obtain ⟨b, hb, vy, vn⟩ := v
  have ok := z.inv.ok
  refine wpAny_handleBy_cons (codeAny_handlers_test (tested z hf hc hb ?_)) (by intro q; cases q)
  cases b with
  | false => exact r _ _ _ _ _ _ _ _ z (vn rfl)
  | true =>
    refine codeAny_handlers_suite_as (HandSPX.lands_againZ z.fly fun g fl up => ?_)
    have z' : Lnd X pins σ H a cls d B sI { t with heap := g } := ⟨z.inv, z.low, z.ups.trans up, fl, z.new, z.os, z.gens⟩
    obtain ⟨ob, vs, e1, e2, e3, S⟩ := z'.inside hf
    refine store_ok (X := X.suite a ((a, ob) :: (X.pn ++ pins))) (v := .ref a) S hN hi (Or.inl hln) rfl (fun u2 S2 => ?_) (.inr hln)
    refine wpAny_mono ((hsu a ob cls d (X.pn ++ pins) e2 ⟨_, e3⟩).run [] u2 _ _ _ S2 (vy rfl a z.new)) (fun f u hu => ?_) (fun _ _ no => False.elim no)
    cases f with
    | ret y => obtain ⟨v, σ', H', S', rv, q⟩ := hu; exact gone_ok (S'.unsuite ok) hN hi hln fun w J => ⟨v, _, _, J, rv, q⟩
    | next => obtain ⟨σ', H', S', q⟩ := hu; exact gone_ok (S'.unsuite ok) hN hi hln fun w J => ⟨_, _, J, q⟩
    | brk => obtain ⟨σ', H', S', q⟩ := hu; exact gone_ok (S'.unsuite ok) hN hi hln fun w J => ⟨_, _, J, q⟩
    | cont => obtain ⟨σ', H', S', q⟩ := hu; exact gone_ok (S'.unsuite ok) hN hi hln fun w J => ⟨_, _, J, q⟩
/-- clauses that bear what the body lets out -/
theorem ps_try_borne {body : List Stmt} {h₀ : ExceptHandler} {hds : List ExceptHandler} {tb : WX → TS} {V : Ends → WX} {pos : Pos} (hs : X.stack = X.env :: X.outer) (hf : X.env.frame = some X.env.locals)
    (hb : ∀ (W : WX) (pn : List (Addr × Obj)) (xe : Value → Shared → Prop), Takes (X.tr pn xe) W → PassesOwn (model X.prog X.w) X.A X.env xe → PSs (X.tr pn xe) body (tb W)) (hh : ∀ pins D, Bears X pins D (h₀ :: hds) (V D)) :
    PS X (.Try body (h₀ :: hds) [] [] pos) (fun D σ H => tb (V D) D σ H) := by
  refine ⟨fun pins s σ H D I h => ?_⟩
  have ok := I.ok
  have fr : X.A.frames = some (X.env :: X.outer) := by rw [ok.frames, hs]
  refine wpAny_Try_except (wpAny_mono ((hb (V D) (X.pn ++ pins) (fun e u => wpAny (model X.prog X.w) X.A (noteFrame e X.env) (fun _ u1 => wpAny (model X.prog X.w) X.A (setFlight e none) (fun _ u2 =>
    wpAny (model X.prog X.w) X.A (handleBy e X.env (h₀ :: hds)) (SP X pins D) X.xe u2) X.xe u1) X.xe u) (fun y u xx => ?_) PassesOwn.looking).run [] s σ H D (I.toTry _) h) (fun f u hu => ?_) (fun _ _ he => he))
  · obtain ⟨a, B, sI, pn', σ', H', cls, d, rfl, J, nb, up, sky, na, os, ag, v⟩ := xx
    refine Sky.land Zc.steady fr hf (show Sky B (X.env :: X.outer) a (Zc cls d) X.env.locals u.heap by rw [← hs]; exact sky) fun g fl up' => ?_
    exact hh pins D σ' H' a cls d B sI { u with heap := g } ⟨J.ofTry ok, nb, up.trans up', fl, na, os, ag⟩ v
  · cases f with
    | next => obtain ⟨σ', H', J, q⟩ := hu; exact wpAny_execs_nil ⟨σ', H', J.ofTry ok, q⟩
    | ret y => obtain ⟨v, σ', H', J, rv, q⟩ := hu; exact ⟨v, σ', H', J.ofTry ok, rv, q⟩
    | brk => obtain ⟨σ', H', J, q⟩ := hu; exact ⟨σ', H', J.ofTry ok, q⟩
    | cont => obtain ⟨σ', H', J, q⟩ := hu; exact ⟨σ', H', J.ofTry ok, q⟩
theorem bears_nil : Bears X pins D [] (fun _ _ _ _ => False) := fun _ _ _ _ _ _ _ _ _ v => False.elim v
/-! ## calls inside the body of a try -/
variable {k i : Nat} {ps : List Str} {sp : Sp} {E : L2.St → XK} {C : CXT} {x : Str} {p pos : Pos} {e : Expr} {es : List Expr} {t : TA}
theorem pe_calS (c : Cal X.prog X.w X.K X.mg X.base C k x ps sp) (hr : Room k X.A) (hx : ∀ σ, PassesAt C X σ (E σ)) (ha : PA X (e :: es) t) (hg : Gl X x := by rfl)
    (hdb : (x == ("__debug__" : Str)) = false := by decide) (he : starEach (e :: es) X.env = (false, eval e X.env) :: starEach es X.env := by rfl) (hpl : (backTo pos (starEach es X.env)).any (·.1) = false := by rfl) :
    PE X (.Call (.Name x p) (e :: es) [] pos) (tCallS sp E t) := by
  obtain ⟨f, fd, F, hm, hk, hb⟩ := c.ex
  exact pe_callS F hr hg hm hk hb hx ha hdb he hpl
/-- the def at f, whatever its name -/
structure Fal (P : Program) (w : World) (K : PySem.W.Frag) (mg : Str → Option Value) (base : Heap) (C : CXT) (k : Nat) (f : Addr) (ps : List Str) (sp : Sp) : Prop where
  ex : ∃ fd : FuncData, FnOk P w K mg base C k f fd ps sp ∧ PySem.W.keepIn K (.ref f) = true ∧ Binds K fd ps []
/-- slot i holds one of the defs that S tells of -/
def tHeld (i : Nat) (S : Addr → Sp → Prop) (E : L2.St → XK) (t : TA) : TE := fun σ H Q => ∃ f sp, σ[i]? = some (some (.ref f)) ∧ S f sp ∧ t σ H fun vs H1 => sp vs H1 Q (E σ)
theorem pe_held {S : Addr → Sp → Prop} (A : ∀ f sp, S f sp → Fal X.prog X.w X.K X.mg X.base C k f ps sp) (hr : Room k X.A) (hN : X.N[i]? = some x) (hv : Vis X.env.scope x) (hx : ∀ σ, PassesAt C X σ (E σ)) (ha : PA X (e :: es) t)
    (hdb : (x == ("__debug__" : Str)) = false := by decide) (hcd : (x == ("__classdict__" : Str)) = false := by decide)
    (he : starEach (e :: es) X.env = (false, eval e X.env) :: starEach es X.env := by rfl) (hpl : (backTo pos (starEach es X.env)).any (·.1) = false := by rfl) : PE X (.Call (.Name x p) (e :: es) [] pos) (tHeld i S E t) := by
  refine ⟨fun pins s σ H Q I ⟨f, sp, hs, hS, ht⟩ => ?_⟩
  obtain ⟨fd, F, hk, hb⟩ := (A f sp hS).ex
  have look := (pe_var (pos := p) hN hv hdb hcd).run pins s σ H (fun y H1 => y = .ref f ∧ H1 = H) I ⟨.ref f, hs, rfl, rfl⟩
  refine wpAny_Call_Name_kw (thn look fun u s1 ⟨y, H1, I1, r1, ey, eH⟩ => ?_)
  subst ey
  subst eH
  cases r1
  refine PySem.W.callWith_K (h₀ := X.base) I.ok.mod.kin hk (thn (ha.run pos pins s1 σ _ _ I1 ht) fun us s2 ⟨vs, H2, I2, r, q⟩ => ⟨I2.kIn, run_fnS F hr hb (hx σ) I2 r q⟩) he hpl
end
end Bd
set_option maxRecDepth 100000
set_option maxHeartbeats 4000000
namespace Bd
open PySem PySem.Spec PyProof.Rows L2
/-! ## ratios.py -/
theorem gcd_step (a b : Int) (hb : 0 < b) : (Int.gcd b (a % b) : Int) = Int.gcd a b := by
  have z : a = a % b + b * (a / b) := by
    have := Int.emod_add_mul_ediv a b
    omega
  have h : Int.gcd (a % b + b * (a / b)) b = Int.gcd (a % b) b := Int.gcd_add_mul_left_left ..
  rw [← z] at h
  rw [Int.gcd_comm b, h]
theorem gcd_end (a : Int) (ha : 0 ≤ a) : (Int.gcd a 0 : Int) = a := by
  rw [Int.gcd_zero_right]
  omega
def spCommon : Sp := fun vs H Q _ => ∃ a b : Int, vs = [.int a, .int b] ∧ 0 ≤ a ∧ 0 ≤ b ∧ Q (.int (Int.gcd a b : Int)) H
def spRatio : Sp := fun vs H Q _ => ∃ a b : Int, vs = [.int a, .int b] ∧ 0 < b ∧ Bn 8000 b ∧
  ∀ p, H p = none → Q (.ref p) (upd H p (.tup [.int (Kxd5.fraction a b).numerator, .int ((Kxd5.fraction a b).denominator : Int)]))
/-- the new fraction at p -/
def spPlus (K : PySem.W.Frag) : Sp := fun vs H Q _ => ∃ (a b : Addr) (x y : Kxd5.Fraction), vs = [.ref a, .ref b] ∧ IsF K H a x ∧ IsF K H b y ∧ 0 < x.denominator ∧ 0 < y.denominator ∧
  Bn 4000 x.numerator ∧ Bn 4000 (x.denominator : Int) ∧ Bn 4000 y.numerator ∧ Bn 4000 (y.denominator : Int) ∧
  ∀ p, H p = none → Q (.ref p) (upd H p (.tup [.int (Kxd5.plus x y).numerator, .int ((Kxd5.plus x y).denominator : Int)]))
def spTimes (K : PySem.W.Frag) : Sp := fun vs H Q _ => ∃ (a b : Addr) (x y : Kxd5.Fraction), vs = [.ref a, .ref b] ∧ IsF K H a x ∧ IsF K H b y ∧ 0 < x.denominator ∧ 0 < y.denominator ∧
  Bn 4000 x.numerator ∧ Bn 4000 (x.denominator : Int) ∧ Bn 4000 y.numerator ∧ Bn 4000 (y.denominator : Int) ∧
  ∀ p, H p = none → Q (.ref p) (upd H p (.tup [.int (Kxd5.times x y).numerator, .int ((Kxd5.times x y).denominator : Int)]))
def spIsLess (K : PySem.W.Frag) : Sp := fun vs H Q _ => ∃ (a b : Addr) (x y : Kxd5.Fraction), vs = [.ref a, .ref b] ∧ IsF K H a x ∧ IsF K H b y ∧
  Bn 8000 x.numerator ∧ Bn 8000 (x.denominator : Int) ∧ Bn 8000 y.numerator ∧ Bn 8000 (y.denominator : Int) ∧ Q (.bl (Kxd5.isLess x y)) H
section
variable {P : Program} {w : World} {K : PySem.W.Frag} {mg : Str → Option Value} {base : Heap} {D E R N L : Addr}
abbrev s_common : Stmt := top 2
abbrev sl_common : List Str := ["one", "other"]
theorem sc_common : FnScope sl_common ["one", "other"] (defScope s_common) := ⟨rfl, rfl, rfl, by decide +kernel, rfl, by decide +kernel, by decide +kernel⟩
theorem ok_common {f : Addr} {fd : FuncData} (F : Fun K "common" "common" s_common f fd) (T : Txt K mg D E R N L) : FnOk P w K mg base CX0 1 f fd ["one", "other"] spCommon := by
  refine F.ok sc_common (fun vs H Q E h => ?_) (fun cdv A outer s H vs Q E hr h => ⟨_, (pss_cons (ps_while PassesOwn.never (pt_cmpR op_gt (pv 1) pe_int (nomark _)) (pss_one (ps_par (i := 0) (j := 1) rfl sc_common.nd rfl rfl (by decide) rfl rfl (pa_cons (pv 1) (pa_cons (pe_op op_mod (pv 0) (pv 1)) pa_nil)) (by rfl))))
      (pss_one (ps_ret (pv 0)))), ?_⟩)
  · obtain ⟨_, _, rfl, _⟩ := h; rfl
  obtain ⟨a, b, rfl, ha, hb, q⟩ := h
  refine while_by (fun σ H' => H' = H ∧ ∃ x y : Int, σ = [some (.int x), some (.int y)] ∧ 0 ≤ x ∧ 0 ≤ y ∧ Int.gcd x y = Int.gcd a b)
    (fun σ _ => match σ with | [_, some (.int y)] => y.toNat | _ => 0) ⟨rfl, a, b, rfl, ha, hb, rfl⟩ ?_ ?_
  · rintro σ H' ⟨rfl, x, y, rfl, hx, hy, hg⟩
    refine ⟨_, rfl, _, _, rfl, rfl, _, rfl, ?_⟩
    refine ifB (fun c => ?_) (fun c => ?_)
    · refine ⟨_, rfl, _, rfl, _, rfl, _, _, rfl, rfl, c, _, _, rfl, ?_⟩
      refine ⟨⟨rfl, y, x % y, rfl, hy, Int.emod_nonneg x (by omega), ?_⟩, ?_⟩
      · have := gcd_step x y c
        omega
      · have h1 := Int.emod_lt_of_pos x c
        have h2 := Int.emod_nonneg x (show y ≠ 0 by omega)
        show (x % y).toNat < y.toNat
        omega
    · have y0 : y = 0 := by omega
      subst y0
      refine ⟨_, rfl, ?_⟩
      rw [Int.gcd_zero_right] at hg
      have e : x = (Int.gcd a b : Int) := by omega
      rw [e]
      exact q
  · rintro σ H' Q1 Q2 hQ ⟨v, e, i, j, e1, e2, k, e3, q⟩
    exact ⟨v, e, i, j, e1, e2, k, e3, hQ _ _ q⟩
abbrev s_ratio : Stmt := top 3
abbrev sl_ratio : List Str := ["above", "below", "shared"]
theorem sc_ratio : FnScope sl_ratio ["above", "below"] (defScope s_ratio) := ⟨rfl, rfl, rfl, by decide +kernel, rfl, by decide +kernel, by decide +kernel⟩
theorem ok_ratio {f : Addr} {fd : FuncData} (F : Fun K "ratio" "ratio" s_ratio f fd) (T : Txt K mg D E R N L) (c_common : Cal P w K mg base CX0 1 "common" ["one", "other"] spCommon) :
    FnOk P w K mg base CX0 2 f fd ["above", "below"] spRatio := by
  refine F.ok sc_ratio (fun vs H Q E h => ?_) (fun cdv A outer s H vs Q E hr h => ⟨_, (pss_cons (ps_set (i := 2) sc_ratio.nd rfl (by first | exact Or.inl rfl | exact Or.inr rfl) (pe_cal c_common (hr.mono (by decide)) pass0 (pa_cons (pe_callB call_abs (by rfl) T.n_abs (by decide +kernel) (pa_cons (pv 0) pa_nil)) (pa_cons (pv 1) pa_nil))))
      (pss_one (ps_ret (pe_tup (pa_cons (pe_op op_fdivW (pv 0) (pv 2)) (pa_cons (pe_op op_fdivW (pv 1) (pv 2)) pa_nil)))))), ?_⟩)
  · obtain ⟨_, _, rfl, _⟩ := h; rfl
  obtain ⟨a, b, rfl, hb, hB, q⟩ := h
  have ea : (Int.gcd (if a < 0 then -a else a) b : Int) = Int.gcd a b := by
    split
    · rw [Int.neg_gcd]
    · rfl
  have hg : 0 < Int.gcd a b := Int.gcd_pos_of_ne_zero_right _ (by omega)
  have hgb : Bn 8000 (Int.gcd a b : Int) := by
    have h1 : Int.gcd a b ≤ b.natAbs := Nat.le_of_dvd (by omega) (by simpa using Int.natAbs_dvd_natAbs.mpr (Int.gcd_dvd_right a b))
    unfold Bn at *
    rw [Int.natAbs_natCast]
    omega
  have hd : CDivW a (Int.gcd a b : Int) := hgb.cd (by omega) (by omega)
  have hd2 : CDivW b (Int.gcd a b : Int) := hgb.cd (by omega) (by omega)
  refine ⟨_, rfl, _, rfl, _, rfl, _, _, rfl, ?_, by omega, ?_⟩
  · split <;> omega
  rw [ea]
  refine ⟨_, rfl, _, rfl, _, _, rfl, rfl, hd, _, rfl, _, rfl, _, _, rfl, rfl, hd2, (by show 2 ≤ sizeLine; decide), fun p hp => ?_⟩
  have e1 : (Kxd5.fraction a b).numerator = a / (Int.gcd a b : Int) := by
    unfold Kxd5.fraction
    simp only [show ¬ b = 0 by omega, show ¬ b < 0 by omega, if_false]
  have e2 : ((Kxd5.fraction a b).denominator : Int) = b / (Int.gcd a b : Int) := by
    unfold Kxd5.fraction
    simp only [show ¬ b = 0 by omega, show ¬ b < 0 by omega, if_false]
    exact Int.toNat_of_nonneg (Int.ediv_nonneg (by omega) (by omega))
  have r := q p hp
  rw [e1, e2] at r
  exact r
abbrev s_plus : Stmt := top 4
abbrev sl_plus : List Str := ["one", "other"]
theorem sc_plus : FnScope sl_plus ["one", "other"] (defScope s_plus) := ⟨rfl, rfl, rfl, by decide +kernel, rfl, by decide +kernel, by decide +kernel⟩
theorem ok_plus {f : Addr} {fd : FuncData} (F : Fun K "plus" "plus" s_plus f fd) (T : Txt K mg D E R N L) (c_ratio : Cal P w K mg base CX0 2 "ratio" ["above", "below"] spRatio) :
    FnOk P w K mg base CX0 3 f fd ["one", "other"] (spPlus K) := by
  refine F.ok sc_plus (fun vs H Q E h => ?_) (fun cdv A outer s H vs Q E hr h => ⟨_, (pss_one (ps_ret (pe_cal c_ratio (hr.mono (by decide)) pass0 (pa_cons (pe_op op_add (pe_op op_mulW (pe_ix ix_tup (pv 0) pe_int (fun _ _ => rfl)) (pe_ix ix_tup (pv 1) pe_int (fun _ _ => rfl))) (pe_op op_mulW (pe_ix ix_tup (pv 1) pe_int (fun _ _ => rfl)) (pe_ix ix_tup (pv 0) pe_int (fun _ _ => rfl)))) (pa_cons (pe_op op_mulW (pe_ix ix_tup (pv 0) pe_int (fun _ _ => rfl)) (pe_ix ix_tup (pv 1) pe_int (fun _ _ => rfl))) pa_nil))))), ?_⟩)
  · obtain ⟨_, _, _, _, rfl, _⟩ := h; rfl
  obtain ⟨a, b, x, y, rfl, ha, hb, n1, n2, b1, b2, b3, b4, q⟩ := h
  refine ⟨_, rfl, a, _, _, _, rfl, rfl, ha, atI_nat (j := 0) rfl, _, rfl, b, _, _, _, rfl, rfl, hb, atI_nat (j := 1) rfl, _, _, rfl, rfl, b1.cm b4 (by omega), ?_⟩
  refine ⟨_, rfl, b, _, _, _, rfl, rfl, hb, atI_nat (j := 0) rfl, _, rfl, a, _, _, _, rfl, rfl, ha, atI_nat (j := 1) rfl, _, _, rfl, rfl, b3.cm b2 (by omega), ?_⟩
  refine ⟨_, _, rfl, rfl, _, rfl, a, _, _, _, rfl, rfl, ha, atI_nat (j := 1) rfl, _, rfl, b, _, _, _, rfl, rfl, hb, atI_nat (j := 1) rfl, _, _, rfl, rfl, b2.cm b4 (by omega), ?_⟩
  refine ⟨_, _, rfl, ?_, (b2.mul b4).mono (by omega), fun p hp => q p hp⟩
  exact Int.mul_pos (by omega) (by omega)
abbrev s_times : Stmt := top 5
abbrev sl_times : List Str := ["one", "other"]
theorem sc_times : FnScope sl_times ["one", "other"] (defScope s_times) := ⟨rfl, rfl, rfl, by decide +kernel, rfl, by decide +kernel, by decide +kernel⟩
theorem ok_times {f : Addr} {fd : FuncData} (F : Fun K "times" "times" s_times f fd) (T : Txt K mg D E R N L) (c_ratio : Cal P w K mg base CX0 2 "ratio" ["above", "below"] spRatio) :
    FnOk P w K mg base CX0 3 f fd ["one", "other"] (spTimes K) := by
  refine F.ok sc_times (fun vs H Q E h => ?_) (fun cdv A outer s H vs Q E hr h => ⟨_, (pss_one (ps_ret (pe_cal c_ratio (hr.mono (by decide)) pass0 (pa_cons (pe_op op_mulW (pe_ix ix_tup (pv 0) pe_int (fun _ _ => rfl)) (pe_ix ix_tup (pv 1) pe_int (fun _ _ => rfl))) (pa_cons (pe_op op_mulW (pe_ix ix_tup (pv 0) pe_int (fun _ _ => rfl)) (pe_ix ix_tup (pv 1) pe_int (fun _ _ => rfl))) pa_nil))))), ?_⟩)
  · obtain ⟨_, _, _, _, rfl, _⟩ := h; rfl
  obtain ⟨a, b, x, y, rfl, ha, hb, n1, n2, b1, b2, b3, b4, q⟩ := h
  refine ⟨_, rfl, a, _, _, _, rfl, rfl, ha, atI_nat (j := 0) rfl, _, rfl, b, _, _, _, rfl, rfl, hb, atI_nat (j := 0) rfl, _, _, rfl, rfl, b1.cm b3 (by omega), ?_⟩
  refine ⟨_, rfl, a, _, _, _, rfl, rfl, ha, atI_nat (j := 1) rfl, _, rfl, b, _, _, _, rfl, rfl, hb, atI_nat (j := 1) rfl, _, _, rfl, rfl, b2.cm b4 (by omega), ?_⟩
  refine ⟨_, _, rfl, ?_, (b2.mul b4).mono (by omega), fun p hp => q p hp⟩
  exact Int.mul_pos (by omega) (by omega)
abbrev s_is_less : Stmt := top 6
abbrev sl_is_less : List Str := ["one", "other"]
theorem sc_is_less : FnScope sl_is_less ["one", "other"] (defScope s_is_less) := ⟨rfl, rfl, rfl, by decide +kernel, rfl, by decide +kernel, by decide +kernel⟩
theorem ok_is_less {f : Addr} {fd : FuncData} (F : Fun K "is_less" "is_less" s_is_less f fd) (T : Txt K mg D E R N L) : FnOk P w K mg base CX0 1 f fd ["one", "other"] (spIsLess K) := by
  refine F.ok sc_is_less (fun vs H Q E h => ?_) (fun cdv A outer s H vs Q E hr h => ⟨_, (pss_one (ps_ret (pe_cmpR op_lt (pe_op op_mulW (pe_ix ix_tup (pv 0) pe_int (fun _ _ => rfl)) (pe_ix ix_tup (pv 1) pe_int (fun _ _ => rfl))) (pe_op op_mulW (pe_ix ix_tup (pv 1) pe_int (fun _ _ => rfl)) (pe_ix ix_tup (pv 0) pe_int (fun _ _ => rfl))) (nomark _)))), ?_⟩)
  · obtain ⟨_, _, _, _, rfl, _⟩ := h; rfl
  obtain ⟨a, b, x, y, rfl, ha, hb, b1, b2, b3, b4, q⟩ := h
  refine ⟨_, rfl, a, _, _, _, rfl, rfl, ha, atI_nat (j := 0) rfl, _, rfl, b, _, _, _, rfl, rfl, hb, atI_nat (j := 1) rfl, _, _, rfl, rfl, b1.cm b4 (by omega), ?_⟩
  refine ⟨_, rfl, b, _, _, _, rfl, rfl, hb, atI_nat (j := 0) rfl, _, rfl, a, _, _, _, rfl, rfl, ha, atI_nat (j := 1) rfl, _, _, rfl, rfl, b3.cm b2 (by omega), ?_⟩
  exact ⟨_, _, rfl, rfl, q⟩
end
end Bd
set_option maxRecDepth 100000
set_option maxHeartbeats 4000000
namespace Bd
open PySem PySem.Spec PyProof.Rows L2
/-! ## matrices.py: making matrices -/
theorem zw_get {α β γ : Type} {f : α → β → γ} {l : List α} {m : List β} {i : Nat} {x : α} {y : β} (h : l[i]? = some x) (h' : m[i]? = some y) : (List.zipWith f l m)[i]? = some (f x y) := by
  rw [List.getElem?_zipWith, h, h']
theorem ty_list {K : PySem.W.Frag} {H : Hp} {p : Addr} {xs : List V} (h : H p = some (.lst xs)) : tyV K "list" (.ref p) H := .inl ⟨rfl, _, SqL.of h⟩
theorem cut_to {xs : List V} {k : Nat} : cutV xs none (some (k : Int)) = xs.take k := by
  unfold cutV
  rw [HT.sIx_none, HT.sIx_nat, List.drop_zero, Nat.sub_zero]
  rw [← List.take_eq_take_min]
theorem cut_from {xs : List V} {k : Nat} : cutV xs (some (k : Int)) none = xs.drop k := by
  unfold cutV
  rw [HT.sIx_none, HT.sIx_nat]
  rcases Nat.le_total k xs.length with h | h
  · rw [Nat.min_eq_left h, List.take_of_length_le (by simp)]
  · rw [Nat.min_eq_right h, List.drop_eq_nil_of_le (Nat.le_refl _), List.drop_eq_nil_of_le h]
    simp
def spMoved : Sp := fun vs H Q _ => ∃ (a r : Addr) (t : Int) (m : Mat) (row : Row), vs = [.ref a, .ref r, .int t] ∧ IsM H a m ∧ H r = some (.lst (vI row)) ∧ m.length = row.length ∧ (∀ l ∈ m, l.length = row.length) ∧ row.length ≤ 1000 ∧
  Bn 4000 t ∧ (∀ x ∈ row, Bn 4000 x) ∧ ∀ H' p, Same H H' → IsM H' p (moved m row t) → Q (.ref p) H'
def spNothing : Sp := fun vs H Q _ => ∃ n : Nat, vs = [.int n] ∧ n ≤ 10 ∧ ∀ H' p, Same H H' → IsM H' p (nothing n) → Q (.ref p) H'
theorem rows_push {H H' : Hp} {p Dd : Addr} {bs : List Addr} {m : Mat} {r : Row} {o : HO} (hb : RowsAt H bs m) (hp : H p = some (.lst (bs.map V.ref))) (s : Same H H') (hD : H' Dd = some (.lst (vI r))) (ne : p ≠ Dd) : RowsAt (upd H' p o) (bs ++ [Dd]) (m ++ [r]) := by
  have nb : p ∉ bs := hb.notin hp
  refine RowsAt.upd (RowsAt.snoc hD (hb.same s)) (fun z => ?_)
  rcases List.mem_append.mp z with z | z
  · exact nb z
  · exact ne (List.mem_singleton.mp z)
def spInfo : Sp := fun vs H Q _ => ∃ (n : Nat) (a c : Addr) (rows : List Row) (cs : List Int), vs = [.int n, .ref a, .ref c] ∧ IsM H a rows ∧ H c = some (.lst (vI cs)) ∧ n ≤ 10 ∧ rows.length = cs.length ∧ (∀ r ∈ rows, r.length = n) ∧
  (∀ x ∈ cs, Bn 4000 x) ∧ EB 4000 rows ∧ ∀ H' p, Same H H' → IsM H' p (information n rows cs) → Q (.ref p) H'
def spLess : Sp := fun vs H Q _ => ∃ (n : Nat) (a b : Addr) (m k : Mat), vs = [.ref a, .ref b] ∧ IsM H a m ∧ IsM H b k ∧ IsMat n m ∧ IsMat n k ∧ n ≤ 10 ∧ ∀ H' p, Same H H' → IsM H' p (lessM m k) → Q (.ref p) H'
def spWithout : Sp := fun vs H Q _ => ∃ (a : Addr) (m : Mat) (i j : Nat), vs = [.ref a, .int i, .int j] ∧ IsM H a m ∧ m.length ≤ 10 ∧ (∀ r ∈ m, r.length ≤ 10) ∧ ∀ H' p, Same H H' → IsM H' p (without m i j) → Q (.ref p) H'
theorem vI_take (l : Row) (k : Nat) : (vI l).take k = vI (l.take k) := List.map_take.symm
theorem vI_drop (l : Row) (k : Nat) : (vI l).drop k = vI (l.drop k) := List.map_drop.symm
theorem vR_take (l : List Addr) (k : Nat) : (l.map V.ref).take k = (l.take k).map V.ref := List.map_take.symm
theorem vR_drop (l : List Addr) (k : Nat) : (l.map V.ref).drop k = (l.drop k).map V.ref := List.map_drop.symm
theorem erase_cut {α : Type} (l : List α) (k : Nat) : l.take k ++ l.drop (k + 1) = l.eraseIdx k := (List.eraseIdx_eq_take_drop_succ ..).symm
section
variable {P : Program} {w : World} {K : PySem.W.Frag} {mg : Str → Option Value} {base : Heap} {D E R N L : Addr}
abbrev s_moved : Stmt := top 8
abbrev sl_moved : List Str := ["matrix", "row", "by", "found", "entry", "line", "value", "other"]
theorem sc_moved : FnScope sl_moved ["matrix", "row", "by"] (defScope s_moved) := ⟨rfl, rfl, rfl, by decide +kernel, rfl, by decide +kernel, by decide +kernel⟩
theorem ok_moved {f : Addr} {fd : FuncData} (F : Fun K "moved" "moved" s_moved f fd) (T : Txt K mg D E R N L) : FnOk P w K mg base CX0 1 f fd ["matrix", "row", "by"] spMoved := by
  refine F.ok sc_moved (fun vs H Q E h => ?_) (fun cdv A outer s H vs Q E hr h => ⟨_, (pss_cons (ps_set (i := 3) sc_moved.nd rfl (by first | exact Or.inl rfl | exact Or.inr rfl) (pe_lst pa_nil))
      (pss_cons (ps_for PassesOwn.never rfl (pi_zip (by rfl) T.n_zip (pa_cons (pv 1) (pa_cons (pv 0) pa_nil))) (pg_tup (by rfl) (pgs_cons (pg_name (i := 4) sc_moved.nd rfl (by first | exact Or.inl rfl | exact Or.inr rfl)) (pgs_cons (pg_name (i := 5) sc_moved.nd rfl (by first | exact Or.inl rfl | exact Or.inr rfl)) pgs_nil)))
      (pss_one (ps_expr (pe_bm PySem.F.plainAttrs_list PySem.F.slot_list_append PySem.F.type_list_append mt_append (pv 3) (pa_cons (pe_lc (own := [("value", 6), ("other", 7)]) (g := gTup K 2 (gCons (gName 6) (gCons (gName 7) gNil))) (tt := tYes) rfl sc_moved.nd (pi_zip (by rfl) T.n_zip (pa_cons (pv 5) (pa_cons (pv 1) pa_nil))) (blkOk_by (N := sl_moved) (sc := defScope s_moved) (by decide +kernel)) (fun _ _ _ _ _ => (pg_tup (by rfl) (pgs_cons (pg_name (i := 6) sc_moved.nd rfl (by first | exact Or.inl rfl | exact Or.inr rfl)) (pgs_cons (pg_name (i := 7) sc_moved.nd rfl (by first | exact Or.inl rfl | exact Or.inr rfl)) pgs_nil)))) (fun _ _ _ _ _ => pts_nil) (fun _ _ _ _ _ => (pe_op op_add (pv 6) (pe_op op_mulW (pe_op op_mulW (pv 2) (pv 4)) (pv 7))))) pa_nil)))))
      (pss_one (ps_ret (pv 3))))), ?_⟩)
  · obtain ⟨_, _, _, _, _, rfl, _⟩ := h; rfl
  obtain ⟨a, r, t, m, row, rfl, ⟨as, ha, hR⟩, hr', hl, hl2, hz, bt, bx, q⟩ := h
  refine ⟨Nat.zero_le _, fun p hp => ?_⟩
  have s0 : Same H (upd H p (.lst [])) := sUp hp
  have nr : r ≠ p := ne_of_none hr' hp
  have na : a ≠ p := ne_of_none ha hp
  have hal : as.length = row.length := by rw [hR.length, hl]
  refine ⟨_, rfl, _, rfl, r, a, vI row, as.map V.ref, rfl, SqL.of (s0 _ _ hr'), SqL.of (s0 _ _ ha), for_it (walk_zip (xs := vI row) (ys := as.map V.ref) (n := row.length) (by simp [hal]))
    (fun i σ H' => ∃ v1 v2 : Option V, σ = [some (.ref a), some (.ref r), some (.int t), some (.ref p), v1, v2, none, none] ∧ Same H H' ∧ ∃ bs : List Addr, H' p = some (.lst (bs.map V.ref)) ∧ RowsAt H' bs ((moved m row t).take i))
    ⟨none, none, rfl, s0, [], upd_same, trivial⟩ (fun i σ H' _ h => ?_) ?_ ?_⟩
  · obtain ⟨_, _, _, s1, _⟩ := h
    exact ⟨SqL.of (s1 _ _ hr'), SqL.of (s1 _ _ ha)⟩
  · rintro i x σ H1 H2 hi ⟨v1, v2, rfl, s1, bs, hpb, hb⟩ ⟨T0, x1, y1, rfl, hT, rfl, hx, hy⟩
    obtain ⟨e, he, rfl⟩ := map_get hx
    obtain ⟨b, hb1, rfl⟩ := map_get hy
    obtain ⟨line, hm, hline⟩ := hR.get' hb1
    have hll : line.length = row.length := hl2 line (List.mem_of_getElem? hm)
    have s2 : Same H (upd H1 T0 (.tup [.int e, .ref b])) := sUps s1 (s1.free hT)
    have hpT : p ≠ T0 := ne_of_none hpb hT
    have s12 : Same H1 (upd H1 T0 (.tup [.int e, .ref b])) := sUp hT
    refine ⟨T0, _, rfl, SqT.of upd_same, rfl, _, _, rfl, _, _, rfl, rfl, ?_⟩
    refine ⟨_, rfl, ty_list (s12 _ _ hpb), ?_⟩
    refine ⟨_, rfl, _, rfl, b, r, vI line, vI row, rfl, SqL.of (s2 _ _ hline), SqL.of (s2 _ _ hr'), fun Dd hD => lc_it (walk_zip (xs := vI line) (ys := vI row) (n := row.length) (by simp [hll]))
      (fun j H3 => Same (upd H1 T0 (.tup [.int e, .ref b])) H3 ∧ H3 Dd = some (.lst (vI ((movedLine e t line row).take j))))
      ⟨sUp hD, upd_same⟩ (fun j H3 _ h => ⟨SqL.of (h.1 _ _ (s2 _ _ hline)), SqL.of (h.1 _ _ (s2 _ _ hr'))⟩) ?_ ?_⟩
    · rintro j x H3 H4 hj ⟨s3, hD3⟩ ⟨T1, x2, y2, rfl, hT1, rfl, hx2, hy2⟩
      obtain ⟨va, hva, rfl⟩ := map_get hx2
      obtain ⟨vo, hvo, rfl⟩ := map_get hy2
      refine ⟨T1, _, rfl, SqT.of upd_same, rfl, _, _, rfl, _, _, rfl, rfl, rfl, ?_⟩
      have be : Bn 4000 e := bx e (List.mem_of_getElem? he)
      have bo : Bn 4000 vo := bx vo (List.mem_of_getElem? hvo)
      have hDT : Dd ≠ T1 := ne_of_none hD3 hT1
      refine ⟨_, rfl, _, rfl, _, rfl, _, _, rfl, rfl, bt.cm be (by omega), _, rfl, _, _, rfl, rfl, (bt.mul be).cm bo (by omega), _, _, rfl, rfl, _, (by rw [upd_ne hDT]; exact hD3), ?_, ?_, ?_⟩
      · exact small1000 (by simp only [List.length_map, List.length_take]; omega)
      · exact sUps (sUps s3 (s3.free hT1)) hD
      · rw [upd_same, take_next (l := movedLine e t line row) (zw_get hva hvo)]
        simp
    · rintro H3 ⟨s3, hD3⟩
      have hpD : p ≠ Dd := ne_of_none (s12 _ _ hpb) hD
      have e1 : (movedLine e t line row).take row.length = movedLine e t line row := List.take_of_length_le (by unfold movedLine; rw [List.length_zipWith]; omega)
      rw [e1] at hD3
      have nb : p ∉ bs := hb.notin hpb
      refine ⟨p, _, _, rfl, rfl, s3 _ _ (s12 _ _ hpb), ?_, ?_⟩
      · exact small1000 (by rw [List.length_map, hb.length, List.length_take]; omega)
      · refine ⟨_, _, rfl, (fun c o h => ?_), bs ++ [Dd], ?_, ?_⟩
        · rw [upd_ne (ne_of_none h hp)]
          exact s3 _ _ (s2 _ _ h)
        · rw [upd_same]; simp
        · rw [take_next (l := moved m row t) (zw_get he hm)]
          refine RowsAt.upd (RowsAt.snoc hD3 ((hb.same s12).same s3)) (fun z => ?_)
          rcases List.mem_append.mp z with z | z
          · exact nb z
          · exact hpD (List.mem_singleton.mp z)
  · rintro σ H' ⟨v1, v2, rfl, s1, bs, hpb, hb⟩
    rw [List.take_of_length_le (by unfold moved; rw [List.length_zipWith]; omega)] at hb
    exact ⟨_, rfl, q _ _ s1 ⟨bs, hpb, hb⟩⟩
abbrev s_nothing : Stmt := top 9
abbrev sl_nothing : List Str := ["columns", "turn"]
theorem sc_nothing : FnScope sl_nothing ["columns"] (defScope s_nothing) := ⟨rfl, rfl, rfl, by decide +kernel, rfl, by decide +kernel, by decide +kernel⟩
theorem ok_nothing {f : Addr} {fd : FuncData} (F : Fun K "nothing" "nothing" s_nothing f fd) (T : Txt K mg D E R N L) : FnOk P w K mg base CX0 1 f fd ["columns"] spNothing := by
  refine F.ok sc_nothing (fun vs H Q E h => ?_) (fun cdv A outer s H vs Q E hr h => ⟨_, (pss_one (ps_ret (pe_lc (own := [("turn", 1)]) (g := gName 1) (tt := tYes) rfl sc_nothing.nd (pi_range1 (by rfl) T.n_range (pa_cons (pv 0) pa_nil)) (blkOk_by (N := sl_nothing) (sc := defScope s_nothing) (by decide +kernel)) (fun _ _ _ _ _ => (pg_name (i := 1) sc_nothing.nd rfl (by first | exact Or.inl rfl | exact Or.inr rfl))) (fun _ _ _ _ _ => pts_nil) (fun _ _ _ _ _ => (pe_op op_rep (pe_lst (pa_cons pe_int pa_nil)) (pv 0)))))), ?_⟩)
  · obtain ⟨_, rfl, _⟩ := h; rfl
  obtain ⟨n, rfl, hn, q⟩ := h
  refine ⟨_, rfl, _, rfl, by omega, by omega, fun Dd hD => lc_it walk_range (fun j H3 => Same H H3 ∧ ∃ bs : List Addr, H3 Dd = some (.lst (bs.map V.ref)) ∧ RowsAt H3 bs ((nothing n).take j))
    ⟨sUp hD, [], upd_same, trivial⟩ (fun _ _ _ _ => trivial) ?_ ?_⟩
  · rintro j x H3 H4 hj ⟨s3, bs, hD3, hb⟩ ⟨rfl, rfl⟩
    have hj' : j < n := by simpa using hj
    refine ⟨rfl, ?_⟩
    refine ⟨by show 1 ≤ sizeLine; decide, fun p hp => ⟨_, rfl, p, n, [.int 0], rfl, rfl, upd_same, by omega, by omega, ?_, fun p2 hp2 => ?_⟩⟩
    · rw [sizeLine_eq]; simp; omega
    have ep : p ≠ p2 := ne_of_none upd_same hp2
    have nD : Dd ≠ p := ne_of_none hD3 hp
    have hp2' : H4 p2 = none := by
      rw [upd_ne (Ne.symm ep)] at hp2
      exact hp2
    have nD2 : Dd ≠ p2 := ne_of_none hD3 hp2'
    have s4 : Same H4 (upd (upd H4 p (.lst [.int 0])) p2 (.lst (List.replicate n [V.int 0]).flatten)) := (sUp hp).trans (sUp hp2)
    have e0 : (List.replicate n [V.int 0]).flatten = vI (List.replicate n 0) := by
      clear hp2 s4 hj hj' hb q hn
      induction n with
      | zero => rfl
      | succ n ih => rw [List.replicate_succ, List.flatten_cons, ih]; rfl
    have nb : Dd ∉ bs := hb.notin hD3
    refine ⟨bs.map V.ref, s4 _ _ hD3, ?_, ?_, bs ++ [p2], ?_, ?_⟩
    · exact small1000 (by rw [List.length_map, hb.length, List.length_take]; omega)
    · exact sUps (sUps (sUps s3 (s3.free hp)) (s3.free hp2')) hD
    · rw [upd_same]; simp
    · rw [take_next (l := nothing n) (x := List.replicate n 0) (by unfold nothing; simp [hj'])]
      refine RowsAt.upd (RowsAt.snoc ?_ (hb.same s4)) (fun z => ?_)
      · show upd _ p2 _ p2 = _
        rw [upd_same]
        show some (HO.lst (List.replicate n [V.int 0]).flatten) = _
        rw [e0]
      · rcases List.mem_append.mp z with z | z
        · exact nb z
        · exact nD2 (List.mem_singleton.mp z)
  · rintro H3 ⟨s3, bs, hD3, hb⟩
    rw [List.take_of_length_le (by unfold nothing; simp)] at hb
    exact q _ _ s3 ⟨bs, hD3, hb⟩
abbrev s_information : Stmt := top 10
abbrev sl_information : List Str := ["columns", "rows", "counts", "found", "row", "count"]
theorem sc_information : FnScope sl_information ["columns", "rows", "counts"] (defScope s_information) := ⟨rfl, rfl, rfl, by decide +kernel, rfl, by decide +kernel, by decide +kernel⟩
theorem ok_information {f : Addr} {fd : FuncData} (F : Fun K "information" "information" s_information f fd) (T : Txt K mg D E R N L) (c_nothing : Cal P w K mg base CX0 1 "nothing" ["columns"] spNothing) (c_moved : Cal P w K mg base CX0 1 "moved" ["matrix", "row", "by"] spMoved) :
    FnOk P w K mg base CX0 2 f fd ["columns", "rows", "counts"] spInfo := by
  refine F.ok sc_information (fun vs H Q E h => ?_) (fun cdv A outer s H vs Q E hr h => ⟨_, (pss_cons (ps_set (i := 3) sc_information.nd rfl (by first | exact Or.inl rfl | exact Or.inr rfl) (pe_cal c_nothing (hr.mono (by decide)) pass0 (pa_cons (pv 0) pa_nil)))
      (pss_cons (ps_for PassesOwn.never rfl (pi_zip (by rfl) T.n_zip (pa_cons (pv 1) (pa_cons (pv 2) pa_nil))) (pg_tup (by rfl) (pgs_cons (pg_name (i := 4) sc_information.nd rfl (by first | exact Or.inl rfl | exact Or.inr rfl)) (pgs_cons (pg_name (i := 5) sc_information.nd rfl (by first | exact Or.inl rfl | exact Or.inr rfl)) pgs_nil)))
      (pss_one (ps_if (pt_cmpR op_gt (pv 5) pe_int (nomark _)) (pss_one (ps_set (i := 3) sc_information.nd rfl (by first | exact Or.inl rfl | exact Or.inr rfl) (pe_cal c_moved (hr.mono (by decide)) pass0 (pa_cons (pv 3) (pa_cons (pv 4) (pa_cons (pv 5) pa_nil)))))) pss_nil)))
      (pss_one (ps_ret (pv 3))))), ?_⟩)
  · obtain ⟨_, _, _, _, _, rfl, _⟩ := h; rfl
  obtain ⟨n, a, c, rows, cs, rfl, ⟨as, ha, hR⟩, hc, hn, hl, hrow, bc, br, q⟩ := h
  refine ⟨_, rfl, n, rfl, hn, fun H0 p0 s0 m0 => ?_⟩
  refine ⟨_, rfl, _, rfl, a, c, as.map V.ref, vI cs, rfl, SqL.of (s0 _ _ ha), SqL.of (s0 _ _ hc), for_it (walk_zip (xs := as.map V.ref) (ys := vI cs) (n := (rows.zip cs).length) (by simp [hR.length]))
    (fun i σ H' => ∃ (v1 v2 : Option V) (pm : Addr), σ = [some (.int n), some (.ref a), some (.ref c), some (.ref pm), v1, v2] ∧ Same H H' ∧ IsM H' pm (((rows.zip cs).take i).foldl infoStep (nothing n)))
    ⟨none, none, p0, rfl, s0, m0⟩ (fun i σ H' _ h => ?_) ?_ ?_⟩
  · obtain ⟨_, _, _, _, s1, _⟩ := h
    exact ⟨SqL.of (s1 _ _ ha), SqL.of (s1 _ _ hc)⟩
  · rintro i x σ H1 H2 hi ⟨v1, v2, pm, rfl, s1, hm⟩ ⟨T0, x1, y1, rfl, hT, rfl, hx, hy⟩
    obtain ⟨b, hb1, rfl⟩ := map_get hx
    obtain ⟨k, hk, rfl⟩ := map_get hy
    obtain ⟨row, hrw, hrowH⟩ := hR.get' hb1
    have s2 : Same H (upd H1 T0 (.tup [.ref b, .int k])) := sUps s1 (s1.free hT)
    have hm2 := hm.same (sUp (o := .tup [.ref b, .int k]) hT)
    have hz : (rows.zip cs)[i]? = some (row, k) := zip_get hrw hk
    have rl : row.length = n := hrow row (List.mem_of_getElem? hrw)
    have hmat : IsMat n (((rows.zip cs).take i).foldl infoStep (nothing n)) := fold_isMat (nothing_isMat n) fun z hz => hrow z.1 (List.of_mem_zip (List.mem_of_mem_take hz)).1
    have hst := foldl_take infoStep (nothing n) hz
    refine ⟨T0, _, rfl, SqT.of upd_same, rfl, _, _, rfl, _, _, rfl, rfl, ?_⟩
    refine ⟨_, rfl, _, _, rfl, rfl, _, rfl, ?_⟩
    refine ifB (fun c => ?_) (fun c => ?_)
    · refine ⟨_, rfl, _, rfl, _, rfl, pm, b, k, _, row, rfl, hm2, s2 _ _ hrowH, by rw [hmat.len, rl], fun l hl => by rw [hmat.row l hl, rl], by omega, bc k (List.mem_of_getElem? hk), br row (List.mem_of_getElem? hrw), fun H3 p3 s3 m3 => ?_⟩
      refine ⟨_, _, p3, rfl, s2.trans s3, ?_⟩
      rw [hst]
      unfold infoStep
      rw [if_pos c]
      exact m3
    · refine ⟨_, _, pm, rfl, s2, ?_⟩
      rw [hst]
      unfold infoStep
      rw [if_neg c]
      exact hm2
  · rintro σ H' ⟨v1, v2, pm, rfl, s1, hm⟩
    rw [List.take_length] at hm
    exact ⟨_, rfl, q _ _ s1 hm⟩
abbrev s_less : Stmt := top 11
abbrev sl_less : List Str := ["matrix", "other", "found", "line", "there", "value", "away"]
theorem sc_less : FnScope sl_less ["matrix", "other"] (defScope s_less) := ⟨rfl, rfl, rfl, by decide +kernel, rfl, by decide +kernel, by decide +kernel⟩
theorem ok_less {f : Addr} {fd : FuncData} (F : Fun K "less" "less" s_less f fd) (T : Txt K mg D E R N L) : FnOk P w K mg base CX0 1 f fd ["matrix", "other"] spLess := by
  refine F.ok sc_less (fun vs H Q E h => ?_) (fun cdv A outer s H vs Q E hr h => ⟨_, (pss_cons (ps_set (i := 2) sc_less.nd rfl (by first | exact Or.inl rfl | exact Or.inr rfl) (pe_lst pa_nil))
      (pss_cons (ps_for PassesOwn.never rfl (pi_zip (by rfl) T.n_zip (pa_cons (pv 0) (pa_cons (pv 1) pa_nil))) (pg_tup (by rfl) (pgs_cons (pg_name (i := 3) sc_less.nd rfl (by first | exact Or.inl rfl | exact Or.inr rfl)) (pgs_cons (pg_name (i := 4) sc_less.nd rfl (by first | exact Or.inl rfl | exact Or.inr rfl)) pgs_nil)))
      (pss_one (ps_expr (pe_bm PySem.F.plainAttrs_list PySem.F.slot_list_append PySem.F.type_list_append mt_append (pv 2) (pa_cons (pe_lc (own := [("value", 5), ("away", 6)]) (g := gTup K 2 (gCons (gName 5) (gCons (gName 6) gNil))) (tt := tYes) rfl sc_less.nd (pi_zip (by rfl) T.n_zip (pa_cons (pv 3) (pa_cons (pv 4) pa_nil))) (blkOk_by (N := sl_less) (sc := defScope s_less) (by decide +kernel)) (fun _ _ _ _ _ => (pg_tup (by rfl) (pgs_cons (pg_name (i := 5) sc_less.nd rfl (by first | exact Or.inl rfl | exact Or.inr rfl)) (pgs_cons (pg_name (i := 6) sc_less.nd rfl (by first | exact Or.inl rfl | exact Or.inr rfl)) pgs_nil)))) (fun _ _ _ _ _ => pts_nil) (fun _ _ _ _ _ => (pe_op op_sub (pv 5) (pv 6)))) pa_nil)))))
      (pss_one (ps_ret (pv 2))))), ?_⟩)
  · obtain ⟨_, _, _, _, _, rfl, _⟩ := h; rfl
  obtain ⟨n, a, b, m, k, rfl, ⟨as, ha, hA⟩, ⟨bs, hb, hB⟩, im, ik, hn, q⟩ := h
  refine ⟨Nat.zero_le _, fun p hp => ?_⟩
  have s0 : Same H (upd H p (.lst [])) := sUp hp
  refine ⟨_, rfl, _, rfl, a, b, as.map V.ref, bs.map V.ref, rfl, SqL.of (s0 _ _ ha), SqL.of (s0 _ _ hb), for_it (walk_zip (xs := as.map V.ref) (ys := bs.map V.ref) (n := n) (by simp [hA.length, hB.length, im.len, ik.len]))
    (fun i σ H' => ∃ v1 v2 : Option V, σ = [some (.ref a), some (.ref b), some (.ref p), v1, v2, none, none] ∧ Same H H' ∧ ∃ cs : List Addr, H' p = some (.lst (cs.map V.ref)) ∧ RowsAt H' cs ((lessM m k).take i))
    ⟨none, none, rfl, s0, [], upd_same, trivial⟩ (fun i σ H' _ h => ?_) ?_ ?_⟩
  · obtain ⟨_, _, _, s1, _⟩ := h
    exact ⟨SqL.of (s1 _ _ ha), SqL.of (s1 _ _ hb)⟩
  · rintro i x σ H1 H2 hi ⟨v1, v2, rfl, s1, cs, hpb, hcs⟩ ⟨T0, x1, y1, rfl, hT, rfl, hx, hy⟩
    obtain ⟨u, hu, rfl⟩ := map_get hx
    obtain ⟨v, hv, rfl⟩ := map_get hy
    obtain ⟨l1, hm1, hl1⟩ := hA.get' hu
    obtain ⟨l2, hm2, hl2⟩ := hB.get' hv
    have e1 : l1.length = n := im.row l1 (List.mem_of_getElem? hm1)
    have e2 : l2.length = n := ik.row l2 (List.mem_of_getElem? hm2)
    have s2 : Same H (upd H1 T0 (.tup [.ref u, .ref v])) := sUps s1 (s1.free hT)
    have s12 : Same H1 (upd H1 T0 (.tup [.ref u, .ref v])) := sUp hT
    refine ⟨T0, _, rfl, SqT.of upd_same, rfl, _, _, rfl, _, _, rfl, rfl, ?_⟩
    refine ⟨_, rfl, ty_list (s12 _ _ hpb), ?_⟩
    refine ⟨_, rfl, _, rfl, u, v, vI l1, vI l2, rfl, SqL.of (s2 _ _ hl1), SqL.of (s2 _ _ hl2), fun Dd hD => lc_it (walk_zip (xs := vI l1) (ys := vI l2) (n := n) (by simp [e1, e2]))
      (fun j H3 => Same (upd H1 T0 (.tup [.ref u, .ref v])) H3 ∧ H3 Dd = some (.lst (vI ((List.zipWith (fun p q => p - q) l1 l2).take j))))
      ⟨sUp hD, upd_same⟩ (fun j H3 _ h => ⟨SqL.of (h.1 _ _ (s2 _ _ hl1)), SqL.of (h.1 _ _ (s2 _ _ hl2))⟩) ?_ ?_⟩
    · rintro j x H3 H4 hj ⟨s3, hD3⟩ ⟨T1, x2, y2, rfl, hT1, rfl, hx2, hy2⟩
      obtain ⟨va, hva, rfl⟩ := map_get hx2
      obtain ⟨vo, hvo, rfl⟩ := map_get hy2
      have hDT : Dd ≠ T1 := ne_of_none hD3 hT1
      refine ⟨T1, _, rfl, SqT.of upd_same, rfl, _, _, rfl, _, _, rfl, rfl, rfl, ?_⟩
      refine ⟨_, rfl, _, rfl, _, _, rfl, rfl, _, (by rw [upd_ne hDT]; exact hD3), ?_, sUps (sUps s3 (s3.free hT1)) hD, ?_⟩
      · exact small1000 (by simp only [List.length_map, List.length_take]; omega)
      · rw [upd_same, take_next (l := List.zipWith (fun p q => p - q) l1 l2) (zw_get hva hvo)]
        simp
    · rintro H3 ⟨s3, hD3⟩
      have hpD : p ≠ Dd := ne_of_none (s12 _ _ hpb) hD
      rw [List.take_of_length_le (by rw [List.length_zipWith]; omega)] at hD3
      refine ⟨p, _, _, rfl, rfl, s3 _ _ (s12 _ _ hpb), ?_, ?_⟩
      · exact small1000 (by rw [List.length_map, hcs.length, List.length_take]; omega)
      · refine ⟨_, _, rfl, sUps (s2.trans s3) hp, cs ++ [Dd], by rw [upd_same]; simp, ?_⟩
        rw [take_next (l := lessM m k) (zw_get hm1 hm2)]
        exact rows_push hcs hpb (s12.trans s3) hD3 hpD
  · rintro σ H' ⟨v1, v2, rfl, s1, cs, hpb, hcs⟩
    rw [List.take_of_length_le (by unfold lessM; rw [List.length_zipWith, im.len]; omega)] at hcs
    exact ⟨_, rfl, q _ _ s1 ⟨cs, hpb, hcs⟩⟩
abbrev s_without : Stmt := top 12
abbrev sl_without : List Str := ["matrix", "at", "column", "left", "line"]
theorem sc_without : FnScope sl_without ["matrix", "at", "column"] (defScope s_without) := ⟨rfl, rfl, rfl, by decide +kernel, rfl, by decide +kernel, by decide +kernel⟩
theorem ok_without {f : Addr} {fd : FuncData} (F : Fun K "without" "without" s_without f fd) (T : Txt K mg D E R N L) : FnOk P w K mg base CX0 1 f fd ["matrix", "at", "column"] spWithout := by
  refine F.ok sc_without (fun vs H Q E h => ?_) (fun cdv A outer s H vs Q E hr h => ⟨_, (pss_cons (ps_set (i := 3) sc_without.nd rfl (by first | exact Or.inl rfl | exact Or.inr rfl) (pe_op op_cat (pe_slice sl_list (pv 0) po_none (po_some (pv 1))) (pe_slice sl_list (pv 0) (po_some (pe_op op_add (pv 1) pe_int)) po_none)))
      (pss_one (ps_ret (pe_lc (own := [("line", 4)]) (g := gName 4) (tt := tYes) rfl sc_without.nd (pi_list (pv 3)) (blkOk_by (N := sl_without) (sc := defScope s_without) (by decide +kernel)) (fun _ _ _ _ _ => (pg_name (i := 4) sc_without.nd rfl (by first | exact Or.inl rfl | exact Or.inr rfl))) (fun _ _ _ _ _ => pts_nil) (fun _ _ _ _ _ => (pe_op op_cat (pe_slice (show SlR _ (rSlL K) from sl_list) (pv 4) po_none (po_some (pv 2))) (pe_slice (show SlR _ (rSlL K) from sl_list) (pv 4) (po_some (pe_op op_add (pv 2) pe_int)) po_none))))))), ?_⟩)
  · obtain ⟨_, _, _, _, rfl, _⟩ := h; rfl
  obtain ⟨a, m, i, j, rfl, ⟨as, ha, hA⟩, hl, hrl, q⟩ := h
  refine ⟨_, rfl, _, rfl, _, rfl, a, as.map V.ref, rfl, SqL.of ha, fun p1 hp1 => ?_⟩
  rw [cut_to, vR_take]
  have s1 : Same H (upd H p1 (.lst ((as.take i).map V.ref))) := sUp hp1
  refine ⟨_, rfl, _, rfl, _, _, rfl, rfl, _, rfl, a, as.map V.ref, rfl, SqL.of (s1 _ _ ha), fun p2 hp2 => ?_⟩
  rw [show ((i : Int) + 1) = ((i + 1 : Nat) : Int) from rfl, cut_from, vR_drop]
  have s2 : Same H (upd (upd H p1 (.lst ((as.take i).map V.ref))) p2 (.lst ((as.drop (i + 1)).map V.ref))) := s1.trans (sUp hp2)
  have n12 : p1 ≠ p2 := ne_of_none upd_same hp2
  have la : as.length = m.length := hA.length
  refine ⟨p1, p2, _, _, rfl, rfl, (by rw [upd_ne n12, upd_same]), upd_same, ?_, fun p3 hp3 => ?_⟩
  · exact small2 (by simp only [List.length_map, List.length_take, List.length_drop]; omega)
  have s3 := s2.trans (sUp (o := .lst ((as.take i).map V.ref ++ (as.drop (i + 1)).map V.ref)) hp3)
  rw [← List.map_append, erase_cut] at s3 ⊢
  have hE : RowsAt H (as.eraseIdx i) (m.eraseIdx i) := by
    rw [← erase_cut, ← erase_cut]
    exact (hA.take i).append (hA.drop (i + 1))
  have e3 : upd (upd (upd H p1 (.lst ((as.take i).map V.ref))) p2 (.lst ((as.drop (i + 1)).map V.ref))) p3 (.lst ((as.eraseIdx i).map V.ref)) p3 = some (.lst ((as.eraseIdx i).map V.ref)) := upd_same
  generalize upd (upd (upd H p1 (.lst ((as.take i).map V.ref))) p2 (.lst ((as.drop (i + 1)).map V.ref))) p3 (.lst ((as.eraseIdx i).map V.ref)) = H3 at s3 e3
  refine ⟨_, rfl, p3, rfl, ⟨_, SqL.of e3⟩, fun Dd hD => lc_it (walk_list (xs := (as.eraseIdx i).map V.ref)) (fun k H4 => Same H3 H4 ∧ ∃ bs : List Addr, H4 Dd = some (.lst (bs.map V.ref)) ∧ RowsAt H4 bs ((without m i j).take k))
    ⟨sUp hD, [], upd_same, trivial⟩ (fun k H4 _ h => SqL.of (h.1 _ _ e3)) ?_ ?_⟩
  · rintro k x H4 H5 hk ⟨s4, bs, hDb, hbs⟩ ⟨rfl, hx⟩
    obtain ⟨b, hb, rfl⟩ := map_get hx
    obtain ⟨line, hm, hline⟩ := (hE.same (s3.trans s4)).get' hb
    have hrl2 : line.length ≤ 10 := hrl line (List.mem_of_mem_eraseIdx (List.mem_of_getElem? hm))
    refine ⟨rfl, ?_⟩
    refine ⟨_, rfl, _, rfl, _, rfl, b, vI line, rfl, SqL.of hline, fun q1 hq1 => ?_⟩
    rw [cut_to, vI_take]
    refine ⟨_, rfl, _, rfl, _, _, rfl, rfl, _, rfl, b, vI line, rfl, SqL.of (sUp hq1 _ _ hline), fun q2 hq2 => ?_⟩
    rw [show ((j : Int) + 1) = ((j + 1 : Nat) : Int) from rfl, cut_from, vI_drop]
    have m12 : q1 ≠ q2 := ne_of_none upd_same hq2
    refine ⟨q1, q2, _, _, rfl, rfl, (by rw [upd_ne m12, upd_same]), upd_same, ?_, fun q3 hq3 => ?_⟩
    · exact small2 (by simp only [List.length_map, List.length_take, List.length_drop]; omega)
    rw [← List.map_append, erase_cut]
    have s5 : Same H5 (upd (upd (upd H5 q1 (.lst (vI (line.take j)))) q2 (.lst (vI (line.drop (j + 1))))) q3 (.lst (vI (line.eraseIdx j)))) := ((sUp hq1).trans (sUp hq2)).trans (sUp hq3)
    refine ⟨_, s5 _ _ hDb, ?_, sUps (s4.trans s5) hD, bs ++ [q3], by rw [upd_same]; simp, ?_⟩
    · exact small1000 (by rw [List.length_map, hbs.length, List.length_take]; unfold without; rw [List.length_map]; have := List.length_eraseIdx_le m i; omega)
    · rw [take_next (l := without m i j) (x := line.eraseIdx j) (by unfold without; rw [List.getElem?_map, hm]; rfl)]
      exact rows_push hbs hDb s5 upd_same (fun e => by
        have z := s5 _ _ hDb
        rw [e, upd_same] at z
        have e5 : vI (line.eraseIdx j) = bs.map V.ref := HO.lst.inj (Option.some.inj z)
        have hq3' : H5 q3 = none := ((sUp hq1).trans (sUp hq2)).free hq3
        rw [e, hq3'] at hDb
        cases hDb)
  · rintro H4 ⟨s4, bs, hDb, hbs⟩
    have le : (without m i j).length ≤ ((as.eraseIdx i).map V.ref).length := by
      unfold without
      rw [List.length_map, List.length_map, hE.length]
      exact Nat.le_refl _
    rw [List.take_of_length_le le] at hbs
    exact q _ _ (s3.trans s4) ⟨bs, hDb, hbs⟩
end
end Bd
set_option maxRecDepth 100000
set_option maxHeartbeats 4000000
namespace Bd
open PySem PySem.Spec PyProof.Rows L2
/-! ## matrices.py: determinants -/
theorem det_cons (row : Row) (rest : Mat) : det (row :: rest) = (row.zipIdx.map fun z => sgn z.2 * z.1 * det (without (row :: rest) 0 z.2)).foldl (· + ·) 0 := by
  show (row.zipIdx.map fun z => sgn z.2 * z.1 * detF rest.length (rest.map fun r => r.eraseIdx z.2)).foldl (· + ·) 0 = _
  congr 2
  funext z
  show _ = sgn z.2 * z.1 * detF (rest.map fun r => r.eraseIdx z.2).length (rest.map fun r => r.eraseIdx z.2)
  rw [List.length_map]
theorem sgn_bn (k : Nat) : Bn 0 (sgn k) := by
  unfold sgn Bn
  split <;> decide
theorem sgn_succ (k : Nat) : sgn (k + 1) = -sgn k := by
  unfold sgn
  rcases Nat.mod_two_eq_zero_or_one k with h | h
  · rw [if_pos h, if_neg (show ¬ (k + 1) % 2 = 0 by omega)]
  · rw [if_neg (show ¬ k % 2 = 0 by omega), if_pos (show (k + 1) % 2 = 0 by omega)]
    rfl
theorem sum_bn {b : Nat} : ∀ (l : List Int) (a : Int) (c : Nat), (∀ x ∈ l, x.natAbs ≤ b) → a.natAbs ≤ c * b → (l.foldl (· + ·) a).natAbs ≤ (c + l.length) * b
  | [], a, c, _, ha => by simpa using ha
  | x :: r, a, c, h, ha => by
    have hx := h x List.mem_cons_self
    have e : (a + x).natAbs ≤ (c + 1) * b := by
      have := Int.natAbs_add_le a x
      rw [Nat.succ_mul]
      omega
    have := sum_bn r (a + x) (c + 1) (fun y hy => h y (List.mem_cons_of_mem _ hy)) e
    rw [List.foldl_cons, List.length_cons]
    rw [show c + (r.length + 1) = c + 1 + r.length by omega]
    exact this
theorem EB.erase {b : Nat} {rest : Mat} (h : EB b rest) (k : Nat) : EB b (rest.map fun r => r.eraseIdx k) := fun r hr x hx => by
  obtain ⟨r0, h0, rfl⟩ := List.mem_map.mp hr
  exact h r0 h0 x (List.mem_of_mem_eraseIdx hx)
theorem detF_bn {b : Nat} : ∀ (f : Nat) (m : Mat), EB b m → (∀ r ∈ m, r.length ≤ 4) → Bn (f * (b + 2)) (detF f m)
  | 0, _, _, _ => by unfold detF; exact Bn.one
  | f + 1, [], _, _ => by unfold detF; exact Bn.one
  | f + 1, row :: rest, h, hl => by
    have h4 : row.length ≤ 4 := hl row List.mem_cons_self
    have key : ∀ x ∈ row.zipIdx.map (fun z => sgn z.2 * z.1 * detF f (rest.map fun r => r.eraseIdx z.2)), x.natAbs ≤ 2 ^ (b + f * (b + 2)) := by
      intro x hx
      obtain ⟨z, hz, rfl⟩ := List.mem_map.mp hx
      have hz1 : z.1 ∈ row := List.fst_mem_of_mem_zipIdx hz
      have b1 := h row List.mem_cons_self z.1 hz1
      have b2 := detF_bn f (rest.map fun r => r.eraseIdx z.2) (EB.erase (fun r hr => h r (List.mem_cons_of_mem _ hr)) _) (fun r hr => by
        obtain ⟨r0, h0, rfl⟩ := List.mem_map.mp hr
        have := hl r0 (List.mem_cons_of_mem _ h0)
        have := List.length_eraseIdx_le r0 z.2
        omega)
      have := ((sgn_bn z.2).mul b1).mul b2
      rw [Nat.zero_add] at this
      exact this
    have := sum_bn _ 0 0 key (Nat.zero_le _)
    rw [Nat.zero_add, List.length_map, List.length_zipIdx] at this
    show Int.natAbs (List.foldl (· + ·) (0 : Int) _) ≤ _
    refine Nat.le_trans this ?_
    rw [show (f + 1) * (b + 2) = 2 + (b + f * (b + 2)) by rw [Nat.succ_mul]; omega, Nat.pow_add 2 2]
    exact Nat.mul_le_mul_right _ (Nat.le_trans h4 (by decide))
theorem det_bn {b n : Nat} {m : Mat} (h : EB b m) (hm : IsMat n m) (hn : n ≤ 4) : Bn (4 * (b + 2)) (det m) := by
  have := detF_bn m.length m h (fun r hr => by rw [hm.row r hr]; exact hn)
  refine Bn.mono this (Nat.mul_le_mul_right _ ?_)
  rw [hm.len]
  exact hn
theorem without_isMat {n : Nat} {m : Mat} (hm : IsMat (n + 1) m) {i j : Nat} (hi : i < n + 1) (hj : j < n + 1) : IsMat n (without m i j) := by
  refine ⟨by unfold without; rw [List.length_map, List.length_eraseIdx, if_pos (by rw [hm.len]; exact hi), hm.len]; omega, fun r hr => ?_⟩
  unfold without at hr
  obtain ⟨r0, h0, rfl⟩ := List.mem_map.mp hr
  have := hm.row r0 (List.mem_of_mem_eraseIdx h0)
  rw [List.length_eraseIdx, if_pos (by omega), this]
  omega
theorem EB.without {b : Nat} {m : Mat} (h : EB b m) (i j : Nat) : EB b (without m i j) := fun r hr => by
  unfold Bd.without at hr
  exact EB.erase (rest := m.eraseIdx i) (fun r hr => h r (List.mem_of_mem_eraseIdx hr)) j r hr
def spDet (d : Nat) : Sp := fun vs H Q _ => ∃ (a : Addr) (m : Mat) (b : Nat), vs = [.ref a] ∧ IsM H a m ∧ IsMat m.length m ∧ m.length < d ∧ m.length ≤ 4 ∧ EB b m ∧ b ≤ 1500 ∧ ∀ H', Same H H' → Q (.int (det m)) H'
def spCof : Sp := fun vs H Q _ => ∃ (n : Nat) (a : Addr) (m : Mat) (b i j : Nat), vs = [.ref a, .int i, .int j] ∧ IsM H a m ∧ IsMat n m ∧ i < n ∧ j < n ∧ n ≤ 4 ∧ EB b m ∧ b ≤ 1500 ∧ ∀ H', Same H H' → Q (.int (cofactor m i j)) H'
section
variable {P : Program} {w : World} {K : PySem.W.Frag} {mg : Str → Option Value} {base : Heap} {D E R N L : Addr}
abbrev s_determinant : Stmt := top 13
abbrev sl_determinant : List Str := ["matrix", "found", "sign", "column", "entry"]
theorem sc_determinant : FnScope sl_determinant ["matrix"] (defScope s_determinant) := ⟨rfl, rfl, rfl, by decide +kernel, rfl, by decide +kernel, by decide +kernel⟩
theorem ok_determinant {f : Addr} {fd : FuncData} (F : Fun K "determinant" "determinant" s_determinant f fd) (g : mg "determinant" = some (.ref f)) (bi : Binds K fd ["matrix"] []) (T : Txt K mg D E R N L)
    (c_without : Cal P w K mg base CX0 1 "without" ["matrix", "at", "column"] spWithout) : ∀ d : Nat, FnOk P w K mg base CX0 (d + 1) f fd ["matrix"] (spDet d)
  | 0 => ⟨fun _ _ _ _ ⟨_, _, _, _, _, _, z, _⟩ => absurd z (Nat.not_lt_zero _), fun _ _ _ _ _ _ _ _ _ _ _ _ _ ⟨_, _, _, _, _, _, z, _⟩ => absurd z (Nat.not_lt_zero _)⟩
  | d + 1 => by
    have c_determinant : Cal P w K mg base CX0 (d + 1) "determinant" ["matrix"] (spDet d) := ⟨f, fd, ok_determinant F g bi T c_without d, g, F.kp, bi⟩
    refine F.ok sc_determinant (fun vs H Q E h => ?_) (fun cdv A outer s H vs Q E hr h => ⟨_, (pss_cons (ps_if (pt_cmpR (op_eqE hr.units0) (pv 0) (pe_lst pa_nil) (nomark _)) (pss_one (ps_ret pe_int)) pss_nil)
      (pss_cons (ps_asg (pe_tup (pa_cons pe_int (pa_cons pe_int pa_nil))) (pg_tup (by rfl) (pgs_cons (pg_name (i := 1) sc_determinant.nd rfl (by first | exact Or.inl rfl | exact Or.inr rfl)) (pgs_cons (pg_name (i := 2) sc_determinant.nd rfl (by first | exact Or.inl rfl | exact Or.inr rfl)) pgs_nil))))
      (pss_cons (ps_for PassesOwn.never rfl (pi_enum (by rfl) T.n_enumerate (pa_cons (pe_ix ix_list (pv 0) pe_int (fun _ _ => rfl)) pa_nil)) (pg_tup (by rfl) (pgs_cons (pg_name (i := 3) sc_determinant.nd rfl (by first | exact Or.inl rfl | exact Or.inr rfl)) (pgs_cons (pg_name (i := 4) sc_determinant.nd rfl (by first | exact Or.inl rfl | exact Or.inr rfl)) pgs_nil)))
      (pss_cons (ps_if (pt_cmpR op_ne (pv 4) pe_int (nomark _)) (pss_one (ps_set (i := 1) sc_determinant.nd rfl (by first | exact Or.inl rfl | exact Or.inr rfl) (pe_op op_add (pv 1) (pe_op op_mulW (pe_op op_mulW (pv 2) (pv 4)) (pe_cal c_determinant (hr.mono (by omega)) pass0 (pa_cons (pe_cal c_without (hr.mono (by omega)) pass0 (pa_cons (pv 0) (pa_cons pe_int (pa_cons (pv 3) pa_nil)))) pa_nil)))))) pss_nil)
      (pss_one (ps_set (i := 2) sc_determinant.nd rfl (by first | exact Or.inl rfl | exact Or.inr rfl) (pe_un un_neg (pv 2))))))
      (pss_one (ps_ret (pv 1)))))), ?_⟩)
    · obtain ⟨_, _, _, rfl, _⟩ := h; rfl
    obtain ⟨a, m, b, rfl, ⟨as, ha, hA⟩, hm, hlt, h4, hb, hb15, q⟩ := h
    refine ⟨_, rfl, Nat.zero_le _, fun p hp => ⟨a, p, as.map V.ref, rfl, rfl, SqL.of (sUp hp _ _ ha), SqL.of upd_same, _, rfl, ?_⟩⟩
    have s0 : Same H (upd H p (.lst [])) := sUp hp
    generalize upd H p (.lst []) = H0 at s0
    cases m with
    | nil =>
      cases as with
      | nil => exact q _ s0
      | cons _ _ => exact hA.elim
    | cons row rest =>
      cases as with
      | nil => exact hA.elim
      | cons r0 ar =>
        show tNext _ _ _
        have hrow : row.length = rest.length + 1 := hm.row row List.mem_cons_self
        have hr0 : H r0 = some (.lst (vI row)) := hA.1
        refine ⟨by show 2 ≤ sizeLine; decide, fun t ht => ?_⟩
        have s1 : Same H (upd H0 t (.tup [.int 0, .int 1])) := s0.trans (sUp ht)
        refine ⟨t, _, rfl, SqT.of upd_same, rfl, _, _, rfl, _, _, rfl, rfl, ?_⟩
        generalize upd H0 t (.tup [.int 0, .int 1]) = H1 at s1
        refine ⟨_, rfl, a, _, _, _, rfl, rfl, SqL.of (s1 _ _ ha), atI_nat (j := 0) rfl, r0, vI row, rfl, SqL.of (s1 _ _ hr0), for_it (walk_enum (xs := vI row))
          (fun i σ H' => ∃ v1 v2 : Option V, σ = [some (.ref a), some (.int (((row.zipIdx.map fun z => sgn z.2 * z.1 * det (without (row :: rest) 0 z.2)).take i).foldl (· + ·) 0)), some (.int (sgn i)), v1, v2] ∧ Same H H')
          ⟨none, none, rfl, s1⟩ (fun i σ H' _ h => ?_) ?_ ?_⟩
        · obtain ⟨_, _, _, s2⟩ := h
          exact SqL.of (s2 _ _ hr0)
        · rintro i x σ H1 H2 hi ⟨v1, v2, rfl, s2⟩ ⟨T0, x1, y1, rfl, hT, rfl, hx, hy⟩
          obtain ⟨e, he, rfl⟩ := map_get hy
          obtain rfl : x1 = .int (i : Nat) := (Option.some.inj hx).symm
          have s3 : Same H (upd H1 T0 (.tup [.int (i : Nat), .int e])) := sUps s2 (s2.free hT)
          generalize hH2 : upd H1 T0 (.tup [.int (i : Nat), .int e]) = H2 at s3
          have hi' : i < rest.length + 1 := by rw [List.length_map] at hi; omega
          have hzi : (row.zipIdx.map fun z => sgn z.2 * z.1 * det (without (row :: rest) 0 z.2))[i]? = some (sgn i * e * det (without (row :: rest) 0 i)) := by
            rw [List.getElem?_map, List.getElem?_zipIdx, he]
            simp
          have hst := foldl_take (· + ·) 0 hzi
          have be : Bn 1500 e := (hb row List.mem_cons_self e (List.mem_of_getElem? he)).mono hb15
          refine ⟨T0, [.int (i : Nat), .int e], rfl, SqT.of (by rw [← hH2]; exact upd_same), rfl, _, _, rfl, _, _, rfl, rfl, ?_⟩
          have hIM : IsM H2 a (row :: rest) := ⟨r0 :: ar, s3 _ _ ha, RowsAt.same s3 hA⟩
          have wm : IsMat rest.length (without (row :: rest) 0 i) := without_isMat hm (by omega) hi'
          have wb : EB b (without (row :: rest) 0 i) := hb.without 0 i
          refine ⟨_, rfl, rfl, _, rfl, ?_⟩
          by_cases hz : e = 0
          · subst hz
            show tNext _ _ _
            refine ⟨_, rfl, _, rfl, ?_⟩
            refine ⟨some (.int (i : Nat)), some (.int 0), ?_, s3⟩
            rw [hst, sgn_succ, Int.mul_zero, Int.zero_mul, Int.add_zero]
            rfl
          · refine ifNT (fun z => hz (V.int.inj z)) ?_
            refine ⟨_, rfl, _, rfl, _, rfl, _, _, rfl, rfl, (sgn_bn i).cm be (by omega), _, rfl, _, rfl, a, _, 0, i, rfl, hIM, by show rest.length + 1 ≤ 10; have : rest.length + 1 ≤ 4 := h4; omega, fun r hr => ?_, fun H3 p3 s4 m4 => ?_⟩
            · rw [hm.row r hr]
              show rest.length + 1 ≤ 10
              have : rest.length + 1 ≤ 4 := h4
              omega
            have hl4 : rest.length ≤ 3 := by have : rest.length + 1 ≤ 4 := h4; omega
            refine ⟨p3, _, b, rfl, m4, by rw [wm.len]; exact wm, by rw [wm.len]; have : rest.length + 1 < d + 1 := hlt; omega, by rw [wm.len]; omega, wb, hb15, fun H4 s5 => ?_⟩
            have bd := det_bn wb wm (by omega)
            refine ⟨_, _, rfl, rfl, ((sgn_bn i).mul be).cm bd (by omega), _, _, rfl, rfl, ?_⟩
            refine ⟨_, rfl, _, rfl, ?_⟩
            refine ⟨some (.int (i : Nat)), some (.int e), ?_, s3.trans (s4.trans s5)⟩
            rw [hst, sgn_succ]
            rfl
        · rintro σ H' ⟨v1, v2, rfl, s2⟩
          refine ⟨_, rfl, ?_⟩
          have r := q _ s2
          rw [det_cons] at r
          rw [List.take_of_length_le (by simp)]
          exact r
abbrev s_cofactor : Stmt := top 14
abbrev sl_cofactor : List Str := ["matrix", "at", "column", "found"]
theorem sc_cofactor : FnScope sl_cofactor ["matrix", "at", "column"] (defScope s_cofactor) := ⟨rfl, rfl, rfl, by decide +kernel, rfl, by decide +kernel, by decide +kernel⟩
theorem ok_cofactor {f : Addr} {fd : FuncData} (F : Fun K "cofactor" "cofactor" s_cofactor f fd) (T : Txt K mg D E R N L) (c_without : Cal P w K mg base CX0 1 "without" ["matrix", "at", "column"] spWithout) (c_determinant : Cal P w K mg base CX0 6 "determinant" ["matrix"] (spDet 5)) :
    FnOk P w K mg base CX0 7 f fd ["matrix", "at", "column"] spCof := by
  refine F.ok sc_cofactor (fun vs H Q E h => ?_) (fun cdv A outer s H vs Q E hr h => ⟨_, (pss_cons (ps_set (i := 3) sc_cofactor.nd rfl (by first | exact Or.inl rfl | exact Or.inr rfl) (pe_cal c_determinant (hr.mono (by decide)) pass0 (pa_cons (pe_cal c_without (hr.mono (by decide)) pass0 (pa_cons (pv 0) (pa_cons (pv 1) (pa_cons (pv 2) pa_nil)))) pa_nil)))
      (pss_one (ps_ret (pe_ifExp (pt_cmpR op_eq (pe_op op_mod (pe_op op_add (pv 1) (pv 2)) pe_int) pe_int (nomark _)) (pv 3) (pe_un un_neg (pv 3)))))), ?_⟩)
  · obtain ⟨_, _, _, _, _, _, rfl, _⟩ := h; rfl
  obtain ⟨n, a, m, b, i, j, rfl, hA, hm, hi, hj, h4, hb, hb15, q⟩ := h
  obtain ⟨n, rfl⟩ : ∃ k, n = k + 1 := ⟨n - 1, by omega⟩
  have wm : IsMat n (without m i j) := without_isMat hm hi hj
  refine ⟨_, rfl, _, rfl, _, rfl, a, m, i, j, rfl, hA, by rw [hm.len]; omega, fun r hr => by rw [hm.row r hr]; omega, fun H1 p1 s1 m1 => ?_⟩
  refine ⟨p1, _, b, rfl, m1, by rw [wm.len]; exact wm, by rw [wm.len]; omega, by rw [wm.len]; omega, hb.without i j, hb15, fun H2 s2 => ?_⟩
  have r := q _ (s1.trans s2)
  refine ⟨_, rfl, _, rfl, _, _, rfl, rfl, _, _, rfl, rfl, by show (0 : Int) < 2; decide, rfl, _, rfl, ?_⟩
  unfold cofactor sgn at r
  by_cases c : (i + j) % 2 = 0
  · rw [if_pos c, Int.one_mul] at r
    have e : ((i : Int) + (j : Int)) % 2 = 0 := by omega
    exact ifT (congrArg V.int e) ⟨_, rfl, r⟩
  · rw [if_neg c, Int.neg_mul, Int.one_mul] at r
    refine ifF (fun z => c ?_) ⟨_, rfl, _, rfl, r⟩
    have z2 : ((i : Int) + (j : Int)) % 2 = 0 := V.int.inj z
    omega
end
end Bd
set_option maxRecDepth 100000
set_option maxHeartbeats 4000000
namespace Bd
open PySem PySem.Spec PyProof.Rows L2
/-! ## matrices.py: cofactors, variances, minors -/
/-- a fraction's own new tuple -/
def IsT (H : Hp) (p : Addr) (f : Kxd5.Fraction) : Prop := H p = some (.tup [.int f.numerator, .int (f.denominator : Int)])
theorem IsT.f {K : PySem.W.Frag} {H : Hp} {p : Addr} {f : Kxd5.Fraction} (h : IsT H p f) : IsF K H p f := SqT.of h
theorem IsT.same {H H' : Hp} {p : Addr} {f : Kxd5.Fraction} (h : IsT H p f) (s : Same H H') : IsT H' p f := s _ _ h
theorem IsF.same {K : PySem.W.Frag} {H H' : Hp} {p : Addr} {f : Kxd5.Fraction} (h : IsF K H p f) (s : Same H H') : IsF K H' p f := sSqt s h
theorem natAbs_ediv_le (a : Int) (g : Nat) : (a / (g : Int)).natAbs ≤ a.natAbs := by
  by_cases h : g = 0
  · subst h; simp
  · exact Int.natAbs_ediv_le_natAbs a (g : Int)
theorem frac_num_bn {n : Nat} {a b : Int} (hb : 0 < b) (h : Bn n a) : Bn n (Kxd5.fraction a b).numerator := by
  unfold Kxd5.fraction
  simp only [show ¬ b = 0 by omega, show ¬ b < 0 by omega, if_false]
  exact Nat.le_trans (natAbs_ediv_le _ _) h
theorem frac_den_bn {n : Nat} {a b : Int} (hb : 0 < b) (h : Bn n b) : Bn n ((Kxd5.fraction a b).denominator : Int) := by
  unfold Kxd5.fraction
  simp only [show ¬ b = 0 by omega, show ¬ b < 0 by omega, if_false]
  unfold Bn at *
  rw [Int.natAbs_natCast]
  have : (b / (Int.gcd a b : Int)).toNat ≤ (b / (Int.gcd a b : Int)).natAbs := by omega
  exact Nat.le_trans this (Nat.le_trans (natAbs_ediv_le _ _) h)
def traceP (m : Mat) (k : Nat) : Kxd5.Fraction := (List.range k).foldl (fun f i => Kxd5.plus f (Kxd5.fraction (cofactor m i i) (det m))) ⟨0, 1⟩
def traceF (m : Mat) : Kxd5.Fraction := traceP m m.length
def allPlaces (n : Nat) : List (List Nat) := (List.range n).foldl (fun f p => f ++ f.map fun r => r ++ [p]) [[]]
def nI (l : List Nat) : Row := l.map fun (x : Nat) => (x : Int)
def noNeg (m : Mat) : Bool := (allPlaces m.length).all fun ps => decide (0 ≤ det (chosen m ps))
def spCofs : Sp := fun vs H Q _ => ∃ (n : Nat) (a : Addr) (m : Mat) (b : Nat), vs = [.ref a] ∧ IsM H a m ∧ IsMat n m ∧ n ≤ 4 ∧ EB b m ∧ b ≤ 1500 ∧ ∀ H' p, Same H H' → IsM H' p (cofactors m) → Q (.ref p) H'
def spWeighed : Sp := fun vs H Q _ => ∃ (n : Nat) (a v : Addr) (m : Mat) (vec : Row), vs = [.ref a, .ref v] ∧ IsM H a m ∧ H v = some (.lst (vI vec)) ∧ IsMat n m ∧ vec.length = n ∧ n ≤ 4 ∧ EB 7000 m ∧ (∀ x ∈ vec, Bn 1000 x) ∧
  ∀ H', Same H H' → Q (.int (weighed m vec)) H'
def spVariance : Sp := fun vs H Q _ => ∃ (n : Nat) (a v : Addr) (m : Mat) (vec : Row) (d : Int), vs = [.ref a, .int d, .ref v] ∧ IsM H a m ∧ H v = some (.lst (vI vec)) ∧ IsMat n m ∧ vec.length = n ∧ n ≤ 4 ∧ EB 7000 m ∧ (∀ x ∈ vec, Bn 1000 x) ∧
  0 < d ∧ Bn 8000 d ∧ ∀ H' p, Same H H' → IsT H' p (Kxd5.fraction (weighed m vec) d) → Q (.ref p) H'
def spTrace (K : PySem.W.Frag) : Sp := fun vs H Q _ => ∃ (n : Nat) (a : Addr) (m : Mat), vs = [.ref a] ∧ IsM H a m ∧ IsMat n m ∧ 1 ≤ n ∧ n ≤ 4 ∧ EB 20 m ∧ 0 < det m ∧ ∀ H' p, Same H H' → IsF K H' p (traceF m) → Q (.ref p) H'
def spChosen : Sp := fun vs H Q _ => ∃ (n : Nat) (a p : Addr) (m : Mat) (ps : List Nat), vs = [.ref a, .ref p] ∧ IsM H a m ∧ H p = some (.lst (vI (nI ps))) ∧ IsMat n m ∧ (∀ i ∈ ps, i < n) ∧ ps.length ≤ 10 ∧
  ∀ H' q, Same H H' → IsM H' q (chosen m ps) → Q (.ref q) H'
def spAllPlaces : Sp := fun vs H Q _ => ∃ n : Nat, vs = [.int n] ∧ n ≤ 4 ∧ ∀ H' p, Same H H' → IsM H' p ((allPlaces n).map nI) → Q (.ref p) H'
def spNoNeg : Sp := fun vs H Q _ => ∃ (n : Nat) (a : Addr) (m : Mat), vs = [.ref a] ∧ IsM H a m ∧ IsMat n m ∧ n ≤ 4 ∧ EB 1500 m ∧ ∀ H', Same H H' → Q (.bl (noNeg m)) H'
theorem rg_nat (n : Nat) : rgV 0 (n : Int) = vI (nI (List.range n)) := by
  unfold rgV nI
  simp
theorem nI_get {l : List Nat} {i : Nat} {x : Int} (h : (nI l)[i]? = some x) : ∃ k : Nat, l[i]? = some k ∧ x = (k : Int) := map_get h
theorem cof_bn {b n : Nat} {m : Mat} (h : EB b m) (hm : IsMat n m) (hn : n ≤ 4) {i j : Nat} (hi : i < n) (hj : j < n) : Bn (4 * (b + 2)) (cofactor m i j) := by
  obtain ⟨k, rfl⟩ : ∃ k, n = k + 1 := ⟨n - 1, by omega⟩
  have := (sgn_bn (i + j)).mul (det_bn (h.without i j) (without_isMat hm hi hj) (by omega))
  rw [Nat.zero_add] at this
  exact this
theorem cofactors_isMat {n : Nat} {m : Mat} (hm : IsMat n m) : IsMat n (cofactors m) := by
  refine ⟨by simp [cofactors, hm.len], fun r h => ?_⟩
  unfold cofactors at h
  obtain ⟨i, _, rfl⟩ := List.mem_map.mp h
  simp [hm.len]
theorem cofactors_bn {b n : Nat} {m : Mat} (h : EB b m) (hm : IsMat n m) (hn : n ≤ 4) : EB (4 * (b + 2)) (cofactors m) := fun r hr x hx => by
  unfold cofactors at hr
  obtain ⟨i, hi, rfl⟩ := List.mem_map.mp hr
  obtain ⟨j, hj, rfl⟩ := List.mem_map.mp hx
  rw [List.mem_range, hm.len] at hi hj
  exact cof_bn h hm hn hi hj
theorem foldl_sum (l : List Int) (a : Int) : l.foldl (· + ·) a = a + l.sum := by
  induction l generalizing a with
  | nil => simp
  | cons x r ih => rw [List.foldl_cons, ih, List.sum_cons]; omega
theorem sum_bn2 {b c : Nat} {l : List Int} (h : ∀ x ∈ l, Bn b x) (hl : l.length ≤ 2 ^ c) : Bn (c + b) l.sum := by
  have := sum_bn l 0 0 h (Nat.zero_le _)
  rw [foldl_sum, Int.zero_add, Nat.zero_add] at this
  unfold Bn
  rw [Nat.pow_add]
  exact Nat.le_trans this (Nat.mul_le_mul_right _ hl)
theorem dot_bn {a b n : Nat} {u v : Row} (hu : ∀ x ∈ u, Bn a x) (hv : ∀ x ∈ v, Bn b x) (hl : u.length ≤ 4) : Bn (2 + (a + b)) (dot u v) := by
  unfold dot
  refine sum_bn2 (fun x hx => ?_) (by rw [List.length_zipWith]; omega)
  obtain ⟨i, hi⟩ := List.getElem?_of_mem hx
  rw [List.getElem?_zipWith] at hi
  cases e1 : u[i]? with
  | none => rw [e1] at hi; cases hi
  | some p =>
    cases e2 : v[i]? with
    | none => rw [e1, e2] at hi; cases hi
    | some q =>
      rw [e1, e2] at hi
      have e : p * q = x := Option.some.inj hi
      rw [← e]
      exact (hu p (List.mem_of_getElem? e1)).mul (hv q (List.mem_of_getElem? e2))
section
variable {P : Program} {w : World} {K : PySem.W.Frag} {mg : Str → Option Value} {base : Heap} {D E R N L : Addr}
abbrev s_cofactors : Stmt := top 15
abbrev sl_cofactors : List Str := ["matrix", "places", "at", "column"]
theorem sc_cofactors : FnScope sl_cofactors ["matrix"] (defScope s_cofactors) := ⟨rfl, rfl, rfl, by decide +kernel, rfl, by decide +kernel, by decide +kernel⟩
abbrev out_cofactors : Scope := lcScope ((defBody s_cofactors).getD 1 (.Pass ⟨0, 0, 0, 0⟩))
theorem ok_cofactors {f : Addr} {fd : FuncData} (F : Fun K "cofactors" "cofactors" s_cofactors f fd) (T : Txt K mg D E R N L) (c_cofactor : Cal P w K mg base CX0 7 "cofactor" ["matrix", "at", "column"] spCof) :
    FnOk P w K mg base CX0 8 f fd ["matrix"] spCofs := by
  refine F.ok sc_cofactors (fun vs H Q E h => ?_) (fun cdv A outer s H vs Q E hr h => ⟨_, (pss_cons (ps_set (i := 1) sc_cofactors.nd rfl (by first | exact Or.inl rfl | exact Or.inr rfl) (pe_listRg rfl (by rfl) T.n_list (prg_1 (by rfl) T.n_range (pe_callB call_len_seq (by rfl) T.n_len (by decide +kernel) (pa_cons (pv 0) pa_nil)))))
      (pss_one (ps_ret (pe_lc (own := [("at", 2)]) (g := gName 2) (tt := tYes) rfl sc_cofactors.nd (pi_list (pv 1)) (blkOk_by (N := sl_cofactors) (sc := defScope s_cofactors) (by decide +kernel)) (fun _ _ _ _ _ => (pg_name (i := 2) sc_cofactors.nd rfl (by first | exact Or.inl rfl | exact Or.inr rfl))) (fun _ _ _ _ _ => pts_nil) (fun _ _ _ _ _ => (pe_lc (own := [("column", 3)]) (g := gName 3) (tt := tYes) rfl sc_cofactors.nd (show PI _ _ _ (iList K _) from pi_list (pv 1)) (blkOk_by (N := sl_cofactors) (sc := relS out_cofactors (defScope s_cofactors)) (by decide +kernel)) (fun _ _ _ _ _ => (pg_name (i := 3) sc_cofactors.nd rfl (by first | exact Or.inl rfl | exact Or.inr rfl))) (fun _ _ _ _ _ => pts_nil) (fun _ _ _ _ _ => (pe_cal c_cofactor (hr.mono (by decide)) pass0 (pa_cons (pv 0) (pa_cons (pv 2) (pa_cons (pv 3) pa_nil))))))))))), ?_⟩)
  · obtain ⟨_, _, _, _, rfl, _⟩ := h; rfl
  obtain ⟨n, a, m, b, rfl, hA, hm, h4, hb, hb15, q⟩ := h
  obtain ⟨as, ha, hR⟩ := id hA
  refine ⟨_, rfl, a, as.map V.ref, rfl, .inl (SqL.of ha), (n : Int), ?_, ⟨by omega, by omega, by omega, by omega, by omega⟩, fun p hp => ?_⟩
  · rw [List.length_map, hR.length, hm.len]
  rw [rg_nat]
  have s0 : Same H (upd H p (.lst (vI (nI (List.range n))))) := sUp hp
  have hp0 : upd H p (.lst (vI (nI (List.range n)))) p = some (.lst (vI (nI (List.range n)))) := upd_same
  generalize upd H p (.lst (vI (nI (List.range n)))) = H0 at s0 hp0
  refine ⟨_, rfl, p, rfl, ⟨_, SqL.of hp0⟩, fun D1 hD1 => lc_it (walk_list (xs := vI (nI (List.range n)))) (fun i H' => Same H0 H' ∧ ∃ bs : List Addr, H' D1 = some (.lst (bs.map V.ref)) ∧ RowsAt H' bs ((cofactors m).take i))
    ⟨sUp hD1, [], upd_same, trivial⟩ (fun i H' _ h => SqL.of (h.1 _ _ hp0)) ?_ ?_⟩
  · rintro i x H1 H2 hi ⟨s1, bs, hDb, hbs⟩ ⟨rfl, hx⟩
    obtain ⟨z, hz, rfl⟩ := map_get hx
    obtain ⟨i', hi', rfl⟩ := nI_get hz
    have e0 : i' = i := by
      rw [List.getElem?_range (by simpa [nI] using hi)] at hi'
      exact (Option.some.inj hi').symm
    subst e0
    have hin : i' < n := by simpa [nI] using hi
    refine ⟨rfl, ?_⟩
    refine ⟨_, rfl, p, rfl, ⟨_, SqL.of (s1 _ _ hp0)⟩, fun D2 hD2 => lc_it (walk_list (xs := vI (nI (List.range n)))) (fun j H' => Same H2 H' ∧ H' D2 = some (.lst (vI (((List.range n).map fun c => cofactor m i' c).take j))))
      ⟨sUp hD2, upd_same⟩ (fun j H' _ h => SqL.of (h.1 _ _ (s1 _ _ hp0))) ?_ ?_⟩
    · rintro j x H3 H4 hj ⟨s3, hD3⟩ ⟨rfl, hx2⟩
      obtain ⟨z, hz, rfl⟩ := map_get hx2
      obtain ⟨j', hj', rfl⟩ := nI_get hz
      have e1 : j' = j := by
        rw [List.getElem?_range (by simpa [nI] using hj)] at hj'
        exact (Option.some.inj hj').symm
      subst e1
      have hjn : j' < n := by simpa [nI] using hj
      refine ⟨rfl, ?_⟩
      refine ⟨_, rfl, _, rfl, _, rfl, n, a, m, b, i', j', rfl, hA.same ((s0.trans s1).trans s3), hm, hin, hjn, h4, hb, hb15, fun H5 s5 => ?_⟩
      refine ⟨_, s5 _ _ hD3, ?_, sUps (s3.trans s5) hD2, ?_⟩
      · exact small1000 (by simp only [List.length_map, List.length_take, List.length_range]; omega)
      · rw [upd_same, take_next (l := (List.range n).map fun c => cofactor m i' c) (x := cofactor m i' j') (by rw [List.getElem?_map, List.getElem?_range hjn]; rfl)]
        simp
    · rintro H3 ⟨s3, hD3⟩
      have ne : D1 ≠ D2 := ne_of_none hDb hD2
      rw [List.take_of_length_le (by simp [nI])] at hD3
      refine ⟨_, s3 _ _ hDb, ?_, sUps (s1.trans s3) hD1, bs ++ [D2], by rw [upd_same]; simp, ?_⟩
      · exact small1000 (by rw [List.length_map, hbs.length, List.length_take]; omega)
      · rw [take_next (l := cofactors m) (x := (List.range n).map fun c => cofactor m i' c) (by unfold cofactors; rw [hm.len, List.getElem?_map, List.getElem?_range hin]; rfl)]
        exact rows_push hbs hDb s3 hD3 ne
  · rintro H1 ⟨s1, bs, hDb, hbs⟩
    rw [List.take_of_length_le (by simp [nI, cofactors, hm.len])] at hbs
    exact q _ _ (s0.trans s1) ⟨bs, hDb, hbs⟩
abbrev s_weighed : Stmt := top 16
abbrev sl_weighed : List Str := ["matrix", "vector", "found", "one", "line", "other", "value"]
theorem sc_weighed : FnScope sl_weighed ["matrix", "vector"] (defScope s_weighed) := ⟨rfl, rfl, rfl, by decide +kernel, rfl, by decide +kernel, by decide +kernel⟩
theorem ok_weighed {f : Addr} {fd : FuncData} (F : Fun K "weighed" "weighed" s_weighed f fd) (T : Txt K mg D E R N L) : FnOk P w K mg base CX0 1 f fd ["matrix", "vector"] spWeighed := by
  refine F.ok sc_weighed (fun vs H Q E h => ?_) (fun cdv A outer s H vs Q E hr h => ⟨_, (pss_cons (ps_set (i := 2) sc_weighed.nd rfl (by first | exact Or.inl rfl | exact Or.inr rfl) pe_int)
      (pss_cons (ps_for PassesOwn.never rfl (pi_zip (by rfl) T.n_zip (pa_cons (pv 1) (pa_cons (pv 0) pa_nil))) (pg_tup (by rfl) (pgs_cons (pg_name (i := 3) sc_weighed.nd rfl (by first | exact Or.inl rfl | exact Or.inr rfl)) (pgs_cons (pg_name (i := 4) sc_weighed.nd rfl (by first | exact Or.inl rfl | exact Or.inr rfl)) pgs_nil)))
      (pss_one (ps_set (i := 2) sc_weighed.nd rfl (by first | exact Or.inl rfl | exact Or.inr rfl) (pe_op op_add (pv 2) (pe_op op_mulW (pv 3) (pe_callB (cr_sum rfl) (by rfl) T.n_sum (by decide +kernel) (pa_cons (pe_lc (own := [("other", 5), ("value", 6)]) (g := gTup K 2 (gCons (gName 5) (gCons (gName 6) gNil))) (tt := tYes) rfl sc_weighed.nd (pi_zip (by rfl) T.n_zip (pa_cons (pv 1) (pa_cons (pv 4) pa_nil))) (blkOk_by (N := sl_weighed) (sc := defScope s_weighed) (by decide +kernel)) (fun _ _ _ _ _ => (pg_tup (by rfl) (pgs_cons (pg_name (i := 5) sc_weighed.nd rfl (by first | exact Or.inl rfl | exact Or.inr rfl)) (pgs_cons (pg_name (i := 6) sc_weighed.nd rfl (by first | exact Or.inl rfl | exact Or.inr rfl)) pgs_nil)))) (fun _ _ _ _ _ => pts_nil) (fun _ _ _ _ _ => (pe_op op_mulW (pv 5) (pv 6)))) pa_nil)))))))
      (pss_one (ps_ret (pv 2))))), ?_⟩)
  · obtain ⟨_, _, _, _, _, rfl, _⟩ := h; rfl
  obtain ⟨n, a, v, m, vec, rfl, ⟨as, ha, hR⟩, hv, hm, hl, h4, hb, bv, q⟩ := h
  refine ⟨_, rfl, _, rfl, v, a, vI vec, as.map V.ref, rfl, SqL.of hv, SqL.of ha, for_it (walk_zip (xs := vI vec) (ys := as.map V.ref) (n := (vec.zip m).length) (by simp [hR.length]))
    (fun i σ H' => ∃ v1 v2 : Option V, σ = [some (.ref a), some (.ref v), some (.int (((vec.zip m).take i).foldl (fun f z => f + z.1 * dot vec z.2) 0)), v1, v2, none, none] ∧ Same H H')
    ⟨none, none, rfl, Same.refl H⟩ (fun i σ H' _ h => ?_) ?_ ?_⟩
  · obtain ⟨_, _, _, s1⟩ := h
    exact ⟨SqL.of (s1 _ _ hv), SqL.of (s1 _ _ ha)⟩
  · rintro i x σ H1 H2 hi ⟨v1, v2, rfl, s1⟩ ⟨T0, x1, y1, rfl, hT, rfl, hx, hy⟩
    obtain ⟨e, he, rfl⟩ := map_get hx
    obtain ⟨b, hb1, rfl⟩ := map_get hy
    obtain ⟨line, hml, hline⟩ := hR.get' hb1
    have hll : line.length = n := hm.row line (List.mem_of_getElem? hml)
    have s2 : Same H (upd H1 T0 (.tup [.int e, .ref b])) := sUps s1 (s1.free hT)
    refine ⟨T0, _, rfl, SqT.of upd_same, rfl, _, _, rfl, _, _, rfl, rfl, ?_⟩
    generalize upd H1 T0 (.tup [.int e, .ref b]) = H2 at s2
    refine ⟨_, rfl, _, rfl, _, rfl, _, rfl, v, b, vI vec, vI line, rfl, SqL.of (s2 _ _ hv), SqL.of (s2 _ _ hline), fun Dd hD => lc_it (walk_zip (xs := vI vec) (ys := vI line) (n := n) (by simp [hll, hl]))
      (fun j H3 => Same H2 H3 ∧ H3 Dd = some (.lst (vI ((List.zipWith (· * ·) vec line).take j))))
      ⟨sUp hD, upd_same⟩ (fun j H3 _ h => ⟨SqL.of (h.1 _ _ (s2 _ _ hv)), SqL.of (h.1 _ _ (s2 _ _ hline))⟩) ?_ ?_⟩
    · rintro j x H3 H4 hj ⟨s3, hD3⟩ ⟨T1, x2, y2, rfl, hT1, rfl, hx2, hy2⟩
      obtain ⟨va, hva, rfl⟩ := map_get hx2
      obtain ⟨vo, hvo, rfl⟩ := map_get hy2
      have hDT : Dd ≠ T1 := ne_of_none hD3 hT1
      have b1 := bv va (List.mem_of_getElem? hva)
      have b2 := hb line (List.mem_of_getElem? hml) vo (List.mem_of_getElem? hvo)
      refine ⟨T1, _, rfl, SqT.of upd_same, rfl, _, _, rfl, _, _, rfl, rfl, rfl, ?_⟩
      refine ⟨_, rfl, _, rfl, _, _, rfl, rfl, b1.cm b2 (by omega), _, (by rw [upd_ne hDT]; exact hD3), ?_, sUps (sUps s3 (s3.free hT1)) hD, ?_⟩
      · exact small1000 (by simp only [List.length_map, List.length_take]; omega)
      · rw [upd_same, take_next (l := List.zipWith (· * ·) vec line) (zw_get hva hvo)]
        simp
    · rintro H3 ⟨s3, hD3⟩
      rw [List.take_of_length_le (by rw [List.length_zipWith]; omega)] at hD3
      have b1 := bv e (List.mem_of_getElem? he)
      have b2 := dot_bn (n := n) bv (hb line (List.mem_of_getElem? hml)) (by omega)
      refine ⟨Dd, _, rfl, SqL.of hD3, _, _, rfl, rfl, b1.cm b2 (by omega), _, _, rfl, rfl, ?_⟩
      refine ⟨some (.int e), some (.ref b), ?_, s2.trans s3⟩
      rw [foldl_take (fun f (z : Int × Row) => f + z.1 * dot vec z.2) 0 (zip_get he hml)]
      rfl
  · rintro σ H' ⟨v1, v2, rfl, s1⟩
    rw [List.take_length]
    exact ⟨_, rfl, q _ s1⟩
abbrev s_variance : Stmt := top 17
abbrev sl_variance : List Str := ["adjoined", "size", "vector"]
theorem sc_variance : FnScope sl_variance ["adjoined", "size", "vector"] (defScope s_variance) := ⟨rfl, rfl, rfl, by decide +kernel, rfl, by decide +kernel, by decide +kernel⟩
theorem ok_variance {f : Addr} {fd : FuncData} (F : Fun K "variance" "variance" s_variance f fd) (T : Txt K mg D E R N L) (c_ratio : Cal P w K mg base CX0 2 "ratio" ["above", "below"] spRatio) (c_weighed : Cal P w K mg base CX0 1 "weighed" ["matrix", "vector"] spWeighed) :
    FnOk P w K mg base CX0 3 f fd ["adjoined", "size", "vector"] spVariance := by
  refine F.ok sc_variance (fun vs H Q E h => ?_) (fun cdv A outer s H vs Q E hr h => ⟨_, (pss_one (ps_ret (pe_cal c_ratio (hr.mono (by decide)) pass0 (pa_cons (pe_cal c_weighed (hr.mono (by decide)) pass0 (pa_cons (pv 0) (pa_cons (pv 2) pa_nil))) (pa_cons (pv 1) pa_nil))))), ?_⟩)
  · obtain ⟨_, _, _, _, _, _, rfl, _⟩ := h; rfl
  obtain ⟨n, a, v, m, vec, d, rfl, hA, hv, hm, hl, h4, hb, bv, hd, bd, q⟩ := h
  refine ⟨_, rfl, _, rfl, n, a, v, m, vec, rfl, hA, hv, hm, hl, h4, hb, bv, fun H1 s1 => ?_⟩
  exact ⟨_, rfl, _, d, rfl, hd, bd, fun p hp => q _ _ (s1.trans (sUp hp)) upd_same⟩
abbrev s_trace : Stmt := top 18
abbrev sl_trace : List Str := ["matrix", "size", "found", "at"]
theorem sc_trace : FnScope sl_trace ["matrix"] (defScope s_trace) := ⟨rfl, rfl, rfl, by decide +kernel, rfl, by decide +kernel, by decide +kernel⟩
theorem ok_trace {f : Addr} {fd : FuncData} (F : Fun K "trace" "trace" s_trace f fd) (T : Txt K mg D E R N L) (c_ratio : Cal P w K mg base CX0 2 "ratio" ["above", "below"] spRatio) (c_plus : Cal P w K mg base CX0 3 "plus" ["one", "other"] (spPlus K))
    (c_determinant : Cal P w K mg base CX0 6 "determinant" ["matrix"] (spDet 5)) (c_cofactor : Cal P w K mg base CX0 7 "cofactor" ["matrix", "at", "column"] spCof) :
    FnOk P w K mg base CX0 8 f fd ["matrix"] (spTrace K) := by
  refine F.ok sc_trace (fun vs H Q E h => ?_) (fun cdv A outer s H vs Q E hr h => ⟨_, (pss_cons (ps_set (i := 1) sc_trace.nd rfl (by first | exact Or.inl rfl | exact Or.inr rfl) (pe_cal c_determinant (hr.mono (by decide)) pass0 (pa_cons (pv 0) pa_nil)))
      (pss_cons (ps_set (i := 2) sc_trace.nd rfl (by first | exact Or.inl rfl | exact Or.inr rfl) (pe_gr T.r_NOUGHT))
      (pss_cons (ps_for PassesOwn.never rfl (pi_range1 (by rfl) T.n_range (pa_cons (pe_callB call_len_seq (by rfl) T.n_len (by decide +kernel) (pa_cons (pv 0) pa_nil)) pa_nil)) (pg_name (i := 3) sc_trace.nd rfl (by first | exact Or.inl rfl | exact Or.inr rfl))
      (pss_one (ps_set (i := 2) sc_trace.nd rfl (by first | exact Or.inl rfl | exact Or.inr rfl) (pe_cal c_plus (hr.mono (by decide)) pass0 (pa_cons (pv 2) (pa_cons (pe_cal c_ratio (hr.mono (by decide)) pass0 (pa_cons (pe_cal c_cofactor (hr.mono (by decide)) pass0 (pa_cons (pv 0) (pa_cons (pv 3) (pa_cons (pv 3) pa_nil)))) (pa_cons (pv 1) pa_nil))) pa_nil))))))
      (pss_one (ps_ret (pv 2)))))), ?_⟩)
  · obtain ⟨_, _, _, rfl, _⟩ := h; rfl
  obtain ⟨n, a, m, rfl, hA, hm, h1, h4, hb, hd, q⟩ := h
  obtain ⟨as, ha, hR⟩ := id hA
  refine ⟨_, rfl, a, m, 20, rfl, hA, by rw [hm.len]; exact hm, by rw [hm.len]; omega, by rw [hm.len]; omega, hb, by omega, fun H1 s1 => ?_⟩
  have bd : Bn 88 (det m) := det_bn hb hm h4
  refine fun p0 z0 => ?_
  refine ⟨_, rfl, a, as.map V.ref, rfl, .inl (SqL.of (s1 _ _ ha)), (n : Int), ?_, by omega, by omega, for_it walk_range0
    (fun i σ H' => ∃ (v1 : Option V) (pf : Addr), σ = [some (.ref a), some (.int (det m)), some (.ref pf), v1] ∧ Same H H' ∧ IsF K H' pf (traceP m i) ∧ 0 < (traceP m i).denominator ∧ Bn (200 * i) (traceP m i).numerator ∧ Bn (200 * i) ((traceP m i).denominator : Int))
    ⟨none, p0, rfl, s1, z0 _, Nat.one_pos, Bn.zero, Bn.one⟩ (fun _ _ _ _ _ => trivial) ?_ ?_⟩
  · rw [List.length_map, hR.length, hm.len]
  · rintro i x σ H2 H3 hi ⟨v1, pf, rfl, s2, hF, dpos, bn1, bn2⟩ ⟨rfl, rfl⟩
    have hin : i < n := by simpa using hi
    refine ⟨_, rfl, _, rfl, _, rfl, _, rfl, n, a, m, 20, i, i, rfl, hA.same s2, hm, hin, hin, h4, hb, by omega, fun H4 s4 => ?_⟩
    have bc : Bn 88 (cofactor m i i) := cof_bn hb hm h4 hin hin
    refine ⟨_, rfl, _, _, rfl, hd, bd.mono (by omega), fun p5 hp5 => ?_⟩
    have s5 : Same H3 (upd H4 p5 (.tup [.int (Kxd5.fraction (cofactor m i i) (det m)).numerator, .int ((Kxd5.fraction (cofactor m i i) (det m)).denominator : Int)])) := s4.trans (sUp hp5)
    have nd := (norm_fraction (cofactor m i i) (det m)).pos
    have t1 : Bn 88 (Kxd5.fraction (cofactor m i i) (det m)).numerator := frac_num_bn hd bc
    have t2 : Bn 88 ((Kxd5.fraction (cofactor m i i) (det m)).denominator : Int) := frac_den_bn hd bd
    refine ⟨pf, p5, _, Kxd5.fraction (cofactor m i i) (det m), rfl, hF.same s5, SqT.of upd_same, dpos, nd, bn1.mono (by omega), bn2.mono (by omega), t1.mono (by omega), t2.mono (by omega), fun p6 hp6 => ?_⟩
    have e : traceP m (i + 1) = Kxd5.plus (traceP m i) (Kxd5.fraction (cofactor m i i) (det m)) := by
      unfold traceP
      rw [List.range_succ, List.foldl_append]
      rfl
    have dd : 0 < ((traceP m i).denominator : Int) * ((Kxd5.fraction (cofactor m i i) (det m)).denominator : Int) := Int.mul_pos (by omega) (by omega)
    have u2 := bn2.mul t2
    have u1 := ((bn1.mul t2).mono (n := 200 * i + 88) (by omega)).add ((t1.mul bn2).mono (n := 200 * i + 88) (by omega))
    refine ⟨some (.int i), p6, rfl, (s2.trans s5).trans (sUp hp6), SqT.of (by rw [upd_same, e]), ?_, ?_, ?_⟩
    · rw [e]; exact (norm_plus _ _).pos
    · rw [e]; exact (frac_num_bn dd u1).mono (by omega)
    · rw [e]; exact (frac_den_bn dd u2).mono (by omega)
  · rintro σ H2 ⟨v1, pf, rfl, s2, hF, dpos, bn1, bn2⟩
    refine ⟨_, rfl, q _ _ s2 ?_⟩
    unfold traceF
    rw [hm.len]
    exact hF
abbrev s_chosen : Stmt := top 19
abbrev sl_chosen : List Str := ["matrix", "places", "at", "column"]
theorem sc_chosen : FnScope sl_chosen ["matrix", "places"] (defScope s_chosen) := ⟨rfl, rfl, rfl, by decide +kernel, rfl, by decide +kernel, by decide +kernel⟩
abbrev out_chosen : Scope := lcScope ((defBody s_chosen).getD 0 (.Pass ⟨0, 0, 0, 0⟩))
theorem ok_chosen {f : Addr} {fd : FuncData} (F : Fun K "chosen" "chosen" s_chosen f fd) (T : Txt K mg D E R N L) : FnOk P w K mg base CX0 1 f fd ["matrix", "places"] spChosen := by
  refine F.ok sc_chosen (fun vs H Q E h => ?_) (fun cdv A outer s H vs Q E hr h => ⟨_, (pss_one (ps_ret (pe_lc (own := [("at", 2)]) (g := gName 2) (tt := tYes) rfl sc_chosen.nd (pi_list (pv 1)) (blkOk_by (N := sl_chosen) (sc := defScope s_chosen) (by decide +kernel)) (fun _ _ _ _ _ => (pg_name (i := 2) sc_chosen.nd rfl (by first | exact Or.inl rfl | exact Or.inr rfl))) (fun _ _ _ _ _ => pts_nil) (fun _ _ _ _ _ => (pe_lc (own := [("column", 3)]) (g := gName 3) (tt := tYes) rfl sc_chosen.nd (show PI _ _ _ (iList K _) from pi_list (pv 1)) (blkOk_by (N := sl_chosen) (sc := relS out_chosen (defScope s_chosen)) (by decide +kernel)) (fun _ _ _ _ _ => (pg_name (i := 3) sc_chosen.nd rfl (by first | exact Or.inl rfl | exact Or.inr rfl))) (fun _ _ _ _ _ => pts_nil) (fun _ _ _ _ _ => (pe_ix (show IxR _ (rIxL K) from ix_list) (pe_ix (show IxR _ (rIxL K) from ix_list) (pv 0) (pv 2) (fun _ _ => rfl)) (pv 3) (fun _ _ => rfl)))))))), ?_⟩)
  · obtain ⟨_, _, _, _, _, rfl, _⟩ := h; rfl
  obtain ⟨n, a, p, m, ps, rfl, ⟨as, ha, hR⟩, hp0, hm, hps, hl, q⟩ := h
  refine ⟨_, rfl, p, rfl, ⟨_, SqL.of hp0⟩, fun D1 hD1 => lc_it (walk_list (xs := vI (nI ps))) (fun i H' => Same H H' ∧ ∃ bs : List Addr, H' D1 = some (.lst (bs.map V.ref)) ∧ RowsAt H' bs ((chosen m ps).take i))
    ⟨sUp hD1, [], upd_same, trivial⟩ (fun i H' _ h => SqL.of (h.1 _ _ hp0)) ?_ ?_⟩
  · rintro i x H1 H2 hi ⟨s1, bs, hDb, hbs⟩ ⟨rfl, hx⟩
    obtain ⟨z, hz, rfl⟩ := map_get hx
    obtain ⟨i', hi', rfl⟩ := nI_get hz
    have hin : i' < n := hps i' (List.mem_of_getElem? hi')
    obtain ⟨row, hrow⟩ : ∃ row, m[i']? = some row := ⟨m[i']'(by rw [hm.len]; exact hin), by simp [hm.len, hin]⟩
    obtain ⟨ra, hra, hrH⟩ := hR.get hrow
    have hrl : row.length = n := hm.row row (List.mem_of_getElem? hrow)
    refine ⟨rfl, ?_⟩
    refine ⟨_, rfl, p, rfl, ⟨_, SqL.of (s1 _ _ hp0)⟩, fun D2 hD2 => lc_it (walk_list (xs := vI (nI ps))) (fun j H' => Same H2 H' ∧ H' D2 = some (.lst (vI ((ps.map fun c => row.getD c 0).take j))))
      ⟨sUp hD2, upd_same⟩ (fun j H' _ h => SqL.of (h.1 _ _ (s1 _ _ hp0))) ?_ ?_⟩
    · rintro j x H3 H4 hj ⟨s3, hD3⟩ ⟨rfl, hx2⟩
      obtain ⟨z, hz2, rfl⟩ := map_get hx2
      obtain ⟨j', hj', rfl⟩ := nI_get hz2
      have hjn : j' < n := hps j' (List.mem_of_getElem? hj')
      have hv : row[j']? = some (row.getD j' 0) := by simp [List.getD, hrl, hjn]
      have hvv : (vI row)[j']? = some (.int (row.getD j' 0)) := by rw [List.getElem?_map, hv]; rfl
      have hra2 : (as.map V.ref)[i']? = some (.ref ra) := by rw [List.getElem?_map, hra]; rfl
      refine ⟨rfl, ?_⟩
      refine ⟨_, rfl, _, rfl, a, _, _, _, rfl, rfl, SqL.of (s3 _ _ (s1 _ _ ha)), atI_nat hra2, _, rfl, ra, _, _, _, rfl, rfl, SqL.of (s3 _ _ (s1 _ _ hrH)), atI_nat hvv, ?_⟩
      refine ⟨_, hD3, ?_, sUps s3 hD2, ?_⟩
      · exact small1000 (by simp only [List.length_map, List.length_take]; omega)
      · rw [upd_same, take_next (l := ps.map fun c => row.getD c 0) (x := row.getD j' 0) (by rw [List.getElem?_map, hj']; rfl)]
        simp
    · rintro H3 ⟨s3, hD3⟩
      have ne : D1 ≠ D2 := ne_of_none hDb hD2
      rw [List.take_of_length_le (by simp [nI])] at hD3
      refine ⟨_, s3 _ _ hDb, ?_, sUps (s1.trans s3) hD1, bs ++ [D2], by rw [upd_same]; simp, ?_⟩
      · exact small1000 (by rw [List.length_map, hbs.length, List.length_take]; unfold chosen; rw [List.length_map]; omega)
      · rw [take_next (l := chosen m ps) (x := ps.map fun c => row.getD c 0) (by unfold chosen; rw [List.getElem?_map, hi']; simp [List.getD, hrow])]
        exact rows_push hbs hDb s3 hD3 ne
  · rintro H1 ⟨s1, bs, hDb, hbs⟩
    rw [List.take_of_length_le (by simp [nI, chosen])] at hbs
    exact q _ _ s1 ⟨bs, hDb, hbs⟩
abbrev s_all_places : Stmt := top 20
abbrev sl_all_places : List Str := ["many", "found", "place", "row"]
theorem sc_all_places : FnScope sl_all_places ["many"] (defScope s_all_places) := ⟨rfl, rfl, rfl, by decide +kernel, rfl, by decide +kernel, by decide +kernel⟩
theorem ok_all_places {f : Addr} {fd : FuncData} (F : Fun K "all_places" "all_places" s_all_places f fd) (T : Txt K mg D E R N L) : FnOk P w K mg base CX0 1 f fd ["many"] spAllPlaces := by
  refine F.ok sc_all_places (fun vs H Q E h => ?_) (fun cdv A outer s H vs Q E hr h => ⟨_, (pss_cons (ps_set (i := 1) sc_all_places.nd rfl (by first | exact Or.inl rfl | exact Or.inr rfl) (pe_lst (pa_cons (pe_lst pa_nil) pa_nil)))
      (pss_cons (ps_for PassesOwn.never rfl (pi_range1 (by rfl) T.n_range (pa_cons (pv 0) pa_nil)) (pg_name (i := 2) sc_all_places.nd rfl (by first | exact Or.inl rfl | exact Or.inr rfl))
      (pss_one (ps_set (i := 1) sc_all_places.nd rfl (by first | exact Or.inl rfl | exact Or.inr rfl) (pe_op op_cat (pv 1) (pe_lc (own := [("row", 3)]) (g := gName 3) (tt := tYes) rfl sc_all_places.nd (pi_list (pv 1)) (blkOk_by (N := sl_all_places) (sc := defScope s_all_places) (by decide +kernel)) (fun _ _ _ _ _ => (pg_name (i := 3) sc_all_places.nd rfl (by first | exact Or.inl rfl | exact Or.inr rfl))) (fun _ _ _ _ _ => pts_nil) (fun _ _ _ _ _ => (pe_op op_cat (pv 3) (pe_lst (pa_cons (pv 2) pa_nil)))))))))
      (pss_one (ps_ret (pv 1))))), ?_⟩)
  · obtain ⟨_, rfl, _⟩ := h; rfl
  obtain ⟨n, rfl, h4, q⟩ := h
  refine ⟨Nat.zero_le _, fun p1 hp1 => ⟨by show 1 ≤ sizeLine; decide, fun p2 hp2 => ?_⟩⟩
  have n12 : p1 ≠ p2 := ne_of_none upd_same hp2
  refine ⟨_, rfl, (n : Int), rfl, by omega, by omega, for_it walk_range0
    (fun i σ H' => ∃ (v1 : Option V) (pf : Addr), σ = [some (.int n), some (.ref pf), v1, none] ∧ Same H H' ∧ IsM H' pf ((allPlaces i).map nI))
    ⟨none, p2, rfl, (sUp hp1).trans (sUp hp2), [p1], upd_same, by rw [upd_ne n12, upd_same]; rfl, trivial⟩ (fun _ _ _ _ _ => trivial) ?_ ?_⟩
  · rintro i x σ H2 H3 hi ⟨v1, pf, rfl, s2, bs, hpf, hbs⟩ ⟨rfl, rfl⟩
    have hin : i < n := hi
    have l16 : (allPlaces i).length ≤ 16 := by
      have : i ≤ 4 := by omega
      rcases i with _ | _ | _ | _ | _ | _ <;> first | omega | decide
    have hbl : bs.length ≤ 16 := by rw [hbs.length, List.length_map]; exact l16
    refine ⟨_, rfl, _, rfl, pf, rfl, ⟨_, SqL.of hpf⟩, fun D2 hD2 => lc_it (walk_list (xs := bs.map V.ref)) (fun j H' => Same H3 H' ∧ ∃ cs : List Addr, H' D2 = some (.lst (cs.map V.ref)) ∧ RowsAt H' cs ((((allPlaces i).map fun r => r ++ [i]).map nI).take j))
      ⟨sUp hD2, [], upd_same, trivial⟩ (fun j H' _ h => SqL.of (h.1 _ _ hpf)) ?_ ?_⟩
    · rintro j x H4 H5 hj ⟨s4, cs, hD4, hcs⟩ ⟨rfl, hx⟩
      obtain ⟨b, hb, rfl⟩ := map_get hx
      obtain ⟨rw0, hr0, hrH⟩ := (hbs.same s4).get' hb
      obtain ⟨r, hr1, rfl⟩ := map_get hr0
      have lr : r.length ≤ 4 := by
        have h5 : i ≤ 4 := by omega
        have hm := List.mem_of_getElem? hr1
        have : ∀ k, k ≤ 4 → ∀ r ∈ allPlaces k, r.length ≤ 4 := by decide
        exact this i h5 r hm
      have hD5 : (H5 D2) = some (.lst (cs.map V.ref)) := hD4
      refine ⟨rfl, ?_⟩
      refine ⟨_, rfl, _, rfl, by show 1 ≤ sizeLine; decide, fun p5 hp5 => ?_⟩
      have s5 := sUp (o := .lst [.int (i : Nat)]) hp5
      refine ⟨b, p5, vI (nI r), [.int (i : Nat)], rfl, rfl, s5 _ _ hrH, upd_same, ?_, fun p6 hp6 => ?_⟩
      · exact small2 (by simp [nI]; omega)
      have s6 := s5.trans (sUp (o := .lst (vI (nI r) ++ [.int (i : Nat)])) hp6)
      have e6 : vI (nI r) ++ [V.int (i : Nat)] = vI (nI (r ++ [i])) := by simp [nI]
      rw [e6] at s6 ⊢
      refine ⟨_, s6 _ _ hD5, ?_, sUps (s4.trans s6) hD2, cs ++ [p6], by rw [upd_same]; simp, ?_⟩
      · exact small1000 (by rw [List.length_map, hcs.length, List.length_take, List.length_map, List.length_map]; omega)
      · rw [take_next (l := ((allPlaces i).map fun r => r ++ [i]).map nI) (x := nI (r ++ [i])) (by rw [List.getElem?_map, List.getElem?_map, hr1]; rfl)]
        exact rows_push hcs hD5 s6 upd_same (ne_of_none hD5 (s5.free hp6))
    · rintro H4 ⟨s4, cs, hD4, hcs⟩
      rw [List.take_of_length_le (by rw [List.length_map, List.length_map, List.length_map, hbs.length, List.length_map]; exact Nat.le_refl _)] at hcs
      have hcl : cs.length ≤ 16 := by rw [hcs.length, List.length_map, List.length_map]; exact l16
      refine ⟨pf, D2, _, _, rfl, rfl, s4 _ _ hpf, hD4, ?_, fun p7 hp7 => ?_⟩
      · exact small2 (by simp only [List.length_map]; omega)
      have s7 := sUp (o := .lst (bs.map V.ref ++ cs.map V.ref)) hp7
      refine ⟨some (.int (i : Nat)), p7, rfl, (s2.trans s4).trans s7, bs ++ cs, by rw [upd_same]; simp, ?_⟩
      have e8 : allPlaces (i + 1) = allPlaces i ++ (allPlaces i).map fun r => r ++ [i] := by
        unfold allPlaces
        rw [List.range_succ, List.foldl_append]
        rfl
      rw [e8, List.map_append]
      exact ((hbs.same s4).append hcs).same s7
  · rintro σ H2 ⟨v1, pf, rfl, s2, hm⟩
    exact ⟨_, rfl, q _ _ s2 hm⟩
abbrev s_has_no_negative_minor : Stmt := top 21
abbrev sl_has_no_negative_minor : List Str := ["matrix", "places"]
theorem sc_has_no_negative_minor : FnScope sl_has_no_negative_minor ["matrix"] (defScope s_has_no_negative_minor) := ⟨rfl, rfl, rfl, by decide +kernel, rfl, by decide +kernel, by decide +kernel⟩
theorem ok_has_no_negative_minor {f : Addr} {fd : FuncData} (F : Fun K "has_no_negative_minor" "has_no_negative_minor" s_has_no_negative_minor f fd) (T : Txt K mg D E R N L)
    (c_determinant : Cal P w K mg base CX0 6 "determinant" ["matrix"] (spDet 5)) (c_chosen : Cal P w K mg base CX0 1 "chosen" ["matrix", "places"] spChosen) (c_all_places : Cal P w K mg base CX0 1 "all_places" ["many"] spAllPlaces) :
    FnOk P w K mg base CX0 7 f fd ["matrix"] spNoNeg := by
  refine F.ok sc_has_no_negative_minor (fun vs H Q E h => ?_) (fun cdv A outer s H vs Q E hr h => ⟨_, (pss_one (ps_ret (pe_callB (cr_all rfl) (by rfl) T.n_all (by decide +kernel) (pa_cons (pe_lc (own := [("places", 1)]) (g := gName 1) (tt := tYes) rfl sc_has_no_negative_minor.nd (pi_list (pe_cal c_all_places (hr.mono (by decide)) pass0 (pa_cons (pe_callB call_len_seq (by rfl) T.n_len (by decide +kernel) (pa_cons (pv 0) pa_nil)) pa_nil))) (blkOk_by (N := sl_has_no_negative_minor) (sc := defScope s_has_no_negative_minor) (by decide +kernel)) (fun _ _ _ _ _ => (pg_name (i := 1) sc_has_no_negative_minor.nd rfl (by first | exact Or.inl rfl | exact Or.inr rfl))) (fun _ _ _ _ _ => pts_nil) (fun _ _ _ _ _ => (pe_cmpR op_ge (pe_cal c_determinant (hr.mono (by decide)) pass0 (pa_cons (pe_cal c_chosen (hr.mono (by decide)) pass0 (pa_cons (pv 0) (pa_cons (pv 1) pa_nil))) pa_nil)) pe_int (nomark _)))) pa_nil)))), ?_⟩)
  · obtain ⟨_, _, _, rfl, _⟩ := h; rfl
  obtain ⟨n, a, m, rfl, hA, hm, h4, hb, q⟩ := h
  obtain ⟨as, ha, hR⟩ := id hA
  refine ⟨_, rfl, a, as.map V.ref, rfl, .inl (SqL.of ha), n, ?_, h4, fun H1 p1 s1 ⟨bs, hp1, hbs⟩ => ?_⟩
  · rw [List.length_map, hR.length, hm.len]
  have pl : ∀ k, k ≤ 4 → ∀ r ∈ allPlaces k, r.length ≤ 4 ∧ ∀ i ∈ r, i < k := by decide
  have pc : ∀ k, k ≤ 4 → (allPlaces k).length ≤ 16 := by decide
  refine ⟨p1, rfl, ⟨_, SqL.of hp1⟩, fun D2 hD2 => lc_it (walk_list (xs := bs.map V.ref)) (fun j H' => Same H1 H' ∧ H' D2 = some (.lst ((((allPlaces n).map fun ps => decide (0 ≤ det (chosen m ps))).take j).map V.bl)))
    ⟨sUp hD2, upd_same⟩ (fun j H' _ h => SqL.of (h.1 _ _ hp1)) ?_ ?_⟩
  · rintro j x H4 H5 hj ⟨s4, hD4⟩ ⟨rfl, hx⟩
    obtain ⟨b, hb0, rfl⟩ := map_get hx
    obtain ⟨rw0, hr0, hrH⟩ := (hbs.same s4).get' hb0
    obtain ⟨ps, hr1, rfl⟩ := map_get hr0
    obtain ⟨lr, lt⟩ := pl n h4 ps (List.mem_of_getElem? hr1)
    have cm : IsMat ps.length (chosen m ps) := by
      refine ⟨by unfold chosen; rw [List.length_map], fun r hr => ?_⟩
      unfold chosen at hr
      obtain ⟨i, _, rfl⟩ := List.mem_map.mp hr
      rw [List.length_map]
    have cb : EB 1500 (chosen m ps) := fun r hr x hx => by
      unfold chosen at hr
      obtain ⟨i, hi, rfl⟩ := List.mem_map.mp hr
      obtain ⟨c, hc, rfl⟩ := List.mem_map.mp hx
      have hil := lt i hi
      have hcl := lt c hc
      obtain ⟨row, hrow⟩ : ∃ row, m[i]? = some row := ⟨m[i]'(by rw [hm.len]; exact hil), by simp [hm.len, hil]⟩
      have hrl : row.length = n := hm.row row (List.mem_of_getElem? hrow)
      have e1 : m.getD i [] = row := by simp [List.getD, hrow]
      rw [e1]
      have e2 : row[c]? = some (row.getD c 0) := by simp [List.getD, hrl, hcl]
      exact hb row (List.mem_of_getElem? hrow) _ (List.mem_of_getElem? e2)
    refine ⟨rfl, ?_⟩
    refine ⟨_, rfl, _, rfl, n, a, b, m, ps, rfl, hA.same (s1.trans s4), hrH, hm, lt, by omega, fun H6 p6 s6 m6 => ?_⟩
    refine ⟨p6, _, 1500, rfl, m6, by rw [cm.len]; exact cm, by rw [cm.len]; omega, by rw [cm.len]; omega, cb, by omega, fun H7 s7 => ?_⟩
    refine ⟨_, _, rfl, rfl, _, s7 _ _ (s6 _ _ hD4), ?_, sUps (s4.trans (s6.trans s7)) hD2, ?_⟩
    · have := pc n h4
      exact small1000 (by rw [List.length_map, List.length_take, List.length_map]; omega)
    · rw [upd_same, take_next (l := (allPlaces n).map fun ps => decide (0 ≤ det (chosen m ps))) (x := decide (0 ≤ det (chosen m ps))) (by rw [List.getElem?_map, hr1]; rfl)]
      simp
  · rintro H4 ⟨s4, hD4⟩
    rw [List.take_of_length_le (by rw [List.length_map, List.length_map, hbs.length, List.length_map]; exact Nat.le_refl _)] at hD4
    refine ⟨D2, _, rfl, SqL.of hD4, ?_⟩
    have r := q _ (s1.trans s4)
    unfold noNeg at r
    rw [hm.len] at r
    rw [List.all_map]
    exact r
end
end Bd
set_option maxRecDepth 100000
set_option maxHeartbeats 4000000
namespace Bd
open PySem PySem.Spec PyProof.Rows L2
/-! ## models.py: Design -/
structure Ds where
  n : Nat
  rows : Mat
  cs : List Int
def Ds.mat (d : Ds) : Mat := information d.n d.rows d.cs
structure Wf (d : Ds) : Prop where
  n1 : 1 ≤ d.n
  n4 : d.n ≤ 4
  rl : ∀ r ∈ d.rows, r.length = d.n
  re : EV 10 d.rows
  rk : d.rows.length ≤ 10
  cl : d.cs.length = d.rows.length
  cb : ∀ c ∈ d.cs, 0 ≤ c ∧ c ≤ 20
theorem Wf.rw {d : Ds} (h : Wf d) : RW d.n d.rows d.cs := ⟨h.rl, fun c hc => (h.cb c hc).1⟩
theorem Wf.mat {d : Ds} (h : Wf d) : IsMat d.n d.mat := info_isMat h.rw
theorem Wf.ev {d : Ds} (h : Wf d) : EV 20000 d.mat := (info_ev (k := 20) h.re (fun c hc => by have := h.cb c hc; omega) h.rk).mono (by omega)
theorem Wf.eb {d : Ds} (h : Wf d) : EB 20 d.mat := h.ev.eb (by decide)
theorem Wf.nn {d : Ds} (h : Wf d) : 0 ≤ det d.mat := info_det_nn h.n1 h.n4 h.rw
theorem Wf.bd {d : Ds} (h : Wf d) : Bn 88 (det d.mat) := det_bn h.eb h.mat h.n4
theorem EB.mono {a b : Nat} {m : Mat} (h : EB a m) (hl : a ≤ b) : EB b m := fun r hr x hx => (h r hr x hx).mono hl
theorem bn_of_le {x : Int} {n k : Nat} (h : x.natAbs ≤ k) (hl : k ≤ 2 ^ n) : Bn n x := Nat.le_trans h hl
def dF (n : Int) (r c : Addr) : List (Str × V) := [("columns", .int n), ("rows", .ref r), ("counts", .ref c)]
theorem lk_at {k : Str} {v : V} {r : List (Str × V)} : List.lookup k ((k, v) :: r) = some v := by
  have e : (k == k) = true := beq_self_eq_true k
  simp only [List.lookup, e]
theorem lk_on {k g : Str} {v : V} {r : List (Str × V)} (h : (k == g) = false) : List.lookup k ((g, v) :: r) = List.lookup k r := by
  simp only [List.lookup, h]
theorem pt_on {f g : Str} {v x : V} {r : List (Str × V)} (h : ¬ g = f) : putF f v ((g, x) :: r) = (g, x) :: putF f v r := if_neg h
theorem dF_c {n : Int} {r c : Addr} : (dF n r c).lookup ("columns" : Str) = some (.int n) := lk_at
theorem dF_r {n : Int} {r c : Addr} : (dF n r c).lookup ("rows" : Str) = some (.ref r) := (lk_on (by decide +kernel)).trans lk_at
theorem dF_n {n : Int} {r c : Addr} : (dF n r c).lookup ("counts" : Str) = some (.ref c) := (lk_on (by decide +kernel)).trans ((lk_on (by decide +kernel)).trans lk_at)
theorem dF_no {n : Int} {r c : Addr} {m : Str} (h1 : (m == ("columns" : Str)) = false) (h2 : (m == ("rows" : Str)) = false) (h3 : (m == ("counts" : Str)) = false) : (dF n r c).lookup m = none :=
  (lk_on h1).trans ((lk_on h2).trans ((lk_on h3).trans rfl))
theorem dF_put {n : Int} {r c : Addr} : putF "counts" (.ref c) (putF "rows" (.ref r) (putF "columns" (.int n) [])) = dF n r c := by
  show putF "counts" (.ref c) (putF "rows" (.ref r) [("columns", .int n)]) = _
  rw [pt_on (by decide +kernel)]
  show putF "counts" (.ref c) [("columns", .int n), ("rows", .ref r)] = _
  rw [pt_on (by decide +kernel), pt_on (by decide +kernel)]
  rfl
/-- the design d at a, of the class at D -/
structure IsD (D : Addr) (H : Hp) (a : Addr) (d : Ds) (dx r c : Addr) : Prop where
  at_ : H a = some (.ins D dx (dF d.n r c))
  rows : IsM H r d.rows
  cs : H c = some (.lst (vI d.cs))
theorem IsD.same {D : Addr} {H H' : Hp} {a : Addr} {d : Ds} {dx r c : Addr} (h : IsD D H a d dx r c) (s : Same H H') : IsD D H' a d dx r c := ⟨s _ _ h.at_, h.rows.same s, s _ _ h.cs⟩
def HasD (D : Addr) (H : Hp) (a : Addr) (d : Ds) : Prop := ∃ dx r c, IsD D H a d dx r c
theorem HasD.same {D : Addr} {H H' : Hp} {a : Addr} {d : Ds} (h : HasD D H a d) (s : Same H H') : HasD D H' a d := let ⟨dx, r, c, q⟩ := h; ⟨dx, r, c, q.same s⟩
def spDInit (D : Addr) : Sp := fun vs H Q _ => ∃ (p dx : Addr) (n : Int) (r c : Addr), vs = [.ref p, .int n, .ref r, .ref c] ∧ H p = some (.ins D dx []) ∧
  ∀ H' : Hp, H' p = some (.ins D dx (dF n r c)) → (∀ b o, H b = some o → b ≠ p → H' b = some o) → Q .non H'
def spSize (D : Addr) : Sp := fun vs H Q _ => ∃ (a : Addr) (d : Ds), vs = [.ref a] ∧ HasD D H a d ∧ Q (.int d.cs.sum) H
def spWith (D : Addr) : Sp := fun vs H Q _ => ∃ (a c : Addr) (d : Ds) (cs : List Int), vs = [.ref a, .ref c] ∧ HasD D H a d ∧ H c = some (.lst (vI cs)) ∧ ∀ H' p, Same H H' → H p = none → HasD D H' p ⟨d.n, d.rows, cs⟩ → Q (.ref p) H'
def spMatrix (D : Addr) : Sp := fun vs H Q _ => ∃ (a : Addr) (d : Ds), vs = [.ref a] ∧ HasD D H a d ∧ Wf d ∧ ∀ H' p, Same H H' → IsM H' p d.mat → Q (.ref p) H'
def spWorth (D : Addr) : Sp := fun vs H Q _ => ∃ (a : Addr) (d : Ds), vs = [.ref a] ∧ HasD D H a d ∧ Wf d ∧ ∀ H', Same H H' → Q (.int (det d.mat)) H'
def spRegular (D N : Addr) : Sp := fun vs H Q E => ∃ (a : Addr) (d : Ds), vs = [.ref a] ∧ HasD D H a d ∧ Wf d ∧ (det d.mat = 0 → ∀ H', Same H H' → E (.ref N) none H') ∧ (det d.mat ≠ 0 → ∀ H' p, Same H H' → IsM H' p d.mat → Q (.ref p) H')
def spOwnTrace (K : PySem.W.Frag) (D N : Addr) : Sp := fun vs H Q E => ∃ (a : Addr) (d : Ds), vs = [.ref a] ∧ HasD D H a d ∧ Wf d ∧ (det d.mat = 0 → ∀ H', Same H H' → E (.ref N) none H') ∧
  (det d.mat ≠ 0 → ∀ H' p, Same H H' → IsF K H' p (traceF d.mat) → Q (.ref p) H')
/-- a list of fractions -/
def FsAt (H : Hp) : List Addr → List Kxd5.Fraction → Prop
  | [], [] => True
  | a :: as, f :: fs => IsT H a f ∧ FsAt H as fs
  | _, _ => False
def IsFs (H : Hp) (a : Addr) (fs : List Kxd5.Fraction) : Prop := ∃ as : List Addr, H a = some (.lst (as.map V.ref)) ∧ FsAt H as fs
theorem FsAt.length {H : Hp} : ∀ {as : List Addr} {m : List Kxd5.Fraction}, FsAt H as m → as.length = m.length
  | [], [], _ => rfl
  | _ :: as, _ :: m, h => by rw [List.length_cons, List.length_cons, FsAt.length h.2]
theorem FsAt.same {H H' : Hp} (s : Same H H') : ∀ {as : List Addr} {m : List Kxd5.Fraction}, FsAt H as m → FsAt H' as m
  | [], [], _ => trivial
  | _ :: _, _ :: _, h => ⟨s _ _ h.1, FsAt.same s h.2⟩
theorem IsFs.same {H H' : Hp} {a : Addr} {m : List Kxd5.Fraction} (h : IsFs H a m) (s : Same H H') : IsFs H' a m := let ⟨as, e, r⟩ := h; ⟨as, s _ _ e, r.same s⟩
theorem FsAt.get' {H : Hp} : ∀ {as : List Addr} {m : List Kxd5.Fraction} {i : Nat} {a : Addr}, FsAt H as m → as[i]? = some a → ∃ f, m[i]? = some f ∧ IsT H a f
  | [], [], i, a, _, e => by simp at e
  | b :: as, x :: m, 0, a, h, e => ⟨x, rfl, by have e' : b = a := Option.some.inj e; rw [← e']; exact h.1⟩
  | b :: as, x :: m, i + 1, a, h, e => FsAt.get' (i := i) h.2 e
theorem FsAt.snoc {H : Hp} {a : Addr} {f : Kxd5.Fraction} (ha : IsT H a f) : ∀ {as : List Addr} {m : List Kxd5.Fraction}, FsAt H as m → FsAt H (as ++ [a]) (m ++ [f])
  | [], [], _ => ⟨ha, trivial⟩
  | _ :: _, _ :: _, h => ⟨h.1, FsAt.snoc ha h.2⟩
theorem FsAt.upd {H : Hp} {p : Addr} {xs : List V} (hp : H p = some (.lst xs)) (o : HO) : ∀ {as : List Addr} {m : List Kxd5.Fraction}, FsAt H as m → FsAt (L2.upd H p o) as m
  | [], [], _ => trivial
  | a :: _, _ :: _, h => ⟨(upd_ne (ne_of (show H a = some _ from h.1) hp (by intro z; cases z))).trans h.1, FsAt.upd hp o h.2⟩
theorem fs_push {H H' : Hp} {p q : Addr} {bs : List Addr} {m : List Kxd5.Fraction} {f : Kxd5.Fraction} {xs : List V} (o : HO) (hb : FsAt H bs m) (hp : H p = some (.lst xs)) (s : Same H H') (hq : IsT H' q f) : FsAt (L2.upd H' p o) (bs ++ [q]) (m ++ [f]) :=
  FsAt.upd (s _ _ hp) o (FsAt.snoc hq (hb.same s))
def varsF (m : Mat) (vs : List Row) : List Kxd5.Fraction := vs.map fun v => Kxd5.fraction (weighed (cofactors m) v) (det m)
def spVariances (D N : Addr) : Sp := fun vs H Q E => ∃ (a v : Addr) (d : Ds) (vecs : List Row), vs = [.ref a, .ref v] ∧ HasD D H a d ∧ Wf d ∧ IsM H v vecs ∧ vecs.length ≤ 10 ∧ (∀ r ∈ vecs, r.length = d.n) ∧ EV 10 vecs ∧
  (det d.mat = 0 → ∀ H', Same H H' → E (.ref N) none H') ∧ (det d.mat ≠ 0 → ∀ H' p, Same H H' → IsFs H' p (varsF d.mat vecs) → Q (.ref p) H')
section
variable {P : Program} {w : World} {K : PySem.W.Frag} {mg : Str → Option Value} {base : Heap} {D E R N L : Addr}
abbrev s_Design___init__ : Stmt := inClass (top 25) 0
abbrev sl_Design___init__ : List Str := ["self", "columns", "rows", "counts"]
theorem sc_Design___init__ : FnScope sl_Design___init__ ["self", "columns", "rows", "counts"] (defScope s_Design___init__) := ⟨rfl, rfl, rfl, by decide +kernel, rfl, by decide +kernel, by decide +kernel⟩
theorem ok_Design_init {f : Addr} {fd : FuncData} (F : Fun K "__init__" "Design.__init__" s_Design___init__ f fd) (T : Txt K mg D E R N L) : FnOk P w K mg base CX0 1 f fd ["self", "columns", "rows", "counts"] (spDInit D) := by
  refine F.ok sc_Design___init__ (fun vs H Q E h => ?_) (fun cdv A outer s H vs Q E hr h => ⟨_, (pss_cons (ps_fld (pv 0) (pv 1) rfl)
      (pss_cons (ps_fld (pv 0) (pv 2) rfl)
      (pss_one (ps_fld (pv 0) (pv 3) rfl)))), ?_⟩)
  · obtain ⟨_, _, _, _, _, rfl, _⟩ := h; rfl
  obtain ⟨p, dx, n, r, c, rfl, hp, q⟩ := h
  refine ⟨_, rfl, _, rfl, p, D, dx, _, rfl, hp, T.clD, T.dc, (by show 0 < 1000; decide), ?_⟩
  refine ⟨_, rfl, _, rfl, p, D, dx, _, rfl, upd_same, T.clD, T.dr, (by show 1 < 1000; decide), ?_⟩
  refine ⟨_, rfl, _, rfl, p, D, dx, _, rfl, upd_same, T.clD, T.dn, ?_, ?_⟩
  · exact Nat.lt_of_le_of_lt (length_putF _ _ _) (by show 2 < 1000; decide)
  refine q _ (upd_same.trans ?_) fun b o e hb => by rw [upd_ne hb, upd_ne hb, upd_ne hb]; exact e
  rw [dF_put]
abbrev s_Design_size : Stmt := inClass (top 25) 1
abbrev sl_Design_size : List Str := ["self"]
theorem sc_Design_size : FnScope sl_Design_size ["self"] (defScope s_Design_size) := ⟨rfl, rfl, rfl, by decide +kernel, rfl, by decide +kernel, by decide +kernel⟩
theorem ok_Design_size {f : Addr} {fd : FuncData} (F : Fun K "size" "Design.size" s_Design_size f fd) (T : Txt K mg D E R N L) : FnOk P w K mg base CX0 1 f fd ["self"] (spSize D) := by
  refine F.ok sc_Design_size (fun vs H Q E h => ?_) (fun cdv A outer s H vs Q E hr h => ⟨_, (pss_one (ps_ret (pe_callB (cr_sum rfl) (by rfl) T.n_sum (by decide +kernel) (pa_cons (pe_fld (pv 0) rfl) pa_nil)))), ?_⟩)
  · obtain ⟨_, _, rfl, _⟩ := h; rfl
  obtain ⟨a, d, rfl, ⟨dx, r, c, hD⟩, q⟩ := h
  exact ⟨_, rfl, a, D, dx, _, _, rfl, hD.at_, T.clD, T.dn, dF_n, c, d.cs, rfl, SqL.of hD.cs, q⟩
abbrev s_Design_with_counts : Stmt := inClass (top 25) 2
abbrev sl_Design_with_counts : List Str := ["self", "counts"]
theorem sc_Design_with_counts : FnScope sl_Design_with_counts ["self", "counts"] (defScope s_Design_with_counts) := ⟨rfl, rfl, rfl, by decide +kernel, rfl, by decide +kernel, by decide +kernel⟩
theorem ok_Design_with_counts {f : Addr} {fd : FuncData} (F : Fun K "with_counts" "Design.with_counts" s_Design_with_counts f fd) (T : Txt K mg D E R N L) (c_Design : Kal P w K mg base 1 "Design" D ["self", "columns", "rows", "counts"] (spDInit D)) :
    FnOk P w K mg base CX0 3 f fd ["self", "counts"] (spWith D) := by
  refine F.ok sc_Design_with_counts (fun vs H Q E h => ?_) (fun cdv A outer s H vs Q E hr h => ⟨_, (pss_one (ps_ret (pe_mk c_Design (hr.mono (by decide)) (pa_cons (pe_fld (pv 0) rfl) (pa_cons (pe_fld (pv 0) rfl) (pa_cons (pv 1) pa_nil)))))), ?_⟩)
  · obtain ⟨_, _, _, _, rfl, _⟩ := h; rfl
  obtain ⟨a, c', d, cs, rfl, ⟨dx, r, c, hD⟩, hc, q⟩ := h
  refine ⟨_, rfl, a, D, dx, _, _, rfl, hD.at_, T.clD, T.dc, dF_c, _, rfl, a, D, dx, _, _, rfl, hD.at_, T.clD, T.dr, dF_r, _, rfl, fun x dy hx hdy ne => ?_⟩
  refine ⟨x, dy, d.n, r, c', rfl, upd_same, fun H' hx' kp => ⟨rfl, ?_⟩⟩
  have s1 : Same H H' := Same.made hx hdy kp
  exact q _ _ s1 hx ⟨dy, r, c', hx', hD.rows.same s1, s1 _ _ hc⟩
abbrev s_Design_matrix : Stmt := inClass (top 25) 3
abbrev sl_Design_matrix : List Str := ["self"]
theorem sc_Design_matrix : FnScope sl_Design_matrix ["self"] (defScope s_Design_matrix) := ⟨rfl, rfl, rfl, by decide +kernel, rfl, by decide +kernel, by decide +kernel⟩
theorem ok_Design_matrix {f : Addr} {fd : FuncData} (F : Fun K "matrix" "Design.matrix" s_Design_matrix f fd) (T : Txt K mg D E R N L) (c_information : Cal P w K mg base CX0 2 "information" ["columns", "rows", "counts"] spInfo) :
    FnOk P w K mg base CX0 3 f fd ["self"] (spMatrix D) := by
  refine F.ok sc_Design_matrix (fun vs H Q E h => ?_) (fun cdv A outer s H vs Q E hr h => ⟨_, (pss_one (ps_ret (pe_cal c_information (hr.mono (by decide)) pass0 (pa_cons (pe_fld (pv 0) rfl) (pa_cons (pe_fld (pv 0) rfl) (pa_cons (pe_fld (pv 0) rfl) pa_nil)))))), ?_⟩)
  · obtain ⟨_, _, rfl, _⟩ := h; rfl
  obtain ⟨a, d, rfl, ⟨dx, r, c, hD⟩, wf, q⟩ := h
  refine ⟨_, rfl, a, D, dx, _, _, rfl, hD.at_, T.clD, T.dc, dF_c, _, rfl, a, D, dx, _, _, rfl, hD.at_, T.clD, T.dr, dF_r, _, rfl, a, D, dx, _, _, rfl, hD.at_, T.clD, T.dn, dF_n, ?_⟩
  exact ⟨d.n, r, c, d.rows, d.cs, rfl, hD.rows, hD.cs, by have := wf.n4; omega, wf.cl.symm, wf.rl, fun x hx => bn_of_le (k := 20) (by have := wf.cb x hx; omega) (Nat.le_trans (by decide : 20 ≤ 2 ^ 5) (Nat.pow_le_pow_right (by decide) (by decide))),
    wf.re.eb (Nat.le_trans (by decide : 10 ≤ 2 ^ 4) (Nat.pow_le_pow_right (by decide) (by decide))), q⟩
abbrev s_Design_worth : Stmt := inClass (top 25) 4
abbrev sl_Design_worth : List Str := ["self"]
theorem sc_Design_worth : FnScope sl_Design_worth ["self"] (defScope s_Design_worth) := ⟨rfl, rfl, rfl, by decide +kernel, rfl, by decide +kernel, by decide +kernel⟩
theorem ok_Design_worth {f : Addr} {fd : FuncData} (F : Fun K "worth" "Design.worth" s_Design_worth f fd) (T : Txt K mg D E R N L) (c_determinant : Cal P w K mg base CX0 6 "determinant" ["matrix"] (spDet 5)) (c_matrix : Mal P w K mg base CX0 3 D "matrix" ["self"] (spMatrix D)) :
    FnOk P w K mg base CX0 7 f fd ["self"] (spWorth D) := by
  refine F.ok sc_Design_worth (fun vs H Q E h => ?_) (fun cdv A outer s H vs Q E hr h => ⟨_, (pss_one (ps_ret (pe_cal c_determinant (hr.mono (by decide)) pass0 (pa_cons (pe_mal0 (pv 0) T.clD c_matrix (hr.mono (by decide)) pass0) pa_nil)))), ?_⟩)
  · obtain ⟨_, _, rfl, _⟩ := h; rfl
  obtain ⟨a, d, rfl, hh, wf, q⟩ := h
  obtain ⟨dx, r, c, hD⟩ := id hh
  refine ⟨_, rfl, a, dx, _, rfl, hD.at_, dF_no (by decide +kernel) (by decide +kernel) (by decide +kernel), a, d, rfl, hh, wf, fun H1 p1 s1 m1 => ?_⟩
  have hm := wf.mat
  exact ⟨p1, _, 20, rfl, m1, by rw [hm.len]; exact hm, by rw [hm.len]; have := wf.n4; omega, by rw [hm.len]; exact wf.n4, wf.eb, by omega, fun H2 s2 => q _ (s1.trans s2)⟩
abbrev s_Design_regular_matrix : Stmt := inClass (top 25) 5
abbrev sl_Design_regular_matrix : List Str := ["self", "found"]
theorem sc_Design_regular_matrix : FnScope sl_Design_regular_matrix ["self"] (defScope s_Design_regular_matrix) := ⟨rfl, rfl, rfl, by decide +kernel, rfl, by decide +kernel, by decide +kernel⟩
theorem ok_Design_regular_matrix {f : Addr} {fd : FuncData} (F : Fun K "regular_matrix" "Design.regular_matrix" s_Design_regular_matrix f fd) (T : Txt K mg D E R N L) (c_determinant : Cal P w K mg base CX0 6 "determinant" ["matrix"] (spDet 5))
    (c_matrix : Mal P w K mg base CX0 3 D "matrix" ["self"] (spMatrix D)) : FnOk P w K mg base (L2.CX P w) 7 f fd ["self"] (spRegular D N) := by
  refine F.okX sc_Design_regular_matrix (fun vs H Q E h => ?_) (fun cdv A outer s H vs Q E hr h => ⟨_, (pss_cons (ps_set (i := 1) sc_Design_regular_matrix.nd rfl (by first | exact Or.inl rfl | exact Or.inr rfl) (pe_mal0 (pv 0) T.clD c_matrix (hr.mono (by decide)) pass0))
      (pss_cons (ps_if (pt_cmpR op_eq (pe_cal c_determinant (hr.mono (by decide)) pass0 (pa_cons (pv 1) pa_nil)) pe_int (nomark _)) (pss_one (ps_raise rfl (takes_of rfl rfl rfl rfl) (pmk_own PySem.F.excBase_ValueError T.xN T.gN T.kN (raises_own T.bN T.tN) (by exact rfl)))) pss_nil)
      (pss_one (ps_ret (pv 1))))), ?_⟩)
  · obtain ⟨_, _, rfl, _⟩ := h; rfl
  obtain ⟨a, d, rfl, hh, wf, qE, q⟩ := h
  obtain ⟨dx, r, c, hD⟩ := id hh
  refine ⟨_, rfl, a, dx, _, rfl, hD.at_, dF_no (by decide +kernel) (by decide +kernel) (by decide +kernel), a, d, rfl, hh, wf, fun H1 p1 s1 m1 => ?_⟩
  have hm := wf.mat
  refine ⟨_, rfl, p1, _, 20, rfl, m1, by rw [hm.len]; exact hm, by rw [hm.len]; have := wf.n4; omega, by rw [hm.len]; exact wf.n4, wf.eb, by omega, fun H2 s2 => ?_⟩
  refine ⟨rfl, _, rfl, ?_⟩
  by_cases z : det d.mat = 0
  · exact ifT (congrArg V.int z) (qE z _ (s1.trans s2))
  · exact ifF (fun e => z (V.int.inj e)) ⟨_, rfl, q z _ _ (s1.trans s2) (m1.same s2)⟩
abbrev s_Design_own_trace : Stmt := inClass (top 25) 6
abbrev sl_Design_own_trace : List Str := ["self"]
theorem sc_Design_own_trace : FnScope sl_Design_own_trace ["self"] (defScope s_Design_own_trace) := ⟨rfl, rfl, rfl, by decide +kernel, rfl, by decide +kernel, by decide +kernel⟩
theorem ok_Design_own_trace {f : Addr} {fd : FuncData} (F : Fun K "own_trace" "Design.own_trace" s_Design_own_trace f fd) (T : Txt K mg D E R N L) (c_trace : Cal P w K mg base CX0 8 "trace" ["matrix"] (spTrace K))
    (c_regular_matrix : Mal P w K mg base (L2.CX P w) 7 D "regular_matrix" ["self"] (spRegular D N)) : FnOk P w K mg base (L2.CX P w) 9 f fd ["self"] (spOwnTrace K D N) := by
  refine F.okX sc_Design_own_trace (fun vs H Q E h => ?_) (fun cdv A outer s H vs Q E hr h => ⟨_, (pss_one (ps_ret (pe_cal c_trace (hr.mono (by decide)) pass0 (pa_cons (pe_mal0 (pv 0) T.clD c_regular_matrix (hr.mono (by decide)) (passes_call (takes_of rfl rfl rfl rfl) (fun _ _ _ _ h => h))) pa_nil)))), ?_⟩)
  · obtain ⟨_, _, rfl, _⟩ := h; rfl
  obtain ⟨a, d, rfl, hh, wf, qE, q⟩ := h
  obtain ⟨dx, r, c, hD⟩ := id hh
  refine ⟨_, rfl, a, dx, _, rfl, hD.at_, dF_no (by decide +kernel) (by decide +kernel) (by decide +kernel), a, d, rfl, hh, wf, qE, fun z H1 p1 s1 m1 => ?_⟩
  have nn := wf.nn
  exact ⟨d.n, p1, d.mat, rfl, m1, wf.mat, wf.n1, wf.n4, wf.eb, by omega, fun H2 p2 s2 f2 => q z _ _ (s1.trans s2) f2⟩
abbrev s_Design_variances : Stmt := inClass (top 25) 7
abbrev sl_Design_variances : List Str := ["self", "vectors", "matrix", "size", "adjoined", "vector"]
theorem sc_Design_variances : FnScope sl_Design_variances ["self", "vectors"] (defScope s_Design_variances) := ⟨rfl, rfl, rfl, by decide +kernel, rfl, by decide +kernel, by decide +kernel⟩
theorem ok_Design_variances {f : Addr} {fd : FuncData} (F : Fun K "variances" "Design.variances" s_Design_variances f fd) (T : Txt K mg D E R N L) (c_determinant : Cal P w K mg base CX0 6 "determinant" ["matrix"] (spDet 5))
    (c_cofactors : Cal P w K mg base CX0 8 "cofactors" ["matrix"] spCofs) (c_variance : Cal P w K mg base CX0 3 "variance" ["adjoined", "size", "vector"] spVariance)
    (c_regular_matrix : Mal P w K mg base (L2.CX P w) 7 D "regular_matrix" ["self"] (spRegular D N)) : FnOk P w K mg base (L2.CX P w) 9 f fd ["self", "vectors"] (spVariances D N) := by
  refine F.okX sc_Design_variances (fun vs H Q E h => ?_) (fun cdv A outer s H vs Q E hr h => ⟨_, (pss_cons (ps_set (i := 2) sc_Design_variances.nd rfl (by first | exact Or.inl rfl | exact Or.inr rfl) (pe_mal0 (pv 0) T.clD c_regular_matrix (hr.mono (by decide)) (passes_call (takes_of rfl rfl rfl rfl) (fun _ _ _ _ h => h))))
      (pss_cons (ps_asg (pe_tup (pa_cons (pe_cal c_determinant (hr.mono (by decide)) pass0 (pa_cons (pv 2) pa_nil)) (pa_cons (pe_cal c_cofactors (hr.mono (by decide)) pass0 (pa_cons (pv 2) pa_nil)) pa_nil))) (pg_tup (by rfl) (pgs_cons (pg_name (i := 3) sc_Design_variances.nd rfl (by first | exact Or.inl rfl | exact Or.inr rfl)) (pgs_cons (pg_name (i := 4) sc_Design_variances.nd rfl (by first | exact Or.inl rfl | exact Or.inr rfl)) pgs_nil))))
      (pss_one (ps_ret (pe_lc (own := [("vector", 5)]) (g := gName 5) (tt := tYes) rfl sc_Design_variances.nd (pi_list (pv 1)) (blkOk_by (N := sl_Design_variances) (sc := defScope s_Design_variances) (by decide +kernel)) (fun _ _ _ _ _ => (pg_name (i := 5) sc_Design_variances.nd rfl (by first | exact Or.inl rfl | exact Or.inr rfl))) (fun _ _ _ _ _ => pts_nil) (fun _ _ _ _ _ => (pe_cal c_variance (hr.mono (by decide)) pass0 (pa_cons (pv 4) (pa_cons (pv 3) (pa_cons (pv 5) pa_nil)))))))))), ?_⟩)
  · obtain ⟨_, _, _, _, rfl, _⟩ := h; rfl
  obtain ⟨a, v, d, vecs, rfl, hh, wf, ⟨vas, hv, hvR⟩, v10, vl, ve, qE, q⟩ := h
  obtain ⟨dx, r, c, hD⟩ := id hh
  refine ⟨_, rfl, a, dx, _, rfl, hD.at_, dF_no (by decide +kernel) (by decide +kernel) (by decide +kernel), a, d, rfl, hh, wf, qE, fun z H1 p1 s1 m1 => ?_⟩
  have hm := wf.mat
  have nn := wf.nn
  have dp : 0 < det d.mat := by omega
  refine ⟨_, rfl, p1, d.mat, 20, rfl, m1, by rw [hm.len]; exact hm, by rw [hm.len]; have := wf.n4; omega, by rw [hm.len]; exact wf.n4, wf.eb, by omega, fun H2 s2 => ?_⟩
  refine ⟨_, rfl, d.n, p1, d.mat, 20, rfl, m1.same s2, hm, wf.n4, wf.eb, by omega, fun H3 p3 s3 m3 => ?_⟩
  refine ⟨by show 2 ≤ sizeLine; decide, fun t ht => ?_⟩
  have s4 : Same H3 (upd H3 t (.tup [.int (det d.mat), .ref p3])) := sUp ht
  refine ⟨t, _, rfl, SqT.of upd_same, rfl, _, _, rfl, _, _, rfl, rfl, ?_⟩
  generalize upd H3 t (.tup [.int (det d.mat), .ref p3]) = H4 at s4
  have s04 : Same H H4 := s1.trans (s2.trans (s3.trans s4))
  have m4 := m3.same s4
  have cb : EB 88 (cofactors d.mat) := cofactors_bn wf.eb hm wf.n4
  refine ⟨_, rfl, v, rfl, ⟨_, SqL.of (s04 _ _ hv)⟩, fun D5 hD5 => lc_it (walk_list (xs := vas.map V.ref)) (fun i H' => Same H4 H' ∧ ∃ bs : List Addr, H' D5 = some (.lst (bs.map V.ref)) ∧ FsAt H' bs ((varsF d.mat vecs).take i))
    ⟨sUp hD5, [], upd_same, trivial⟩ (fun i H' _ h => SqL.of (h.1 _ _ (s04 _ _ hv))) ?_ ?_⟩
  · rintro i x H5 H6 hi ⟨s5, bs, hb5, hbs⟩ ⟨rfl, hx⟩
    obtain ⟨b, hb, rfl⟩ := map_get hx
    obtain ⟨vec, hvec, hvH⟩ := (hvR.same (s04.trans s5)).get' hb
    have hm1 := List.mem_of_getElem? hvec
    refine ⟨rfl, ?_⟩
    refine ⟨_, rfl, _, rfl, _, rfl, d.n, p3, b, cofactors d.mat, vec, det d.mat, rfl, m4.same s5, hvH, cofactors_isMat hm, vl vec hm1, wf.n4, cb.mono (by omega), fun x hx => (bn_of_le (n := 4) (ve vec hm1 x hx) (by decide)).mono (by omega), dp, wf.bd.mono (by omega), fun H7 p7 s7 t7 => ?_⟩
    refine ⟨_, s7 _ _ hb5, ?_, sUps (s5.trans s7) hD5, bs ++ [p7], by rw [upd_same]; simp, ?_⟩
    · exact small1000 (by rw [List.length_map, hbs.length, List.length_take]; unfold varsF; rw [List.length_map]; omega)
    · rw [take_next (l := varsF d.mat vecs) (x := Kxd5.fraction (weighed (cofactors d.mat) vec) (det d.mat)) (by unfold varsF; rw [List.getElem?_map, hvec]; rfl)]
      exact fs_push _ hbs hb5 s7 t7
  · rintro H5 ⟨s5, bs, hb5, hbs⟩
    rw [List.take_of_length_le (by unfold varsF; rw [List.length_map, List.length_map, hvR.length]; exact Nat.le_refl _)] at hbs
    exact q z _ _ (s04.trans s5) ⟨bs, hb5, hbs⟩
end
end Bd
set_option maxRecDepth 100000
set_option maxHeartbeats 4000000
namespace Bd
open PySem PySem.Spec PyProof.Rows L2
/-! ## models.py: worst, bound, exchanges, steps -/
theorem weighed_sum (m : Mat) (v : Row) : weighed m v = ((v.zip m).map fun z => z.1 * dot v z.2).sum := by
  unfold weighed
  rw [← List.foldl_map (f := fun z : Int × Row => z.1 * dot v z.2) (g := fun (a b : Int) => a + b), foldl_sum, Int.zero_add]
theorem weighed_bn {a b : Nat} {m : Mat} {v : Row} (hm : EB b m) (hv : ∀ x ∈ v, Bn a x) (hl : v.length ≤ 4) : Bn (2 + (a + (2 + (a + b)))) (weighed m v) := by
  rw [weighed_sum]
  refine sum_bn2 (fun x hx => ?_) (by rw [List.length_map, List.length_zip]; omega)
  obtain ⟨z, hz, rfl⟩ := List.mem_map.mp hx
  obtain ⟨h1, h2⟩ := List.of_mem_zip (a := z.1) (b := z.2) hz
  exact (hv _ h1).mul (dot_bn (n := 0) hv (hm _ h2) hl)
theorem Wf.wb {d : Ds} (h : Wf d) {v : Row} (hl : v.length = d.n) (hv : ∀ x ∈ v, x.natAbs ≤ 10) : Bn 100 (weighed (cofactors d.mat) v) :=
  (weighed_bn (a := 4) (cofactors_bn h.eb h.mat h.n4) (fun x hx => bn_of_le (hv x hx) (by decide)) (by rw [hl]; exact h.n4)).mono (by omega)
theorem Wf.rows_ne {d : Ds} (h : Wf d) (z : det d.mat ≠ 0) : d.rows ≠ [] := fun e => z (by
  have e1 : d.mat = nothing d.n := by
    unfold Ds.mat information
    rw [e]
    rfl
  rw [e1]
  rcases le4 h.n1 h.n4 with q | q | q | q <;> rw [q] <;> decide)
def wAt (fs : List Kxd5.Fraction) (zs : List (Kxd5.Fraction × Nat)) : Nat := zs.foldl (fun a z => if Kxd5.isLess (fs.getD a ⟨0, 1⟩) z.1 = true then z.2 else a) 0
def worstAt (fs : List Kxd5.Fraction) : Nat := wAt fs fs.zipIdx
theorem wAt_lt {fs : List Kxd5.Fraction} (h : fs ≠ []) : ∀ k, wAt fs (fs.zipIdx.take k) < fs.length
  | 0 => by
    show 0 < fs.length
    exact List.length_pos_iff.mpr h
  | k + 1 => by
    by_cases c : k < fs.length
    · have e : fs.zipIdx[k]? = some (fs[k], k) := by simp [List.getElem?_zipIdx, c]
      unfold wAt
      rw [foldl_take _ 0 e]
      split
      · exact c
      · exact wAt_lt h k
    · have e : fs.zipIdx.take (k + 1) = fs.zipIdx.take k := by
        rw [List.take_of_length_le (by simp; omega), List.take_of_length_le (by simp; omega)]
      rw [e]
      exact wAt_lt h k
def dVars (d : Ds) : List Kxd5.Fraction := varsF d.mat d.rows
def dWorst (d : Ds) : Nat := worstAt (dVars d)
def dWorstF (d : Ds) : Kxd5.Fraction := (dVars d).getD (dWorst d) ⟨0, 1⟩
def dBound (d : Ds) (s : Nat) : Int := (det d.mat * ((s : Int) * (dWorstF d).numerator) ^ d.n) / (((dWorstF d).denominator : Int) * (d.n : Int)) ^ d.n
theorem Wf.vars {d : Ds} (h : Wf d) (z : det d.mat ≠ 0) : ∀ f ∈ dVars d, 0 < f.denominator ∧ Bn 100 f.numerator ∧ Bn 100 (f.denominator : Int) := fun f hf => by
  unfold dVars varsF at hf
  obtain ⟨r, hr, rfl⟩ := List.mem_map.mp hf
  have nn := h.nn
  have dp : 0 < det d.mat := by omega
  exact ⟨(norm_fraction _ _).pos, frac_num_bn dp (h.wb (h.rl r hr) (h.re r hr)), frac_den_bn dp (h.bd.mono (by omega))⟩
theorem Wf.worst {d : Ds} (h : Wf d) (z : det d.mat ≠ 0) : 0 < (dWorstF d).denominator ∧ Bn 100 (dWorstF d).numerator ∧ Bn 100 ((dWorstF d).denominator : Int) := by
  have ne : dVars d ≠ [] := fun e => h.rows_ne z (by simpa [dVars, varsF] using e)
  have lt : dWorst d < (dVars d).length := by
    have := wAt_lt ne (dVars d).length
    rw [List.take_of_length_le (by simp)] at this
    exact this
  refine h.vars z _ ?_
  unfold dWorstF
  rw [List.getD_eq_getElem?_getD, List.getElem?_eq_getElem lt]
  exact List.getElem_mem lt
def spWorst (D N : Addr) : Sp := fun vs H Q E => ∃ (a : Addr) (d : Ds), vs = [.ref a] ∧ HasD D H a d ∧ Wf d ∧ (det d.mat = 0 → ∀ H', Same H H' → E (.ref N) none H') ∧
  (det d.mat ≠ 0 → ∀ H' p q, Same H H' → H' p = some (.tup [.int (dWorst d : Int), .ref q]) → IsT H' q (dWorstF d) → Q (.ref p) H')
def spPower : Sp := fun vs H Q _ => ∃ (x : Int) (k : Nat), vs = [.int x, .int k] ∧ k ≤ 4 ∧ Bn 1000 x ∧ Q (.int (x ^ k)) H
def spBound (D N : Addr) : Sp := fun vs H Q E => ∃ (a : Addr) (d : Ds) (s : Nat), vs = [.ref a, .int s] ∧ HasD D H a d ∧ Wf d ∧ s ≤ 100 ∧ (det d.mat = 0 → ∀ H', Same H H' → E (.ref N) none H') ∧
  (det d.mat ≠ 0 → ∀ H', Same H H' → Q (.int (dBound d s)) H')
def stepC (cs : List Int) (i : Nat) (t : Int) : List Int := cs.set i (cs.getD i 0 + t)
def spStepped : Sp := fun vs H Q _ => ∃ (c : Addr) (cs : List Int) (i : Nat) (t : Int), vs = [.ref c, .int i, .int t] ∧ H c = some (.lst (vI cs)) ∧ i < cs.length ∧ cs.length ≤ 20 ∧
  ∀ H' p, Same H H' → H' p = some (.lst (vI (stepC cs i t))) → Q (.ref p) H'
/-- the determinant with a run of i less and one of j more -/
def swapV (d : Ds) (i j : Nat) : Int := det (moved (moved d.mat (d.rows.getD i []) (-1)) (d.rows.getD j []) 1)
abbrev BX := Option (Nat × Nat × Int) × Int
def bxStep (d : Ds) (i : Nat) (b : BX) (j : Nat) : BX := if j ≠ i ∧ d.cs.getD j 0 < 20 then (if swapV d i j > b.2 then (some (i, j, swapV d i j), swapV d i j) else b) else b
def bxRow (d : Ds) (b : BX) (i : Nat) : BX := if d.cs.getD i 0 > 0 then (List.range d.cs.length).foldl (bxStep d i) b else b
def bx (d : Ds) : BX := (List.range d.cs.length).foldl (bxRow d) (none, det d.mat)
/-- how the exchange that is found lies in the heap -/
def FoundAt (H : Hp) (v : V) : Option (Nat × Nat × Int) → Prop
  | none => v = .non
  | some (i, j, x) => ∃ t, v = .ref t ∧ H t = some (.tup [.int (i : Int), .int (j : Int), .int x])
theorem FoundAt.same {H H' : Hp} {v : V} (s : Same H H') : ∀ {o : Option (Nat × Nat × Int)}, FoundAt H v o → FoundAt H' v o
  | none, h => h
  | some (i, j, x), ⟨t, h1, h2⟩ => ⟨t, h1, s _ _ h2⟩
def spBestEx (D : Addr) : Sp := fun vs H Q _ => ∃ (a : Addr) (d : Ds), vs = [.ref a] ∧ HasD D H a d ∧ Wf d ∧ ∀ H' v, Same H H' → FoundAt H' v (bx d).1 → Q v H'
def exC (d : Ds) (i j : Nat) : Ds := ⟨d.n, d.rows, stepC (stepC d.cs i (-1)) j 1⟩
def spExchanged (D : Addr) : Sp := fun vs H Q _ => ∃ (a t : Addr) (d : Ds) (i j : Nat) (x : Int), vs = [.ref a, .ref t] ∧ HasD D H a d ∧ Wf d ∧ H t = some (.tup [.int (i : Int), .int (j : Int), .int x]) ∧ i < d.cs.length ∧ j < d.cs.length ∧
  ∀ H' p, Same H H' → H p = none → HasD D H' p (exC d i j) → Q (.ref p) H'
def oneV (d : Ds) (t : Int) (j : Nat) : Int := det (moved d.mat (d.rows.getD j []) t)
def stStep (d : Ds) (t : Int) (b : Option (Nat × Int)) (j : Nat) : Option (Nat × Int) := match b with
  | none => some (j, oneV d t j)
  | some (q, m) => if oneV d t j > m then some (j, oneV d t j) else some (q, m)
def st (d : Ds) (t : Int) (ps : List Nat) : Option (Nat × Int) := ps.foldl (stStep d t) none
def spBestStep (D : Addr) : Sp := fun vs H Q _ => ∃ (a p : Addr) (d : Ds) (ps : List Nat) (t : Int), vs = [.ref a, .ref p, .int t] ∧ HasD D H a d ∧ Wf d ∧ H p = some (.lst (vI (nI ps))) ∧ (∀ j ∈ ps, j < d.rows.length) ∧ t.natAbs ≤ 1 ∧
  ∀ H' q, Same H H' → (∀ j x, st d t ps = some (j, x) → H' q = some (.tup [.int (j : Int), .int x])) → Q (.ref q) H'
theorem Wf.swap_eb {d : Ds} (h : Wf d) {r : Row} (hr : r ∈ d.rows) {t : Int} (ht : t.natAbs ≤ 1) : EV 20100 (moved d.mat r t) := (moved_ev h.ev (h.re r hr) ht).mono (by omega)
theorem getD_mem {α : Type} {l : List α} {i : Nat} {a : α} (h : i < l.length) : l.getD i a ∈ l := by
  rw [List.getD_eq_getElem?_getD, List.getElem?_eq_getElem h]
  exact List.getElem_mem h
theorem getD_some {α : Type} {l : List α} {i : Nat} {a : α} (h : i < l.length) : l[i]? = some (l.getD i a) := by
  rw [List.getD_eq_getElem?_getD, List.getElem?_eq_getElem h]
  rfl
section
variable {P : Program} {w : World} {K : PySem.W.Frag} {mg : Str → Option Value} {base : Heap} {D E R N L : Addr}
abbrev s_Design_worst : Stmt := inClass (top 25) 8
abbrev sl_Design_worst : List Str := ["self", "found", "at", "place", "here"]
theorem sc_Design_worst : FnScope sl_Design_worst ["self"] (defScope s_Design_worst) := ⟨rfl, rfl, rfl, by decide +kernel, rfl, by decide +kernel, by decide +kernel⟩
theorem ok_Design_worst {f : Addr} {fd : FuncData} (F : Fun K "worst" "Design.worst" s_Design_worst f fd) (T : Txt K mg D E R N L) (c_is_less : Cal P w K mg base CX0 1 "is_less" ["one", "other"] (spIsLess K))
    (c_variances : Mal P w K mg base (L2.CX P w) 9 D "variances" ["self", "vectors"] (spVariances D N)) : FnOk P w K mg base (L2.CX P w) 11 f fd ["self"] (spWorst D N) := by
  refine F.okX sc_Design_worst (fun vs H Q E h => ?_) (fun cdv A outer s H vs Q E hr h => ⟨_, (pss_cons (ps_set (i := 1) sc_Design_worst.nd rfl (by first | exact Or.inl rfl | exact Or.inr rfl) (pe_mal (pv 0) T.clD c_variances (hr.mono (by decide)) (passes_call (takes_of rfl rfl rfl rfl) (fun _ _ _ _ h => h)) (pa_cons (pe_fld (pv 0) rfl) pa_nil)))
      (pss_cons (ps_set (i := 2) sc_Design_worst.nd rfl (by first | exact Or.inl rfl | exact Or.inr rfl) pe_int)
      (pss_cons (ps_for (passes_of rfl) rfl (pi_enum (by rfl) T.n_enumerate (pa_cons (pv 1) pa_nil)) (pg_tup (by rfl) (pgs_cons (pg_name (i := 3) sc_Design_worst.nd rfl (by first | exact Or.inl rfl | exact Or.inr rfl)) (pgs_cons (pg_name (i := 4) sc_Design_worst.nd rfl (by first | exact Or.inl rfl | exact Or.inr rfl)) pgs_nil)))
      (pss_one (ps_if (pt_val (pe_cal c_is_less (hr.mono (by decide)) pass0 (pa_cons (pe_ix ix_list (pv 1) (pv 2) (fun _ _ => rfl)) (pa_cons (pv 4) pa_nil)))) (pss_one (ps_set (i := 2) sc_Design_worst.nd rfl (by first | exact Or.inl rfl | exact Or.inr rfl) (pv 3))) pss_nil)))
      (pss_one (ps_ret (pe_tup (pa_cons (pv 2) (pa_cons (pe_ix ix_list (pv 1) (pv 2) (fun _ _ => rfl)) pa_nil)))))))), ?_⟩)
  · obtain ⟨_, _, rfl, _⟩ := h; rfl
  obtain ⟨a, d, rfl, hh, wf, qE, q⟩ := h
  obtain ⟨dx, r, c, hD⟩ := id hh
  refine ⟨_, rfl, a, dx, _, rfl, hD.at_, dF_no (by decide +kernel) (by decide +kernel) (by decide +kernel), _, rfl, a, D, dx, _, _, rfl, hD.at_, T.clD, T.dr, dF_r, ?_⟩
  refine ⟨a, r, d, d.rows, rfl, hh, wf, hD.rows, wf.rk, wf.rl, wf.re, qE, fun z H1 p1 s1 ⟨fas, hf, hfs⟩ => ?_⟩
  change FsAt H1 fas (dVars d) at hfs
  have ne : dVars d ≠ [] := fun e => wf.rows_ne z (by simpa [dVars, varsF] using e)
  have vb := wf.vars z
  have gl : ∀ k, k < (dVars d).length → ∃ b, (fas.map V.ref)[k]? = some (.ref b) ∧ IsT H1 b ((dVars d).getD k ⟨0, 1⟩) := fun k hk => by
    have hk2 : k < fas.length := by rw [hfs.length]; exact hk
    obtain ⟨g, hg, hT⟩ := hfs.get' (i := k) (a := fas[k]) (by simp [hk2])
    rw [getD_some hk] at hg
    rw [Option.some.inj hg]
    exact ⟨fas[k], by simp [hk2], hT⟩
  refine ⟨_, rfl, p1, fas.map V.ref, rfl, SqL.of hf, for_it (walk_enum (xs := fas.map V.ref))
    (fun i σ H' => ∃ v1 v2 : Option V, σ = [some (.ref a), some (.ref p1), some (.int (wAt (dVars d) ((dVars d).zipIdx.take i) : Nat)), v1, v2] ∧ Same H1 H')
    ⟨none, none, rfl, Same.refl _⟩ (fun i σ H' _ h => ?_) ?_ ?_⟩
  · obtain ⟨_, _, _, s2⟩ := h
    exact SqL.of (s2 _ _ hf)
  · rintro i x σ H2 H3 hi ⟨v1, v2, rfl, s2⟩ ⟨T0, x1, y1, rfl, hT, rfl, hx, hy⟩
    obtain rfl : x1 = .int (i : Nat) := (Option.some.inj hx).symm
    obtain ⟨b, hb, rfl⟩ := map_get hy
    obtain ⟨g, hg, hbT⟩ := hfs.get' hb
    have s3 : Same H1 (upd H2 T0 (.tup [.int (i : Nat), .ref b])) := sUps s2 (s2.free hT)
    obtain ⟨b0, hb0, hb0T⟩ := gl _ (wAt_lt ne i)
    have g1 := vb g (List.mem_of_getElem? hg)
    have g2 := vb _ (getD_mem (a := ⟨0, 1⟩) (wAt_lt ne i))
    refine ⟨T0, _, rfl, SqT.of upd_same, rfl, _, _, rfl, _, _, rfl, rfl, ?_⟩
    generalize upd H2 T0 (.tup [.int (i : Nat), .ref b]) = H3 at s3
    refine ⟨_, rfl, _, rfl, p1, _, _, _, rfl, rfl, SqL.of (s3 _ _ hf), atI_nat hb0, _, rfl, b0, b, _, g, rfl, (hb0T.same s3).f, (hbT.same s3).f, g2.2.1.mono (by omega), g2.2.2.mono (by omega), g1.2.1.mono (by omega), g1.2.2.mono (by omega), _, rfl, ?_⟩
    have e : (dVars d).zipIdx[i]? = some (g, i) := by rw [List.getElem?_zipIdx, hg]; simp
    have st : wAt (dVars d) ((dVars d).zipIdx.take (i + 1)) = if Kxd5.isLess ((dVars d).getD (wAt (dVars d) ((dVars d).zipIdx.take i)) ⟨0, 1⟩) g = true then i else wAt (dVars d) ((dVars d).zipIdx.take i) := by
      unfold wAt
      rw [foldl_take _ 0 e]
    cases hl : Kxd5.isLess ((dVars d).getD (wAt (dVars d) ((dVars d).zipIdx.take i)) ⟨0, 1⟩) g with
    | true =>
      rw [hl, if_pos rfl] at st
      refine ⟨_, rfl, some (.int (i : Nat)), some (.ref b), ?_, s3⟩
      rw [st]
      rfl
    | false =>
      rw [hl, if_neg Bool.false_ne_true] at st
      refine ⟨some (.int (i : Nat)), some (.ref b), ?_, s3⟩
      rw [st]
      rfl
  · rintro σ H2 ⟨v1, v2, rfl, s2⟩
    have ew : wAt (dVars d) ((dVars d).zipIdx.take (fas.map V.ref).length) = dWorst d := by
      rw [List.take_of_length_le (by rw [List.length_map, hfs.length, List.length_zipIdx]; exact Nat.le_refl _)]
      rfl
    rw [ew]
    have lt : dWorst d < (dVars d).length := by
      have := wAt_lt ne (fas.map V.ref).length
      rw [ew] at this
      exact this
    obtain ⟨b0, hb0, hb0T⟩ := gl _ lt
    refine ⟨_, rfl, _, rfl, _, rfl, p1, _, _, _, rfl, rfl, SqL.of (s2 _ _ hf), atI_nat hb0, by show 2 ≤ sizeLine; decide, fun t ht => ?_⟩
    exact q z _ t b0 ((s1.trans s2).trans (sUp ht)) upd_same ((hb0T.same s2).same (sUp ht))
abbrev s_power : Stmt := top 26
abbrev sl_power : List Str := ["number", "many", "found", "turn"]
theorem sc_power : FnScope sl_power ["number", "many"] (defScope s_power) := ⟨rfl, rfl, rfl, by decide +kernel, rfl, by decide +kernel, by decide +kernel⟩
theorem ok_power {f : Addr} {fd : FuncData} (F : Fun K "power" "power" s_power f fd) (T : Txt K mg D E R N L) : FnOk P w K mg base CX0 1 f fd ["number", "many"] spPower := by
  refine F.ok sc_power (fun vs H Q E h => ?_) (fun cdv A outer s H vs Q E hr h => ⟨_, (pss_cons (ps_set (i := 2) sc_power.nd rfl (by first | exact Or.inl rfl | exact Or.inr rfl) pe_int)
      (pss_cons (ps_for PassesOwn.never rfl (pi_range1 (by rfl) T.n_range (pa_cons (pv 1) pa_nil)) (pg_name (i := 3) sc_power.nd rfl (by first | exact Or.inl rfl | exact Or.inr rfl))
      (pss_one (ps_set (i := 2) sc_power.nd rfl (by first | exact Or.inl rfl | exact Or.inr rfl) (pe_op op_mulW (pv 2) (pv 0)))))
      (pss_one (ps_ret (pv 2))))), ?_⟩)
  · obtain ⟨_, _, rfl, _⟩ := h; rfl
  obtain ⟨x, k, rfl, hk, bx, q⟩ := h
  refine ⟨_, rfl, (k : Int), rfl, by omega, by omega, for_it walk_range0 (fun i σ H' => H' = H ∧ ∃ v1 : Option V, σ = [some (.int x), some (.int k), some (.int (x ^ i)), v1] ∧ Bn (1000 * i) (x ^ i))
    ⟨rfl, none, by rw [Int.pow_zero]; rfl, by rw [Int.pow_zero]; exact Bn.one⟩ (fun _ _ _ _ _ => trivial) ?_ ?_⟩
  · rintro i y σ H1 H2 hi ⟨rfl, v1, rfl, b⟩ ⟨rfl, rfl⟩
    have hin : i < k := hi
    refine ⟨_, rfl, _, rfl, _, _, rfl, rfl, b.cm bx (by omega), rfl, some (.int (i : Nat)), ?_, ?_⟩
    · rw [Int.pow_succ]; rfl
    · rw [Int.pow_succ]; exact (b.mul bx).mono (by omega)
  · rintro σ H1 ⟨rfl, v1, rfl, b⟩
    exact ⟨_, rfl, q⟩
abbrev s_Design_bound : Stmt := inClass (top 25) 9
abbrev sl_Design_bound : List Str := ["self", "size", "above", "below"]
theorem sc_Design_bound : FnScope sl_Design_bound ["self", "size"] (defScope s_Design_bound) := ⟨rfl, rfl, rfl, by decide +kernel, rfl, by decide +kernel, by decide +kernel⟩
theorem ok_Design_bound {f : Addr} {fd : FuncData} (F : Fun K "bound" "Design.bound" s_Design_bound f fd) (T : Txt K mg D E R N L) (c_power : Cal P w K mg base CX0 1 "power" ["number", "many"] spPower)
    (c_worth : Mal P w K mg base CX0 7 D "worth" ["self"] (spWorth D)) (c_worst : Mal P w K mg base (L2.CX P w) 11 D "worst" ["self"] (spWorst D N)) : FnOk P w K mg base (L2.CX P w) 13 f fd ["self", "size"] (spBound D N) := by
  refine F.okX sc_Design_bound (fun vs H Q E h => ?_) (fun cdv A outer s H vs Q E hr h => ⟨_, (pss_cons (ps_asg (pe_ix ix_tup (pe_mal0 (pv 0) T.clD c_worst (hr.mono (by decide)) (passes_call (takes_of rfl rfl rfl rfl) (fun _ _ _ _ h => h))) pe_int (fun _ _ => rfl)) (pg_tup (by rfl) (pgs_cons (pg_name (i := 2) sc_Design_bound.nd rfl (by first | exact Or.inl rfl | exact Or.inr rfl)) (pgs_cons (pg_name (i := 3) sc_Design_bound.nd rfl (by first | exact Or.inl rfl | exact Or.inr rfl)) pgs_nil))))
      (pss_one (ps_ret (pe_op op_fdivW (pe_op op_mulW (pe_mal0 (pv 0) T.clD c_worth (hr.mono (by decide)) pass0) (pe_cal c_power (hr.mono (by decide)) pass0 (pa_cons (pe_op op_mulW (pv 1) (pv 2)) (pa_cons (pe_fld (pv 0) rfl) pa_nil)))) (pe_cal c_power (hr.mono (by decide)) pass0 (pa_cons (pe_op op_mulW (pv 3) (pe_fld (pv 0) rfl)) (pa_cons (pe_fld (pv 0) rfl) pa_nil))))))), ?_⟩)
  · obtain ⟨_, _, _, rfl, _⟩ := h; rfl
  obtain ⟨a, d, sz, rfl, hh, wf, hs, qE, q⟩ := h
  obtain ⟨dx, r, c, hD⟩ := id hh
  have nm : ∀ {m : Str}, (m == ("columns" : Str)) = false → (m == ("rows" : Str)) = false → (m == ("counts" : Str)) = false → (dF d.n r c).lookup m = none := fun h1 h2 h3 => dF_no h1 h2 h3
  refine ⟨_, rfl, a, dx, _, rfl, hD.at_, nm (by decide +kernel) (by decide +kernel) (by decide +kernel), a, d, rfl, hh, wf, qE, fun z H1 p1 q1 s1 hp1 hq1 => ?_⟩
  have wb := wf.worst z
  refine ⟨p1, _, 1, _, rfl, rfl, SqT.of hp1, atI_nat (j := 1) rfl, ?_⟩
  refine ⟨q1, _, rfl, SqT.of hq1, rfl, _, _, rfl, _, _, rfl, rfl, ?_⟩
  have hD1 := hD.same s1
  refine ⟨_, rfl, a, dx, _, rfl, hD1.at_, nm (by decide +kernel) (by decide +kernel) (by decide +kernel), a, d, rfl, hh.same s1, wf, fun H2 s2 => ?_⟩
  have hD2 := hD1.same s2
  have b1 : Bn 200 ((sz : Int) * (dWorstF d).numerator) := ((bn_of_le (x := (sz : Int)) (n := 7) (k := 100) (by omega) (by decide)).mul wb.2.1).mono (by omega)
  have b2 : Bn 200 (((dWorstF d).denominator : Int) * (d.n : Int)) := (wb.2.2.mul (bn_of_le (x := (d.n : Int)) (n := 2) (k := 4) (by have := wf.n4; omega) (by decide))).mono (by omega)
  have pw_bn : ∀ {x : Int}, Bn 200 x → ∀ k, Bn (200 * k) (x ^ k) := fun {x} hx k => by
    induction k with
    | zero => rw [Int.pow_zero]; exact Bn.one
    | succ k ih => rw [Int.pow_succ]; exact (ih.mul hx).mono (by omega)
  have n4 := wf.n4
  refine ⟨_, rfl, _, rfl, _, _, rfl, rfl, (bn_of_le (x := (sz : Int)) (n := 7) (k := 100) (by omega) (by decide)).cm wb.2.1 (by omega), _, rfl, a, D, dx, _, _, rfl, hD2.at_, T.clD, T.dc, dF_c, ?_⟩
  refine ⟨_, d.n, rfl, n4, b1.mono (by omega), _, _, rfl, rfl, wf.bd.cm (pw_bn b1 d.n) (by omega), ?_⟩
  refine ⟨_, rfl, _, rfl, a, D, dx, _, _, rfl, hD2.at_, T.clD, T.dc, dF_c, _, _, rfl, rfl, wb.2.2.cm (bn_of_le (x := (d.n : Int)) (n := 2) (k := 4) (by omega) (by decide)) (by omega), _, rfl, a, D, dx, _, _, rfl, hD2.at_, T.clD, T.dc, dF_c, ?_⟩
  refine ⟨_, d.n, rfl, n4, b2.mono (by omega), _, _, rfl, rfl, ?_, q z _ (s1.trans s2)⟩
  exact (pw_bn b2 d.n).cd (Int.pow_pos (Int.mul_pos (by have := wb.1; omega) (by have := wf.n1; omega))) (by omega)
abbrev s_stepped : Stmt := top 27
abbrev sl_stepped : List Str := ["counts", "at", "by"]
theorem sc_stepped : FnScope sl_stepped ["counts", "at", "by"] (defScope s_stepped) := ⟨rfl, rfl, rfl, by decide +kernel, rfl, by decide +kernel, by decide +kernel⟩
theorem ok_stepped {f : Addr} {fd : FuncData} (F : Fun K "stepped" "stepped" s_stepped f fd) (T : Txt K mg D E R N L) : FnOk P w K mg base CX0 1 f fd ["counts", "at", "by"] spStepped := by
  refine F.ok sc_stepped (fun vs H Q E h => ?_) (fun cdv A outer s H vs Q E hr h => ⟨_, (pss_one (ps_ret (pe_op op_cat (pe_op op_cat (pe_slice sl_list (pv 0) po_none (po_some (pv 1))) (pe_lst (pa_cons (pe_op op_add (pe_ix ix_list (pv 0) (pv 1) (fun _ _ => rfl)) (pv 2)) pa_nil))) (pe_slice sl_list (pv 0) (po_some (pe_op op_add (pv 1) pe_int)) po_none)))), ?_⟩)
  · obtain ⟨_, _, _, _, rfl, _⟩ := h; rfl
  obtain ⟨c, cs, i, t, rfl, hc, hi, hl, q⟩ := h
  refine ⟨_, rfl, _, rfl, _, rfl, c, vI cs, rfl, SqL.of hc, fun p1 hp1 => ?_⟩
  rw [cut_to, vI_take]
  have s1 : Same H (upd H p1 (.lst (vI (cs.take i)))) := sUp hp1
  have e1 : upd H p1 (.lst (vI (cs.take i))) p1 = some (.lst (vI (cs.take i))) := upd_same
  generalize upd H p1 (.lst (vI (cs.take i))) = H1 at s1 e1
  have hv : (vI cs)[i]? = some (.int (cs.getD i 0)) := by rw [List.getElem?_map, getD_some hi]; rfl
  refine ⟨_, rfl, _, rfl, c, _, _, _, rfl, rfl, SqL.of (s1 _ _ hc), atI_nat hv, _, rfl, _, _, rfl, rfl, by show 1 ≤ sizeLine; decide, fun p2 hp2 => ?_⟩
  have s2 : Same H1 (upd H1 p2 (.lst [.int (cs.getD i 0 + t)])) := sUp hp2
  have e2 : upd H1 p2 (.lst [.int (cs.getD i 0 + t)]) p2 = some (.lst (vI [cs.getD i 0 + t])) := upd_same
  refine ⟨p1, p2, _, _, rfl, rfl, s2 _ _ e1, e2, ?_, fun p3 hp3 => ?_⟩
  · exact small2 (by simp only [List.length_map, List.length_take, List.length_cons, List.length_nil]; omega)
  generalize upd H1 p2 (.lst [.int (cs.getD i 0 + t)]) = H2 at s2 e2 hp3
  have s3 : Same H2 (upd H2 p3 (.lst (vI (cs.take i) ++ vI [cs.getD i 0 + t]))) := sUp hp3
  have e3 : upd H2 p3 (.lst (vI (cs.take i) ++ vI [cs.getD i 0 + t])) p3 = some (.lst (vI (cs.take i) ++ vI [cs.getD i 0 + t])) := upd_same
  generalize upd H2 p3 (.lst (vI (cs.take i) ++ vI [cs.getD i 0 + t])) = H3 at s3 e3
  have s03 : Same H H3 := s1.trans (s2.trans s3)
  refine ⟨_, rfl, _, rfl, _, _, rfl, rfl, _, rfl, c, vI cs, rfl, SqL.of (s03 _ _ hc), fun p4 hp4 => ?_⟩
  rw [show ((i : Int) + 1) = ((i + 1 : Nat) : Int) from rfl, cut_from, vI_drop]
  have s4 : Same H3 (upd H3 p4 (.lst (vI (cs.drop (i + 1))))) := sUp hp4
  refine ⟨p3, p4, _, _, rfl, rfl, s4 _ _ e3, upd_same, ?_, fun p5 hp5 => ?_⟩
  · exact small2 (by simp only [List.length_append, List.length_map, List.length_take, List.length_drop, List.length_cons, List.length_nil]; omega)
  refine q _ _ (s03.trans (s4.trans (sUp hp5))) (upd_same.trans ?_)
  have e : stepC cs i t = cs.take i ++ [cs.getD i 0 + t] ++ cs.drop (i + 1) := by
    unfold stepC
    rw [List.set_eq_take_append_cons_drop, if_pos hi]
    simp
  rw [e]
  simp
abbrev s_exchanged : Stmt := top 29
abbrev sl_exchanged : List Str := ["design", "exchange"]
theorem sc_exchanged : FnScope sl_exchanged ["design", "exchange"] (defScope s_exchanged) := ⟨rfl, rfl, rfl, by decide +kernel, rfl, by decide +kernel, by decide +kernel⟩
theorem ok_exchanged {f : Addr} {fd : FuncData} (F : Fun K "exchanged" "exchanged" s_exchanged f fd) (T : Txt K mg D E R N L) (c_stepped : Cal P w K mg base CX0 1 "stepped" ["counts", "at", "by"] spStepped)
    (c_with_counts : Mal P w K mg base CX0 3 D "with_counts" ["self", "counts"] (spWith D)) : FnOk P w K mg base CX0 4 f fd ["design", "exchange"] (spExchanged D) := by
  refine F.ok sc_exchanged (fun vs H Q E h => ?_) (fun cdv A outer s H vs Q E hr h => ⟨_, (pss_one (ps_ret (pe_mal (pv 0) T.clD c_with_counts (hr.mono (by decide)) pass0 (pa_cons (pe_cal c_stepped (hr.mono (by decide)) pass0 (pa_cons (pe_cal c_stepped (hr.mono (by decide)) pass0 (pa_cons (pe_fld (pv 0) rfl) (pa_cons (pe_ix ix_tup (pv 1) pe_int (fun _ _ => rfl)) (pa_cons (pe_un un_neg pe_int) pa_nil)))) (pa_cons (pe_ix ix_tup (pv 1) pe_int (fun _ _ => rfl)) (pa_cons pe_int pa_nil)))) pa_nil)))), ?_⟩)
  · obtain ⟨_, _, _, _, _, _, rfl, _⟩ := h; rfl
  obtain ⟨a, t, d, i, j, x, rfl, hh, wf, ht, hi, hj, q⟩ := h
  obtain ⟨dx, r, c, hD⟩ := id hh
  have l10 : d.cs.length ≤ 20 := by have := wf.cl; have := wf.rk; omega
  refine ⟨_, rfl, a, dx, _, rfl, hD.at_, dF_no (by decide +kernel) (by decide +kernel) (by decide +kernel), _, rfl, a, D, dx, _, _, rfl, hD.at_, T.clD, T.dn, dF_n, _, rfl, t, _, 0, _, rfl, rfl, SqT.of ht, atI_nat (j := 0) rfl, ?_⟩
  refine ⟨1, rfl, c, d.cs, i, -1, rfl, hD.cs, hi, l10, fun H1 p1 s1 hp1 => ?_⟩
  have lc : (stepC d.cs i (-1)).length = d.cs.length := by simp [stepC]
  refine ⟨_, rfl, t, _, 1, _, rfl, rfl, SqT.of (s1 _ _ ht), atI_nat (j := 1) rfl, p1, stepC d.cs i (-1), j, 1, rfl, hp1, by rw [lc]; exact hj, by rw [lc]; exact l10, fun H2 p2 s2 hp2 => ?_⟩
  exact ⟨a, p2, d, _, rfl, hh.same (s1.trans s2), hp2, fun H3 p3 s3 hn d3 => q _ _ (s1.trans (s2.trans s3)) ((s1.trans s2).free hn) d3⟩
abbrev s_best_exchange : Stmt := top 28
abbrev sl_best_exchange : List Str := ["design", "found", "most", "matrix", "one", "count", "less", "other", "there", "here"]
theorem sc_best_exchange : FnScope sl_best_exchange ["design"] (defScope s_best_exchange) := ⟨rfl, rfl, rfl, by decide +kernel, rfl, by decide +kernel, by decide +kernel⟩
theorem ok_best_exchange {f : Addr} {fd : FuncData} (F : Fun K "best_exchange" "best_exchange" s_best_exchange f fd) (T : Txt K mg D E R N L) (c_moved : Cal P w K mg base CX0 1 "moved" ["matrix", "row", "by"] spMoved)
    (c_determinant : Cal P w K mg base CX0 6 "determinant" ["matrix"] (spDet 5)) (c_matrix : Mal P w K mg base CX0 3 D "matrix" ["self"] (spMatrix D)) (c_worth : Mal P w K mg base CX0 7 D "worth" ["self"] (spWorth D)) :
    FnOk P w K mg base CX0 9 f fd ["design"] (spBestEx D) := by
  refine F.ok sc_best_exchange (fun vs H Q E h => ?_) (fun cdv A outer s H vs Q E hr h => ⟨_, (pss_cons (ps_par3 (i := 1) (j := 2) (l := 3) rfl sc_best_exchange.nd rfl rfl rfl (by decide) (by decide) (by decide) rfl rfl rfl (pa_cons pe_non (pa_cons (pe_mal0 (pv 0) T.clD c_worth (hr.mono (by decide)) pass0) (pa_cons (pe_mal0 (pv 0) T.clD c_matrix (hr.mono (by decide)) pass0) pa_nil))) (by rfl))
      (pss_cons (ps_for PassesOwn.never rfl (pi_enum (by rfl) T.n_enumerate (pa_cons (pe_fld (pv 0) rfl) pa_nil)) (pg_tup (by rfl) (pgs_cons (pg_name (i := 4) sc_best_exchange.nd rfl (by first | exact Or.inl rfl | exact Or.inr rfl)) (pgs_cons (pg_name (i := 5) sc_best_exchange.nd rfl (by first | exact Or.inl rfl | exact Or.inr rfl)) pgs_nil)))
      (pss_one (ps_if (pt_cmpR op_gt (pv 5) pe_int (nomark _)) (pss_cons (ps_set (i := 6) sc_best_exchange.nd rfl (by first | exact Or.inl rfl | exact Or.inr rfl) (pe_cal c_moved (hr.mono (by decide)) pass0 (pa_cons (pv 3) (pa_cons (pe_ix ix_list (pe_fld (pv 0) rfl) (pv 4) (fun _ _ => rfl)) (pa_cons (pe_un un_neg pe_int) pa_nil)))))
      (pss_one (ps_for PassesOwn.never rfl (pi_enum (by rfl) T.n_enumerate (pa_cons (pe_fld (pv 0) rfl) pa_nil)) (pg_tup (by rfl) (pgs_cons (pg_name (i := 7) sc_best_exchange.nd rfl (by first | exact Or.inl rfl | exact Or.inr rfl)) (pgs_cons (pg_name (i := 8) sc_best_exchange.nd rfl (by first | exact Or.inl rfl | exact Or.inr rfl)) pgs_nil)))
      (pss_one (ps_if (PW.pt (pw_and (pt_cmpR op_ne (pv 7) (pv 4) (nomark _)) (pw_and1 (pt_cmpR op_lt (pv 8) (pe_gi T.i_MOST_COUNT) (nomark _))))) (pss_cons (ps_set (i := 9) sc_best_exchange.nd rfl (by first | exact Or.inl rfl | exact Or.inr rfl) (pe_cal c_determinant (hr.mono (by decide)) pass0 (pa_cons (pe_cal c_moved (hr.mono (by decide)) pass0 (pa_cons (pv 6) (pa_cons (pe_ix ix_list (pe_fld (pv 0) rfl) (pv 7) (fun _ _ => rfl)) (pa_cons pe_int pa_nil)))) pa_nil)))
      (pss_one (ps_if (pt_cmpR op_gt (pv 9) (pv 2) (nomark _)) (pss_one (ps_par (i := 1) (j := 2) rfl sc_best_exchange.nd rfl rfl (by decide) rfl rfl (pa_cons (pe_tup (pa_cons (pv 4) (pa_cons (pv 7) (pa_cons (pv 9) pa_nil)))) (pa_cons (pv 9) pa_nil)) (by rfl))) pss_nil))) pss_nil))))) pss_nil)))
      (pss_one (ps_ret (pv 1))))), ?_⟩)
  · obtain ⟨_, _, rfl, _⟩ := h; rfl
  obtain ⟨a, d, rfl, hh, wf, q⟩ := h
  obtain ⟨dx, r, c, hD⟩ := id hh
  have n4 := wf.n4
  have hm := wf.mat
  refine ⟨_, rfl, a, dx, _, rfl, hD.at_, dF_no (by decide +kernel) (by decide +kernel) (by decide +kernel), a, d, rfl, hh, wf, fun H1 s1 => ?_⟩
  refine ⟨_, rfl, a, dx, _, rfl, (hD.same s1).at_, dF_no (by decide +kernel) (by decide +kernel) (by decide +kernel), a, d, rfl, hh.same s1, wf, fun H2 pm s2 m2 => ?_⟩
  refine ⟨_, _, _, rfl, ?_⟩
  have s02 : Same H H2 := s1.trans s2
  have hD2 := hD.same s02
  refine ⟨_, rfl, a, D, dx, _, _, rfl, hD2.at_, T.clD, T.dn, dF_n, c, vI d.cs, rfl, SqL.of hD2.cs, for_it (walk_enum (xs := vI d.cs))
    (fun i σ H' => ∃ (vf : V) (v1 v2 v3 v4 v5 v6 : Option V), σ = [some (.ref a), some vf, some (.int (((List.range d.cs.length).take i).foldl (bxRow d) (none, det d.mat)).2), some (.ref pm), v1, v2, v3, v4, v5, v6] ∧ Same H2 H' ∧
      FoundAt H' vf (((List.range d.cs.length).take i).foldl (bxRow d) (none, det d.mat)).1)
    ⟨_, none, none, none, none, none, none, rfl, Same.refl _, rfl⟩ (fun i σ H' _ h => ?_) ?_ ?_⟩
  · obtain ⟨_, _, _, _, _, _, _, _, s3, _⟩ := h
    exact SqL.of (s3 _ _ hD2.cs)
  · rintro i x σ H3 H4 hi ⟨vf, v1, v2, v3, v4, v5, v6, rfl, s3, hf⟩ ⟨T0, x1, y1, rfl, hT, rfl, hx, hy⟩
    obtain rfl : x1 = .int (i : Nat) := (Option.some.inj hx).symm
    obtain ⟨k, hk, rfl⟩ := map_get hy
    have hin : i < d.cs.length := by simpa using hi
    have ek : d.cs.getD i 0 = k := by rw [List.getD_eq_getElem?_getD, hk]; rfl
    have hrange := foldl_take (bxRow d) (none, det d.mat) (l := List.range d.cs.length) (i := i) (x := i) (List.getElem?_range hin)
    generalize hb0 : ((List.range d.cs.length).take i).foldl (bxRow d) (none, det d.mat) = b0 at hf hrange
    refine ⟨T0, _, rfl, SqT.of upd_same, rfl, _, _, rfl, _, _, rfl, rfl, ?_⟩
    have s4 : Same H2 (upd H3 T0 (.tup [.int (i : Nat), .int k])) := sUps s3 (s3.free hT)
    have hf4 := hf.same (sUp (o := .tup [.int (i : Nat), .int k]) hT)
    generalize upd H3 T0 (.tup [.int (i : Nat), .int k]) = H4 at s4 hf4
    refine ⟨_, rfl, _, _, rfl, rfl, _, rfl, ?_⟩
    refine ifB (fun cpos => ?_) (fun cpos => ?_)
    · have hir : i < d.rows.length := by rw [← wf.cl]; exact hin
      have rm : d.rows.getD i [] ∈ d.rows := getD_mem hir
      have hD4 := hD2.same s4
      obtain ⟨ras, hr2, hrR⟩ := hD4.rows
      obtain ⟨ra, hra, hraH⟩ := hrR.get (getD_some (a := []) hir)
      have hra2 : (ras.map V.ref)[i]? = some (.ref ra) := by rw [List.getElem?_map, hra]; rfl
      have rl := wf.rl _ rm
      have rb : ∀ x ∈ d.rows.getD i [], Bn 4000 x := fun x hx => (bn_of_le (n := 4) (wf.re _ rm x hx) (by decide)).mono (by omega)
      have e1 := wf.swap_eb rm (t := -1) (by decide)
      have mv1 : IsMat d.n (moved d.mat (d.rows.getD i []) (-1)) := moved_isMat hm rl
      refine ⟨_, rfl, _, rfl, a, D, dx, _, _, rfl, hD4.at_, T.clD, T.dr, dF_r, _, rfl, r, _, _, _, rfl, rfl, SqL.of hr2, atI_nat hra2, 1, rfl, ?_⟩
      refine ⟨pm, ra, -1, d.mat, d.rows.getD i [], rfl, m2.same s4, hraH, by rw [hm.len, rl], fun l hl => by rw [hm.row l hl, rl], by omega, bn_of_le (n := 0) (k := 1) (by decide) (by decide) |>.mono (by omega), rb, fun H5 p5 s5 m5 => ?_⟩
      have s25 : Same H2 H5 := s4.trans s5
      have hD5 := hD2.same s25
      refine ⟨_, rfl, a, D, dx, _, _, rfl, hD5.at_, T.clD, T.dn, dF_n, c, vI d.cs, rfl, SqL.of hD5.cs, for_it (walk_enum (xs := vI d.cs))
        (fun j σ H' => ∃ (vf : V) (v4 v5 v6 : Option V), σ = [some (.ref a), some vf, some (.int (((List.range d.cs.length).take j).foldl (bxStep d i) b0).2), some (.ref pm), some (.int (i : Nat)), some (.int k), some (.ref p5), v4, v5, v6] ∧ Same H5 H' ∧
          FoundAt H' vf (((List.range d.cs.length).take j).foldl (bxStep d i) b0).1)
        ⟨vf, v4, v5, v6, rfl, Same.refl _, hf4.same s5⟩ (fun j σ H' _ h => ?_) ?_ ?_⟩
      · obtain ⟨_, _, _, _, _, s6, _⟩ := h
        exact SqL.of (s6 _ _ hD5.cs)
      · rintro j x σ H6 H7 hj ⟨vf, v4, v5, v6, rfl, s6, hf6⟩ ⟨T1, x1, y1, rfl, hT1, rfl, hx1, hy1⟩
        obtain rfl : x1 = .int (j : Nat) := (Option.some.inj hx1).symm
        obtain ⟨k2, hk2, rfl⟩ := map_get hy1
        have hjn : j < d.cs.length := by simpa using hj
        have ek2 : d.cs.getD j 0 = k2 := by rw [List.getD_eq_getElem?_getD, hk2]; rfl
        have hr2 := foldl_take (bxStep d i) b0 (l := List.range d.cs.length) (i := j) (x := j) (List.getElem?_range hjn)
        generalize hb1 : ((List.range d.cs.length).take j).foldl (bxStep d i) b0 = b1 at hf6 hr2
        refine ⟨T1, _, rfl, SqT.of upd_same, rfl, _, _, rfl, _, _, rfl, rfl, ?_⟩
        have s7 : Same H5 (upd H6 T1 (.tup [.int (j : Nat), .int k2])) := sUps s6 (s6.free hT1)
        have hf7 := hf6.same (sUp (o := .tup [.int (j : Nat), .int k2]) hT1)
        generalize upd H6 T1 (.tup [.int (j : Nat), .int k2]) = H7 at s7 hf7
        refine ⟨_, rfl, _, rfl, rfl, _, rfl, ?_⟩
        by_cases cne : j = i
        · refine ifNF (congrArg V.int (by rw [cne])) ?_
          refine ⟨vf, some (.int (j : Nat)), some (.int k2), v6, ?_, s7, ?_⟩
          · rw [hr2]; unfold bxStep; rw [if_neg (by simp [cne])]; rfl
          · rw [hr2]; unfold bxStep; rw [if_neg (by simp [cne])]; exact hf7
        · refine ifNT (fun z => cne (Int.ofNat.inj (V.int.inj z))) ?_
          refine ⟨_, rfl, _, _, rfl, rfl, _, rfl, ?_⟩
          refine ifB (fun clt => ?_) (fun clt => ?_)
          · have hjr : j < d.rows.length := by rw [← wf.cl]; exact hjn
            have rm2 : d.rows.getD j [] ∈ d.rows := getD_mem hjr
            have hD7 := hD5.same s7
            obtain ⟨ras2, hr3, hrR2⟩ := hD7.rows
            obtain ⟨ra2, hra3, hraH2⟩ := hrR2.get (getD_some (a := []) hjr)
            have hra4 : (ras2.map V.ref)[j]? = some (.ref ra2) := by rw [List.getElem?_map, hra3]; rfl
            have rl2 := wf.rl _ rm2
            have rb2 : ∀ x ∈ d.rows.getD j [], Bn 4000 x := fun x hx => (bn_of_le (n := 4) (wf.re _ rm2 x hx) (by decide)).mono (by omega)
            have e2 : EB 20 (moved (moved d.mat (d.rows.getD i []) (-1)) (d.rows.getD j []) 1) := ((moved_ev e1 (wf.re _ rm2) (k := 1) (by decide)).mono (b := 20200) (by omega)).eb (by decide)
            have mv2 : IsMat d.n (moved (moved d.mat (d.rows.getD i []) (-1)) (d.rows.getD j []) 1) := moved_isMat mv1 rl2
            refine ⟨_, rfl, _, rfl, a, D, dx, _, _, rfl, hD7.at_, T.clD, T.dr, dF_r, _, rfl, r, _, _, _, rfl, rfl, SqL.of hr3, atI_nat hra4, ?_⟩
            refine ⟨p5, ra2, 1, _, d.rows.getD j [], rfl, m5.same s7, hraH2, by rw [mv1.len, rl2], fun l hl => by rw [mv1.row l hl, rl2], by omega, Bn.one, rb2, fun H8 p8 s8 m8 => ?_⟩
            refine ⟨p8, _, 20, rfl, m8, by rw [mv2.len]; exact mv2, by rw [mv2.len]; omega, by rw [mv2.len]; omega, e2, by omega, fun H9 s9 => ?_⟩
            have s79 : Same H7 H9 := s8.trans s9
            have cond : j ≠ i ∧ d.cs.getD j 0 < 20 := ⟨cne, by rw [ek2]; exact clt⟩
            refine ⟨_, rfl, _, rfl, _, _, rfl, rfl, _, rfl, ?_⟩
            refine ifB (fun cgt => ?_) (fun cgt => ?_)
            · have eb : bxStep d i b1 j = (some (i, j, swapV d i j), swapV d i j) := by
                unfold bxStep
                rw [if_pos cond]
                exact if_pos cgt
              refine ⟨_, rfl, _, rfl, _, rfl, by show 3 ≤ sizeLine; decide, fun t ht => ⟨_, rfl, _, _, rfl, ?_⟩⟩
              refine ⟨.ref t, some (.int (j : Nat)), some (.int k2), some (.int (swapV d i j)), ?_, (s7.trans s79).trans (sUp ht), ?_⟩
              rotate_left
              · rw [hr2, eb]
                exact ⟨t, rfl, upd_same⟩
              · rw [hr2, eb]
                rfl
            · have eb : bxStep d i b1 j = b1 := by
                unfold bxStep
                rw [if_pos cond]
                exact if_neg cgt
              refine ⟨vf, some (.int (j : Nat)), some (.int k2), some (.int (swapV d i j)), ?_, s7.trans s79, ?_⟩
              · rw [hr2, eb]; rfl
              · rw [hr2, eb]; exact hf7.same s79
          · have eb : bxStep d i b1 j = b1 := by
              unfold bxStep
              rw [if_neg (fun z => clt (by rw [← ek2]; exact z.2))]
            refine ⟨vf, some (.int (j : Nat)), some (.int k2), v6, ?_, s7, ?_⟩
            · rw [hr2, eb]; rfl
            · rw [hr2, eb]; exact hf7
      · rintro σ H6 ⟨vf, v4, v5, v6, rfl, s6, hf6⟩
        have et : (List.range d.cs.length).take (vI d.cs).length = List.range d.cs.length := List.take_of_length_le (by simp)
        rw [et] at hf6
        have eb : bxRow d b0 i = (List.range d.cs.length).foldl (bxStep d i) b0 := by
          unfold bxRow
          rw [if_pos (by rw [ek]; exact cpos)]
        refine ⟨vf, some (.int (i : Nat)), some (.int k), some (.ref p5), v4, v5, v6, ?_, s25.trans s6, ?_⟩
        · rw [hrange, eb, et]
        · rw [hrange, eb]; exact hf6
    · have eb : bxRow d b0 i = b0 := by
        unfold bxRow
        rw [if_neg (by rw [ek]; exact cpos)]
      refine ⟨vf, some (.int (i : Nat)), some (.int k), v3, v4, v5, v6, ?_, s4, ?_⟩
      · rw [hrange, eb]; rfl
      · rw [hrange, eb]; exact hf4
  · rintro σ H3 ⟨vf, v1, v2, v3, v4, v5, v6, rfl, s3, hf⟩
    rw [List.take_of_length_le (by simp)] at hf
    exact ⟨_, rfl, q _ _ (s02.trans s3) hf⟩
abbrev s_best_step : Stmt := top 30
abbrev sl_best_step : List Str := ["design", "places", "by", "matrix", "found", "most", "place", "here"]
theorem sc_best_step : FnScope sl_best_step ["design", "places", "by"] (defScope s_best_step) := ⟨rfl, rfl, rfl, by decide +kernel, rfl, by decide +kernel, by decide +kernel⟩
theorem ok_best_step {f : Addr} {fd : FuncData} (F : Fun K "best_step" "best_step" s_best_step f fd) (T : Txt K mg D E R N L) (c_moved : Cal P w K mg base CX0 1 "moved" ["matrix", "row", "by"] spMoved)
    (c_determinant : Cal P w K mg base CX0 6 "determinant" ["matrix"] (spDet 5)) (c_matrix : Mal P w K mg base CX0 3 D "matrix" ["self"] (spMatrix D)) :
    FnOk P w K mg base CX0 9 f fd ["design", "places", "by"] (spBestStep D) := by
  refine F.ok sc_best_step (fun vs H Q E h => ?_) (fun cdv A outer s H vs Q E hr h => ⟨_, (pss_cons (ps_set (i := 3) sc_best_step.nd rfl (by first | exact Or.inl rfl | exact Or.inr rfl) (pe_mal0 (pv 0) T.clD c_matrix (hr.mono (by decide)) pass0))
      (pss_cons (ps_asg (pe_tup (pa_cons pe_non (pa_cons pe_int pa_nil))) (pg_tup (by rfl) (pgs_cons (pg_name (i := 4) sc_best_step.nd rfl (by first | exact Or.inl rfl | exact Or.inr rfl)) (pgs_cons (pg_name (i := 5) sc_best_step.nd rfl (by first | exact Or.inl rfl | exact Or.inr rfl)) pgs_nil))))
      (pss_cons (ps_for PassesOwn.never rfl (pi_list (pv 1)) (pg_name (i := 6) sc_best_step.nd rfl (by first | exact Or.inl rfl | exact Or.inr rfl))
      (pss_cons (ps_set (i := 7) sc_best_step.nd rfl (by first | exact Or.inl rfl | exact Or.inr rfl) (pe_cal c_determinant (hr.mono (by decide)) pass0 (pa_cons (pe_cal c_moved (hr.mono (by decide)) pass0 (pa_cons (pv 3) (pa_cons (pe_ix ix_list (pe_fld (pv 0) rfl) (pv 6) (fun _ _ => rfl)) (pa_cons (pv 2) pa_nil)))) pa_nil)))
      (pss_one (ps_if (PW.pt (pw_or (pt_cmpR op_isN (pv 4) pe_non (nomark _)) (pw_or1 (pt_cmpR op_gt (pv 7) (pv 5) (nomark _))))) (pss_one (ps_par (i := 4) (j := 5) rfl sc_best_step.nd rfl rfl (by decide) rfl rfl (pa_cons (pv 6) (pa_cons (pv 7) pa_nil)) (by rfl))) pss_nil))))
      (pss_one (ps_ret (pe_tup (pa_cons (pv 4) (pa_cons (pv 5) pa_nil)))))))), ?_⟩)
  · obtain ⟨_, _, _, _, _, rfl, _⟩ := h; rfl
  obtain ⟨a, p, d, ps, t, rfl, hh, wf, hp, hps, ht, q⟩ := h
  obtain ⟨dx, r, c, hD⟩ := id hh
  have n4 := wf.n4
  have hm := wf.mat
  refine ⟨_, rfl, a, dx, _, rfl, hD.at_, dF_no (by decide +kernel) (by decide +kernel) (by decide +kernel), a, d, rfl, hh, wf, fun H1 pm s1 m1 => ?_⟩
  refine ⟨by show 2 ≤ sizeLine; decide, fun t0 ht0 => ?_⟩
  refine ⟨t0, _, rfl, SqT.of upd_same, rfl, _, _, rfl, _, _, rfl, rfl, ?_⟩
  have s2 : Same H (upd H1 t0 (.tup [.non, .int 0])) := s1.trans (sUp ht0)
  have m2 := m1.same (sUp (o := .tup [.non, .int 0]) ht0)
  generalize upd H1 t0 (.tup [.non, .int 0]) = H2 at s2 m2
  refine ⟨_, rfl, p, rfl, ⟨_, SqL.of (s2 _ _ hp)⟩, for_it (walk_list (xs := vI (nI ps)))
    (fun i σ H' => ∃ (vf vm : V) (v1 v2 : Option V), σ = [some (.ref a), some (.ref p), some (.int t), some (.ref pm), some vf, some vm, v1, v2] ∧ Same H2 H' ∧
      (match (ps.take i).foldl (stStep d t) none with | none => vf = .non ∧ vm = .int 0 | some (j, x) => vf = .int (j : Int) ∧ vm = .int x))
    ⟨_, _, none, none, rfl, Same.refl _, rfl, rfl⟩ (fun i σ H' _ h => ?_) ?_ ?_⟩
  · obtain ⟨_, _, _, _, _, s3, _⟩ := h
    exact SqL.of (s3 _ _ (s2 _ _ hp))
  · rintro i x σ H3 H4 hi ⟨vf, vm, v1, v2, rfl, s3, hf⟩ ⟨rfl, hx⟩
    obtain ⟨z, hz, rfl⟩ := map_get hx
    obtain ⟨j, hj, rfl⟩ := nI_get hz
    have hjr : j < d.rows.length := hps j (List.mem_of_getElem? hj)
    have hst := foldl_take (stStep d t) none hj
    have rm : d.rows.getD j [] ∈ d.rows := getD_mem hjr
    have hD3 := hD.same (s2.trans s3)
    obtain ⟨ras, hr2, hrR⟩ := hD3.rows
    obtain ⟨ra, hra, hraH⟩ := hrR.get (getD_some (a := []) hjr)
    have hra2 : (ras.map V.ref)[j]? = some (.ref ra) := by rw [List.getElem?_map, hra]; rfl
    have rl := wf.rl _ rm
    have rb : ∀ x ∈ d.rows.getD j [], Bn 4000 x := fun x hx => (bn_of_le (n := 4) (wf.re _ rm x hx) (by decide)).mono (by omega)
    have e1 : EB 20 (moved d.mat (d.rows.getD j []) t) := (wf.swap_eb rm ht).eb (by decide)
    have mv : IsMat d.n (moved d.mat (d.rows.getD j []) t) := moved_isMat hm rl
    refine ⟨_, rfl, _, rfl, a, D, dx, _, _, rfl, hD3.at_, T.clD, T.dr, dF_r, _, rfl, r, _, _, _, rfl, rfl, SqL.of hr2, atI_nat hra2, _, rfl, ?_⟩
    refine ⟨pm, ra, t, d.mat, d.rows.getD j [], rfl, m2.same s3, hraH, by rw [hm.len, rl], fun l hl => by rw [hm.row l hl, rl], by omega, (bn_of_le (n := 0) ht (by decide)).mono (by omega), rb, fun H5 p5 s5 m5 => ?_⟩
    refine ⟨p5, _, 20, rfl, m5, by rw [mv.len]; exact mv, by rw [mv.len]; omega, by rw [mv.len]; omega, e1, by omega, fun H6 s6 => ?_⟩
    have s36 := s3.trans (s5.trans s6)
    cases hb : (ps.take i).foldl (stStep d t) none with
    | none =>
      rw [hb] at hf hst
      obtain ⟨rfl, rfl⟩ := hf
      refine ⟨_, rfl, rfl, _, rfl, ?_⟩
      refine ⟨_, rfl, _, rfl, _, _, rfl, ?_⟩
      refine ⟨.int (j : Int), .int (oneV d t j), some (.int (j : Int)), some (.int (oneV d t j)), rfl, s36, ?_⟩
      rw [hst]
      exact ⟨rfl, rfl⟩
    | some b =>
      obtain ⟨q0, m0⟩ := b
      rw [hb] at hf hst
      obtain ⟨rfl, rfl⟩ := hf
      refine ⟨_, rfl, rfl, _, rfl, ?_⟩
      refine ⟨_, rfl, _, rfl, _, _, rfl, rfl, _, rfl, ?_⟩
      refine ifB (fun cgt => ?_) (fun cgt => ?_)
      · refine ⟨_, rfl, _, rfl, _, _, rfl, ?_⟩
        refine ⟨.int (j : Int), .int (oneV d t j), some (.int (j : Int)), some (.int (oneV d t j)), rfl, s36, ?_⟩
        have e : stStep d t (some (q0, m0)) j = some (j, oneV d t j) := if_pos cgt
        rw [hst, e]
        exact ⟨rfl, rfl⟩
      · refine ⟨.int (q0 : Int), .int m0, some (.int (j : Int)), some (.int (oneV d t j)), rfl, s36, ?_⟩
        have e : stStep d t (some (q0, m0)) j = some (q0, m0) := if_neg cgt
        rw [hst, e]
        exact ⟨rfl, rfl⟩
  · rintro σ H3 ⟨vf, vm, v1, v2, rfl, s3, hf⟩
    rw [List.take_of_length_le (by simp [nI])] at hf
    refine ⟨_, rfl, _, rfl, by show 2 ≤ sizeLine; decide, fun t1 ht1 => q _ _ ((s2.trans s3).trans (sUp ht1)) fun j x e => ?_⟩
    have e2 : ps.foldl (stStep d t) none = some (j, x) := e
    rw [e2] at hf
    obtain ⟨rfl, rfl⟩ := hf
    exact upd_same
end
end Bd
set_option maxRecDepth 100000
set_option maxHeartbeats 4000000
namespace Bd
open PySem PySem.Spec PyProof.Rows L2
/-! ## searching.py: all designs of a size -/
def loP (s k : Nat) : Int := (List.range k).foldl (fun (f : Int) (t : Nat) => f * ((s : Int) + (1 + (t : Int))) / (1 + (t : Int))) 1
def lo (m s : Nat) : Int := if m = 0 then 0 else loP s (m - 1)
theorem loP_succ (s k : Nat) : loP s (k + 1) = loP s k * ((s : Int) + (1 + (k : Int))) / (1 + (k : Int)) := by
  unfold loP
  rw [List.range_succ, List.foldl_append]
  rfl
theorem loP_bn {s : Nat} (hs : s ≤ 20) : ∀ k, k ≤ 10 → Bn (5 * k) (loP s k)
  | 0, _ => by show Bn _ 1; exact Bn.one
  | k + 1, h => by
    rw [loP_succ]
    have b := (loP_bn hs k (by omega)).mul (bn_of_le (x := (s : Int) + (1 + (k : Int))) (n := 5) (k := 31) (by omega) (by decide))
    have e : (1 + (k : Int)) = ((1 + k : Nat) : Int) := by omega
    rw [e]
    rw [e] at b
    have c : Bn (5 * k + 5) (loP s k * ((s : Int) + ((1 + k : Nat) : Int)) / ((1 + k : Nat) : Int)) := Nat.le_trans (natAbs_ediv_le _ _) b
    exact c.mono (by omega)
/-- rows that are begun, and what is left of the sum -/
def acStep (zs : List (Row × Int)) : List (Row × Int) := zs.flatMap fun z => (List.range (z.2.toNat + 1)).map fun (i : Nat) => (z.1 ++ [z.2 - (i : Int)], (i : Int))
def acN (s : Nat) : Nat → List (Row × Int)
  | 0 => [([], (s : Int))]
  | k + 1 => acStep (acN s k)
def acs (m s : Nat) : List Row := (acN s (m - 1)).map fun z => z.1 ++ [z.2]
theorem acN_ok (s : Nat) : ∀ k, ∀ z ∈ acN s k, z.1.length = k ∧ 0 ≤ z.2 ∧ z.2 ≤ s ∧ ∀ c ∈ z.1, 0 ≤ c ∧ c ≤ s
  | 0, z, hz => by
    unfold acN at hz
    rw [List.mem_singleton.mp hz]
    exact ⟨rfl, by omega, by show (s : Int) ≤ s; omega, fun c hc => by cases hc⟩
  | k + 1, z, hz => by
    unfold acN acStep at hz
    obtain ⟨y, hy, hz⟩ := List.mem_flatMap.mp hz
    obtain ⟨i, hi, rfl⟩ := List.mem_map.mp hz
    obtain ⟨h1, h2, h3, h4⟩ := acN_ok s k y hy
    have hi' := List.mem_range.mp hi
    refine ⟨by simp [h1], by show (0 : Int) ≤ (i : Int); omega, by show (i : Int) ≤ s; omega, fun c hc => ?_⟩
    rcases List.mem_append.mp hc with q | q
    · exact h4 c q
    · rw [List.mem_singleton.mp q]
      omega
theorem acs_ok {m s : Nat} (hm : 1 ≤ m) : ∀ r ∈ acs m s, r.length = m ∧ ∀ c ∈ r, 0 ≤ c ∧ c ≤ s := fun r hr => by
  obtain ⟨z, hz, rfl⟩ := List.mem_map.mp hr
  obtain ⟨h1, h2, h3, h4⟩ := acN_ok s (m - 1) z hz
  refine ⟨by simp [h1]; omega, fun c hc => ?_⟩
  rcases List.mem_append.mp hc with q | q
  · exact h4 c q
  · rw [List.mem_singleton.mp q]
    omega
/-- the tuples (row, left); B: what is known of the rows' addresses -/
def PsAt (H : Hp) (B : Addr → Prop) : List Addr → List (Row × Int) → Prop
  | [], [] => True
  | a :: as, z :: zs => (∃ r, H a = some (.tup [.ref r, .int z.2]) ∧ H r = some (.lst (vI z.1)) ∧ B r) ∧ PsAt H B as zs
  | _, _ => False
theorem PsAt.length {H : Hp} {B : Addr → Prop} : ∀ {as : List Addr} {m : List (Row × Int)}, PsAt H B as m → as.length = m.length
  | [], [], _ => rfl
  | _ :: as, _ :: m, h => by rw [List.length_cons, List.length_cons, PsAt.length h.2]
theorem PsAt.get' {H : Hp} {B : Addr → Prop} : ∀ {as : List Addr} {m : List (Row × Int)} {i : Nat} {a : Addr}, PsAt H B as m → as[i]? = some a → ∃ z r, m[i]? = some z ∧ H a = some (.tup [.ref r, .int z.2]) ∧ H r = some (.lst (vI z.1))
  | [], [], i, a, _, e => by simp at e
  | b :: as, x :: m, 0, a, h, e => by
    have e' : b = a := Option.some.inj e
    subst e'
    obtain ⟨r, h1, h2, _⟩ := h.1
    exact ⟨x, r, rfl, h1, h2⟩
  | b :: as, x :: m, i + 1, a, h, e => PsAt.get' (i := i) h.2 e
theorem PsAt.snoc {H : Hp} {B : Addr → Prop} {a r : Addr} {z : Row × Int} (ha : H a = some (.tup [.ref r, .int z.2])) (hr : H r = some (.lst (vI z.1))) (hB : B r) : ∀ {as : List Addr} {m : List (Row × Int)}, PsAt H B as m → PsAt H B (as ++ [a]) (m ++ [z])
  | [], [], _ => ⟨⟨r, ha, hr, hB⟩, trivial⟩
  | _ :: _, _ :: _, h => ⟨h.1, PsAt.snoc ha hr hB h.2⟩
theorem PsAt.append {H : Hp} {B : Addr → Prop} : ∀ {as bs : List Addr} {m n : List (Row × Int)}, PsAt H B as m → PsAt H B bs n → PsAt H B (as ++ bs) (m ++ n)
  | [], _, [], _, _, h' => h'
  | _ :: _, _, _ :: _, _, h, h' => ⟨h.1, PsAt.append h.2 h'⟩
theorem PsAt.same {H H' : Hp} {B : Addr → Prop} (s : Same H H') : ∀ {as : List Addr} {m : List (Row × Int)}, PsAt H B as m → PsAt H' B as m
  | [], [], _ => trivial
  | _ :: _, _ :: _, h => ⟨let ⟨r, h1, h2, h3⟩ := h.1; ⟨r, s _ _ h1, s _ _ h2, h3⟩, PsAt.same s h.2⟩
theorem PsAt.mono {H : Hp} {B B' : Addr → Prop} (k : ∀ r, B r → B' r) : ∀ {as : List Addr} {m : List (Row × Int)}, PsAt H B as m → PsAt H B' as m
  | [], [], _ => trivial
  | _ :: _, _ :: _, h => ⟨let ⟨r, h1, h2, h3⟩ := h.1; ⟨r, h1, h2, k r h3⟩, PsAt.mono k h.2⟩
theorem PsAt.upd {H : Hp} {B : Addr → Prop} {p : Addr} {xs : List V} (hp : H p = some (.lst xs)) (o : HO) (k : ∀ r, B r → r ≠ p) : ∀ {as : List Addr} {m : List (Row × Int)}, PsAt H B as m → PsAt (L2.upd H p o) B as m
  | [], [], _ => trivial
  | a :: as, z :: m, h => by
    obtain ⟨r, h1, h2, h3⟩ := h.1
    exact ⟨⟨r, (upd_ne (ne_of h1 hp (by intro z; cases z))).trans h1, (upd_ne (k r h3)).trans h2, h3⟩, PsAt.upd hp o k h.2⟩
def acGen (z : Row × Int) : List (Row × Int) := (List.range (z.2.toNat + 1)).map fun (i : Nat) => (z.1 ++ [z.2 - (i : Int)], (i : Int))
theorem flat_take {α β : Type} (g : α → List β) (l : List α) (j : Nat) : ((l.take j).flatMap g).length ≤ (l.flatMap g).length := by
  have e : l.flatMap g = (l.take j).flatMap g ++ (l.drop j).flatMap g := by rw [← List.flatMap_append, List.take_append_drop]
  rw [e, List.length_append]
  omega
def spListsOf : Sp := fun vs H Q _ => ∃ m s : Nat, vs = [.int m, .int s] ∧ m ≤ 10 ∧ s ≤ 20 ∧ Q (.int (lo m s)) H
def spAllCounts : Sp := fun vs H Q _ => ∃ m s : Nat, vs = [.int m, .int s] ∧ 1 ≤ m ∧ m ≤ 10 ∧ s ≤ 20 ∧ (∀ k, k ≤ m - 1 → (acN s k).length ≤ 1000) ∧ ∀ H' p, Same H H' → IsM H' p (acs m s) → Q (.ref p) H'
section
variable {P : Program} {w : World} {K : PySem.W.Frag} {mg : Str → Option Value} {base : Heap} {D E R N L : Addr}
abbrev s_lists_of : Stmt := top 34
abbrev sl_lists_of : List Str := ["many", "size", "found", "turn"]
theorem sc_lists_of : FnScope sl_lists_of ["many", "size"] (defScope s_lists_of) := ⟨rfl, rfl, rfl, by decide +kernel, rfl, by decide +kernel, by decide +kernel⟩
theorem ok_lists_of {f : Addr} {fd : FuncData} (F : Fun K "lists_of" "lists_of" s_lists_of f fd) (T : Txt K mg D E R N L) : FnOk P w K mg base CX0 1 f fd ["many", "size"] spListsOf := by
  refine F.ok sc_lists_of (fun vs H Q E h => ?_) (fun cdv A outer s H vs Q E hr h => ⟨_, (pss_cons (ps_if (pt_cmpR op_eq (pv 0) pe_int (nomark _)) (pss_one (ps_ret pe_int)) pss_nil)
      (pss_cons (ps_set (i := 2) sc_lists_of.nd rfl (by first | exact Or.inl rfl | exact Or.inr rfl) pe_int)
      (pss_cons (ps_for PassesOwn.never rfl (pi_range2 (by rfl) T.n_range (pa_cons pe_int (pa_cons (pv 0) pa_nil))) (pg_name (i := 3) sc_lists_of.nd rfl (by first | exact Or.inl rfl | exact Or.inr rfl))
      (pss_one (ps_set (i := 2) sc_lists_of.nd rfl (by first | exact Or.inl rfl | exact Or.inr rfl) (pe_op op_fdivW (pe_op op_mulW (pv 2) (pe_op op_add (pv 1) (pv 3))) (pv 3)))))
      (pss_one (ps_ret (pv 2)))))), ?_⟩)
  · obtain ⟨_, _, rfl, _⟩ := h; rfl
  obtain ⟨m, sz, rfl, hm, hs, q⟩ := h
  refine ⟨_, rfl, rfl, _, rfl, ?_⟩
  by_cases z : m = 0
  · subst z
    exact ifT rfl q
  · refine ifF (fun e => z (Int.ofNat.inj (V.int.inj e))) ?_
    have el : lo m sz = loP sz (m - 1) := if_neg z
    rw [el] at q
    have en : ((m : Int) - 1).toNat = m - 1 := by omega
    refine ⟨_, rfl, (1 : Int), (m : Int), rfl, ⟨by omega, by omega, by omega, by omega⟩, ?_⟩
    rw [en]
    refine for_it walk_range (fun i σ H' => H' = H ∧ ∃ v1 : Option V, σ = [some (.int m), some (.int sz), some (.int (loP sz i)), v1])
      ⟨rfl, none, rfl⟩ (fun _ _ _ _ _ => trivial) ?_ ?_
    · rintro i y σ H1 H2 hi ⟨rfl, v1, rfl⟩ ⟨rfl, rfl⟩
      have b1 := loP_bn hs i (by omega)
      have b2 : Bn 5 ((sz : Int) + (1 + (i : Int))) := bn_of_le (k := 31) (by omega) (by decide)
      have b3 : Bn 5 (1 + (i : Int)) := bn_of_le (k := 31) (by omega) (by decide)
      refine ⟨_, rfl, _, rfl, _, rfl, _, _, rfl, rfl, _, _, rfl, rfl, b1.cm b2 (by omega), _, rfl, _, _, rfl, rfl, b3.cd (by omega) (by omega), rfl, some (.int (1 + (i : Int))), ?_⟩
      rw [loP_succ]
      rfl
    · rintro σ H1 ⟨rfl, v1, rfl⟩
      exact ⟨_, rfl, q⟩
abbrev s_all_counts : Stmt := top 35
abbrev sl_all_counts : List Str := ["many", "size", "found", "turn", "longer", "row", "left", "count"]
theorem sc_all_counts : FnScope sl_all_counts ["many", "size"] (defScope s_all_counts) := ⟨rfl, rfl, rfl, by decide +kernel, rfl, by decide +kernel, by decide +kernel⟩
theorem ok_all_counts {f : Addr} {fd : FuncData} (F : Fun K "all_counts" "all_counts" s_all_counts f fd) (T : Txt K mg D E R N L) : FnOk P w K mg base CX0 1 f fd ["many", "size"] spAllCounts := by
  refine F.ok sc_all_counts (fun vs H Q E h => ?_) (fun cdv A outer s H vs Q E hr h => ⟨_, (pss_cons (ps_set (i := 2) sc_all_counts.nd rfl (by first | exact Or.inl rfl | exact Or.inr rfl) (pe_lst (pa_cons (pe_tup (pa_cons (pe_lst pa_nil) (pa_cons (pv 1) pa_nil))) pa_nil)))
      (pss_cons (ps_for PassesOwn.never rfl (pi_range1 (by rfl) T.n_range (pa_cons (pe_op op_sub (pv 0) pe_int) pa_nil)) (pg_name (i := 3) sc_all_counts.nd rfl (by first | exact Or.inl rfl | exact Or.inr rfl))
      (pss_cons (ps_set (i := 4) sc_all_counts.nd rfl (by first | exact Or.inl rfl | exact Or.inr rfl) (pe_lst pa_nil))
      (pss_cons (ps_for PassesOwn.never rfl (pi_list (pv 2)) (pg_tup (by rfl) (pgs_cons (pg_name (i := 5) sc_all_counts.nd rfl (by first | exact Or.inl rfl | exact Or.inr rfl)) (pgs_cons (pg_name (i := 6) sc_all_counts.nd rfl (by first | exact Or.inl rfl | exact Or.inr rfl)) pgs_nil)))
      (pss_one (ps_expr (pe_bm PySem.F.plainAttrs_list PySem.F.slot_list_extend PySem.F.type_list_extend mt_extend (pv 4) (pa_cons (pe_lc (own := [("count", 7)]) (g := gName 7) (tt := tYes) rfl sc_all_counts.nd (pi_range3 (by rfl) T.n_range (pa_cons (pv 6) (pa_cons (pe_un un_neg pe_int) (pa_cons (pe_un un_neg pe_int) pa_nil)))) (blkOk_by (N := sl_all_counts) (sc := defScope s_all_counts) (by decide +kernel)) (fun _ _ _ _ _ => (pg_name (i := 7) sc_all_counts.nd rfl (by first | exact Or.inl rfl | exact Or.inr rfl))) (fun _ _ _ _ _ => pts_nil) (fun _ _ _ _ _ => (pe_tup (pa_cons (pe_op op_cat (pv 5) (pe_lst (pa_cons (pv 7) pa_nil))) (pa_cons (pe_op op_sub (pv 6) (pv 7)) pa_nil))))) pa_nil)))))
      (pss_one (ps_set (i := 2) sc_all_counts.nd rfl (by first | exact Or.inl rfl | exact Or.inr rfl) (pv 4))))))
      (pss_one (ps_ret (pe_lc (own := [("row", 5), ("left", 6)]) (g := gTup K 2 (gCons (gName 5) (gCons (gName 6) gNil))) (tt := tYes) rfl sc_all_counts.nd (pi_list (pv 2)) (blkOk_by (N := sl_all_counts) (sc := defScope s_all_counts) (by decide +kernel)) (fun _ _ _ _ _ => (pg_tup (by rfl) (pgs_cons (pg_name (i := 5) sc_all_counts.nd rfl (by first | exact Or.inl rfl | exact Or.inr rfl)) (pgs_cons (pg_name (i := 6) sc_all_counts.nd rfl (by first | exact Or.inl rfl | exact Or.inr rfl)) pgs_nil)))) (fun _ _ _ _ _ => pts_nil) (fun _ _ _ _ _ => (pe_op op_cat (pv 5) (pe_lst (pa_cons (pv 6) pa_nil))))))))), ?_⟩)
  · obtain ⟨_, _, rfl, _⟩ := h; rfl
  obtain ⟨m, sz, rfl, h1, h10, hs, hb, q⟩ := h
  refine ⟨Nat.zero_le _, fun p1 hp1 => ⟨_, rfl, by show 2 ≤ sizeLine; decide, fun p2 hp2 => ⟨by show 1 ≤ sizeLine; decide, fun p3 hp3 => ?_⟩⟩⟩
  have n12 : p1 ≠ p2 := ne_of_none upd_same hp2
  have s1 : Same H (upd H p1 (.lst [])) := sUp hp1
  have a1 : upd H p1 (.lst []) p1 = some (.lst (vI [])) := upd_same
  generalize upd H p1 (.lst []) = H1 at s1 a1 hp2 hp3
  have s2 : Same H1 (upd H1 p2 (.tup [.ref p1, .int sz])) := sUp hp2
  have a2 : upd H1 p2 (.tup [.ref p1, .int sz]) p2 = some (.tup [.ref p1, .int (sz : Int)]) := upd_same
  generalize upd H1 p2 (.tup [.ref p1, .int sz]) = H2 at s2 a2 hp3
  have s3 : Same H2 (upd H2 p3 (.lst [.ref p2])) := sUp hp3
  have a3 : upd H2 p3 (.lst [.ref p2]) p3 = some (.lst ([p2].map V.ref)) := upd_same
  generalize upd H2 p3 (.lst [.ref p2]) = H3 at s3 a3
  have s03 : Same H H3 := s1.trans (s2.trans s3)
  have en : ((m : Int) - 1).toNat = m - 1 := by omega
  refine ⟨_, rfl, _, _, rfl, rfl, (m : Int) - 1, rfl, by omega, by omega, ?_⟩
  rw [en]
  refine for_it walk_range0 (fun i σ H' => ∃ (v1 v2 v3 v4 v5 : Option V) (pf : Addr) (as : List Addr), σ = [some (.int m), some (.int sz), some (.ref pf), v1, v2, v3, v4, v5] ∧ Same H H' ∧ H' pf = some (.lst (as.map V.ref)) ∧ PsAt H' (fun _ => True) as (acN sz i))
    ⟨none, none, none, none, none, p3, [p2], rfl, s03, a3, ⟨p1, s3 _ _ a2, s3 _ _ (s2 _ _ a1), trivial⟩, trivial⟩ (fun _ _ _ _ _ => trivial) ?_ ?_
  · rintro i y σ H4 H5 hi ⟨v1, v2, v3, v4, v5, pf, as, rfl, s4, hpf, hps⟩ ⟨rfl, rfl⟩
    have hok := acN_ok sz i
    have hl5 := hb (i + 1) (by omega)
    have hacs : acN sz (i + 1) = (acN sz i).flatMap acGen := rfl
    rw [hacs] at hl5
    refine ⟨Nat.zero_le _, fun pl hpl => ?_⟩
    have s5 : Same H5 (upd H5 pl (.lst [])) := sUp hpl
    refine ⟨_, rfl, pf, rfl, ⟨_, SqL.of (s5 _ _ hpf)⟩, for_it (walk_list (xs := as.map V.ref))
      (fun j σ H' => ∃ (v3 v4 v5 : Option V) (cs : List Addr), σ = [some (.int m), some (.int sz), some (.ref pf), some (.int (i : Nat)), some (.ref pl), v3, v4, v5] ∧ Same H5 H' ∧ H' pl = some (.lst (cs.map V.ref)) ∧ PsAt H' (fun r => r ≠ pl) cs (((acN sz i).take j).flatMap acGen))
      ⟨v3, v4, v5, [], rfl, s5, upd_same, trivial⟩ (fun j σ H' _ h => ?_) ?_ ?_⟩
    · obtain ⟨_, _, _, _, _, s6, _⟩ := h
      exact SqL.of (s6 _ _ hpf)
    · rintro j x σ H6 H7 hj ⟨v3, v4, v5, cs, rfl, s6, hcs, hpc⟩ ⟨rfl, hx⟩
      obtain ⟨b, hb0, rfl⟩ := map_get hx
      obtain ⟨z, r, hz, hbT, hrL⟩ := (hps.same s6).get' hb0
      obtain ⟨z1, z2, z3, z4⟩ := hok z (List.mem_of_getElem? hz)
      have hnx : ((acN sz i).take (j + 1)).flatMap acGen = ((acN sz i).take j).flatMap acGen ++ acGen z := by
        rw [take_next hz, List.flatMap_append]
        simp
      have hlx := flat_take acGen (acN sz i) (j + 1)
      rw [hnx, List.length_append] at hlx
      have hg : (acGen z).length = z.2.toNat + 1 := by simp [acGen]
      refine ⟨b, _, rfl, SqT.of hbT, rfl, _, _, rfl, _, _, rfl, rfl, ?_⟩
      refine ⟨_, rfl, ty_list hcs, ?_⟩
      refine ⟨_, rfl, _, rfl, _, rfl, z.2, -1, -1, (z.2 - -1).toNat, rfl, RgC.neg (by omega) (by omega) (by omega) (by omega), fun Dd hD => lc_it walk_rangeC
        (fun k H' => ∃ ds : List Addr, Same H7 H' ∧ H' Dd = some (.lst (ds.map V.ref)) ∧ PsAt H' (fun r => r ≠ pl ∧ r ≠ Dd) ds ((acGen z).take k))
        ⟨[], sUp hD, upd_same, trivial⟩ (fun _ _ _ _ => trivial) ?_ ?_⟩
      · rintro k x H8 H9 hk ⟨ds, s8, hD8, hpd⟩ ⟨rfl, rfl⟩
        have hkz : k < z.2.toNat + 1 := by omega
        refine ⟨rfl, ?_⟩
        refine ⟨_, rfl, _, rfl, by show 1 ≤ sizeLine; decide, fun p5 hp5 => ?_⟩
        have t5 : Same H9 (upd H9 p5 (.lst [.int (z.2 + (k : Nat) * -1)])) := sUp hp5
        refine ⟨r, p5, vI z.1, [.int (z.2 + (k : Nat) * -1)], rfl, rfl, t5 _ _ (s8 _ _ hrL), upd_same, ?_, fun p6 hp6 => ?_⟩
        · exact small2 (by simp [z1]; omega)
        generalize upd H9 p5 (.lst [.int (z.2 + (k : Nat) * -1)]) = H10 at t5 hp6
        have t6 : Same H10 (upd H10 p6 (.lst (vI z.1 ++ [.int (z.2 + (k : Nat) * -1)]))) := sUp hp6
        have e6 : upd H10 p6 (.lst (vI z.1 ++ [.int (z.2 + (k : Nat) * -1)])) p6 = some (.lst (vI (z.1 ++ [z.2 - (k : Int)]))) := by
          rw [upd_same, show z.2 + ((k : Nat) : Int) * -1 = z.2 - (k : Int) by omega]
          simp
        have ne6l : p6 ≠ pl := fun e => by
          have := (s8.trans t5) _ _ hcs
          rw [← e, hp6] at this
          cases this
        have ne6D : p6 ≠ Dd := fun e => by
          have := t5 _ _ hD8
          rw [← e, hp6] at this
          cases this
        generalize upd H10 p6 (.lst (vI z.1 ++ [.int (z.2 + (k : Nat) * -1)])) = H11 at t6 e6
        refine ⟨_, rfl, _, rfl, _, _, rfl, rfl, by show 2 ≤ sizeLine; decide, fun p7 hp7 => ?_⟩
        have t7 : Same H11 (upd H11 p7 (.tup [.ref p6, .int (z.2 - (z.2 + (k : Nat) * -1))])) := sUp hp7
        have e7 : upd H11 p7 (.tup [.ref p6, .int (z.2 - (z.2 + (k : Nat) * -1))]) p7 = some (.tup [.ref p6, .int (k : Int)]) := by
          rw [upd_same, show z.2 - (z.2 + ((k : Nat) : Int) * -1) = (k : Int) by omega]
        generalize upd H11 p7 (.tup [.ref p6, .int (z.2 - (z.2 + (k : Nat) * -1))]) = H12 at t7 e7
        have t9 : Same H9 H12 := t5.trans (t6.trans t7)
        refine ⟨_, t9 _ _ hD8, ?_, ds ++ [p7], sUps (s8.trans t9) hD, by rw [upd_same]; simp, ?_⟩
        · exact small1000 (by rw [List.length_map, hpd.length, List.length_take]; omega)
        · rw [take_next (l := acGen z) (x := (z.1 ++ [z.2 - (k : Int)], (k : Int))) (by unfold acGen; rw [List.getElem?_map, List.getElem?_range hkz]; rfl)]
          exact PsAt.upd (t9 _ _ hD8) _ (fun r h => h.2) (PsAt.snoc (z := (z.1 ++ [z.2 - (k : Int)], (k : Int))) e7 (t7 _ _ e6) ⟨ne6l, ne6D⟩ (hpd.same t9))
      · rintro H8 ⟨ds, s8, hD8, hpd⟩
        rw [List.take_of_length_le (by rw [hg]; omega)] at hpd
        refine ⟨pl, Dd, _, _, rfl, rfl, s8 _ _ hcs, hD8, ?_, ?_⟩
        · exact small2 (by rw [List.length_map, List.length_map, hpc.length, hpd.length]; omega)
        · refine ⟨_, _, _, cs ++ ds, rfl, sUps (s6.trans s8) hpl, by rw [upd_same]; simp, ?_⟩
          rw [hnx]
          exact PsAt.upd (s8 _ _ hcs) _ (fun r h => h) ((hpc.same s8).append (hpd.mono fun r h => h.1))
    · rintro σ H6 ⟨v3, v4, v5, cs, rfl, s6, hcs, hpc⟩
      rw [List.take_of_length_le (by rw [List.length_map, hps.length]; exact Nat.le_refl _)] at hpc
      exact ⟨_, rfl, some (.int (i : Nat)), some (.ref pl), v3, v4, v5, pl, cs, rfl, s4.trans s6, hcs, hpc.mono fun _ _ => trivial⟩
  · rintro σ H4 ⟨v1, v2, v3, v4, v5, pf, as, rfl, s4, hpf, hps⟩
    have hl5 := hb (m - 1) (Nat.le_refl _)
    have hok := acN_ok sz (m - 1)
    refine ⟨_, rfl, pf, rfl, ⟨_, SqL.of hpf⟩, fun Dd hD => lc_it (walk_list (xs := as.map V.ref)) (fun k H' => Same H4 H' ∧ ∃ bs : List Addr, H' Dd = some (.lst (bs.map V.ref)) ∧ RowsAt H' bs ((acs m sz).take k))
      ⟨sUp hD, [], upd_same, trivial⟩ (fun k H' _ h => SqL.of (h.1 _ _ hpf)) ?_ ?_⟩
    · rintro k x H5 H6 hk ⟨s5, bs, hb5, hbs⟩ ⟨rfl, hx⟩
      obtain ⟨b, hb0, rfl⟩ := map_get hx
      obtain ⟨z, r, hz, hbT, hrL⟩ := (hps.same s5).get' hb0
      obtain ⟨z1, z2, z3, z4⟩ := hok z (List.mem_of_getElem? hz)
      refine ⟨b, _, rfl, SqT.of hbT, rfl, _, _, rfl, _, _, rfl, rfl, rfl, ?_⟩
      refine ⟨_, rfl, _, rfl, by show 1 ≤ sizeLine; decide, fun p5 hp5 => ?_⟩
      have t5 : Same H6 (upd H6 p5 (.lst [.int z.2])) := sUp hp5
      refine ⟨r, p5, vI z.1, [.int z.2], rfl, rfl, t5 _ _ hrL, upd_same, ?_, fun p6 hp6 => ?_⟩
      · exact small2 (by simp [z1]; omega)
      have t6 := t5.trans (sUp (o := .lst (vI z.1 ++ [.int z.2])) hp6)
      have e6 : upd (upd H6 p5 (.lst [.int z.2])) p6 (.lst (vI z.1 ++ [.int z.2])) p6 = some (.lst (vI (z.1 ++ [z.2]))) := by
        rw [upd_same]; simp
      have nD : Dd ≠ p6 := ne_of_none (t5 _ _ hb5) hp6
      refine ⟨_, t6 _ _ hb5, ?_, sUps (s5.trans t6) hD, bs ++ [p6], by rw [upd_same]; simp, ?_⟩
      · exact small1000 (by rw [List.length_map, hbs.length, List.length_take]; unfold acs; rw [List.length_map]; omega)
      · rw [take_next (l := acs m sz) (x := z.1 ++ [z.2]) (by unfold acs; rw [List.getElem?_map, hz]; rfl)]
        exact rows_push hbs hb5 t6 e6 nD
    · rintro H5 ⟨s5, bs, hb5, hbs⟩
      rw [List.take_of_length_le (by unfold acs; rw [List.length_map, List.length_map, hps.length]; exact Nat.le_refl _)] at hbs
      exact q _ _ (s4.trans s5) ⟨bs, hb5, hbs⟩
end
end Bd
set_option maxRecDepth 100000
set_option maxHeartbeats 4000000
namespace Bd
open PySem PySem.Spec PyProof.Rows L2
/-! ## searching.py: the searches -/
theorem acN_len : ∀ m, m ≤ 10 → ∀ s, s ≤ 20 → lo m s ≤ 500 → ∀ k, k ≤ m - 1 → (acN s k).length ≤ 1000 := by decide +kernel
def Ds.to (d : Ds) (cs : List Int) : Ds := ⟨d.n, d.rows, cs⟩
def allDs (d : Ds) (s : Nat) : List Ds := (acs d.rows.length s).map d.to
def regs (l : List Ds) : List Ds := l.filter fun e => decide (det e.mat > 0)
theorem regs_pos {e : Ds} (h : 0 < det e.mat) : regs [e] = [e] := by simp [regs, h]
theorem regs_neg {e : Ds} (h : ¬ 0 < det e.mat) : regs [e] = [] := by simp [regs, h]
def rds (d : Ds) (s : Nat) : List Ds := if d.rows.length > 0 then regs (allDs d s) else []
theorem Wf.to {d : Ds} (h : Wf d) {cs : List Int} (hl : cs.length = d.rows.length) (hc : ∀ c ∈ cs, 0 ≤ c ∧ c ≤ 20) : Wf (d.to cs) := ⟨h.n1, h.n4, h.rl, h.re, h.rk, hl, hc⟩
/-- a list of references to tuples -/
structure TupL (H : Hp) (p : Addr) (as : List Addr) : Prop where
  at_ : H p = some (.lst (as.map V.ref))
  tup : ∀ a ∈ as, ∃ xs, H a = some (.tup xs)
theorem TupL.ints {H : Hp} {p c : Addr} {as : List Addr} {cs : List Int} (h : TupL H p as) (hc : H c = some (.lst (vI cs))) (ne : cs ≠ []) : c ≠ p := fun e => by
  rw [e, h.at_] at hc
  have e1 : as.map V.ref = vI cs := HO.lst.inj (Option.some.inj hc)
  cases as with
  | nil => cases cs with
    | nil => exact ne rfl
    | cons _ _ => cases e1
  | cons a as => cases cs with
    | nil => cases e1
    | cons _ _ => cases (List.cons.inj e1).1
theorem TupL.rows {H : Hp} {p : Addr} {as : List Addr} (h : TupL H p as) (o : HO) : ∀ {bs : List Addr} {m : Mat}, RowsAt H bs m → (∀ r ∈ m, r ≠ []) → RowsAt (L2.upd H p o) bs m
  | [], [], _, _ => trivial
  | b :: bs, r :: m, hr, n => ⟨(upd_ne (h.ints hr.1 (n r List.mem_cons_self))).trans hr.1, TupL.rows h o hr.2 fun x hx => n x (List.mem_cons_of_mem _ hx)⟩
theorem TupL.isM {H : Hp} {p r : Addr} {as : List Addr} {m : Mat} (h : TupL H p as) (o : HO) (hr : IsM H r m) (ne : m ≠ []) (n : ∀ x ∈ m, x ≠ []) : IsM (L2.upd H p o) r m := by
  obtain ⟨bs, hb, hR⟩ := hr
  refine ⟨bs, (upd_ne ?_).trans hb, h.rows o hR n⟩
  intro e
  rw [e, h.at_] at hb
  have e1 : as.map V.ref = bs.map V.ref := HO.lst.inj (Option.some.inj hb)
  cases m with
  | nil => exact ne rfl
  | cons x m =>
    cases bs with
    | nil => exact hR.elim
    | cons b bs =>
      cases as with
      | nil => cases e1
      | cons a as =>
        have e2 : a = b := V.ref.inj (List.cons.inj e1).1
        obtain ⟨xs, hx⟩ := h.tup a List.mem_cons_self
        have hb2 := hR.1
        rw [← e2, hx] at hb2
        cases hb2
structure Full (d : Ds) : Prop where
  wf : Wf d
  ne : d.rows ≠ []
theorem Full.mat_ne {d : Ds} (h : Full d) : d.mat ≠ [] := fun e => by
  have := h.wf.mat.len
  rw [e] at this
  change 0 = d.n at this
  have := h.wf.n1
  omega
theorem Full.mat_row {d : Ds} (h : Full d) : ∀ r ∈ d.mat, r ≠ [] := fun r hr e => by
  have := h.wf.mat.row r hr
  rw [e] at this
  change 0 = d.n at this
  have := h.wf.n1
  omega
theorem Full.row {d : Ds} (h : Full d) : ∀ r ∈ d.rows, r ≠ [] := fun r hr e => by
  have := h.wf.rl r hr
  rw [e] at this
  change 0 = d.n at this
  have := h.wf.n1
  omega
theorem Full.cs_ne {d : Ds} (h : Full d) : d.cs ≠ [] := fun e => by
  have := h.wf.cl
  rw [e] at this
  exact h.ne (List.length_eq_zero_iff.mp this.symm)
theorem TupL.hasD {D : Addr} {H : Hp} {p a : Addr} {as : List Addr} {d : Ds} (h : TupL H p as) (o : HO) (hd : HasD D H a d) (f : Full d) : HasD D (L2.upd H p o) a d := by
  obtain ⟨dx, r, c, q⟩ := hd
  exact ⟨dx, r, c, (upd_ne (ne_of q.at_ h.at_ (by intro z; cases z))).trans q.at_, h.isM o q.rows f.ne f.row, (upd_ne (h.ints q.cs f.cs_ne)).trans q.cs⟩
/-- the tuples (design, matrix, determinant) -/
def TsAt (D : Addr) (H : Hp) : List Addr → List Ds → Prop
  | [], [] => True
  | a :: as, e :: es => (∃ h mt, H a = some (.tup [.ref h, .ref mt, .int (det e.mat)]) ∧ HasD D H h e ∧ IsM H mt e.mat) ∧ TsAt D H as es
  | _, _ => False
theorem TsAt.length {D : Addr} {H : Hp} : ∀ {as : List Addr} {m : List Ds}, TsAt D H as m → as.length = m.length
  | [], [], _ => rfl
  | _ :: as, _ :: m, h => by rw [List.length_cons, List.length_cons, TsAt.length h.2]
theorem TsAt.same {D : Addr} {H H' : Hp} (s : Same H H') : ∀ {as : List Addr} {m : List Ds}, TsAt D H as m → TsAt D H' as m
  | [], [], _ => trivial
  | _ :: _, _ :: _, h => ⟨let ⟨x, y, h1, h2, h3⟩ := h.1; ⟨x, y, s _ _ h1, h2.same s, h3.same s⟩, TsAt.same s h.2⟩
theorem TsAt.get' {D : Addr} {H : Hp} : ∀ {as : List Addr} {m : List Ds} {i : Nat} {a : Addr}, TsAt D H as m → as[i]? = some a → ∃ e h mt, m[i]? = some e ∧ H a = some (.tup [.ref h, .ref mt, .int (det e.mat)]) ∧ HasD D H h e ∧ IsM H mt e.mat
  | [], [], i, a, _, e => by simp at e
  | b :: as, x :: m, 0, a, h, e => by
    have e' : b = a := Option.some.inj e
    subst e'
    obtain ⟨y, mt, h1, h2, h3⟩ := h.1
    exact ⟨x, y, mt, rfl, h1, h2, h3⟩
  | b :: as, x :: m, i + 1, a, h, e => TsAt.get' (i := i) h.2 e
theorem TsAt.tup {D : Addr} {H : Hp} : ∀ {as : List Addr} {m : List Ds}, TsAt D H as m → ∀ a ∈ as, ∃ xs, H a = some (.tup xs)
  | _ :: as, _ :: m, h, a, ha => by
    rcases List.mem_cons.mp ha with rfl | ha
    · obtain ⟨y, mt, h1, _⟩ := h.1
      exact ⟨_, h1⟩
    · exact TsAt.tup h.2 a ha
theorem TsAt.snoc {D : Addr} {H : Hp} {a h mt : Addr} {e : Ds} (h1 : H a = some (.tup [.ref h, .ref mt, .int (det e.mat)])) (h2 : HasD D H h e) (h3 : IsM H mt e.mat) : ∀ {as : List Addr} {m : List Ds}, TsAt D H as m → TsAt D H (as ++ [a]) (m ++ [e])
  | [], [], _ => ⟨⟨h, mt, h1, h2, h3⟩, trivial⟩
  | _ :: _, _ :: _, q => ⟨q.1, TsAt.snoc h1 h2 h3 q.2⟩
theorem TsAt.upd {D : Addr} {H : Hp} {p : Addr} {bs : List Addr} (l : TupL H p bs) (o : HO) : ∀ {as : List Addr} {m : List Ds}, TsAt D H as m → (∀ e ∈ m, Full e) → TsAt D (L2.upd H p o) as m
  | [], [], _, _ => trivial
  | a :: as, e :: m, h, f => by
    obtain ⟨y, mt, h1, h2, h3⟩ := h.1
    have fe := f e List.mem_cons_self
    exact ⟨⟨y, mt, (upd_ne (ne_of h1 l.at_ (by intro z; cases z))).trans h1, l.hasD o h2 fe, l.isM o h3 fe.mat_ne fe.mat_row⟩, TsAt.upd l o h.2 fun x hx => f x (List.mem_cons_of_mem _ hx)⟩
def spRegDes (D N L : Addr) : Sp := fun vs H Q E => ∃ (a : Addr) (d : Ds) (s : Nat), vs = [.ref a, .int s] ∧ HasD D H a d ∧ Wf d ∧ s ≤ 20 ∧ (500 < lo d.rows.length s → ∀ H', Same H H' → E (.ref L) none H') ∧
  (lo d.rows.length s ≤ 500 → (rds d s = [] → ∀ H', Same H H' → E (.ref N) none H') ∧ (rds d s ≠ [] → ∀ H' p as, Same H H' → H' p = some (.lst (as.map V.ref)) → TsAt D H' as (rds d s) → Q (.ref p) H'))
/-- the search: the design found so far and its determinant -/
def bdStep (b : Ds × Int) (e : Ds) : Ds × Int := if det e.mat > b.2 then (e, det e.mat) else b
def bdF (d : Ds) (s : Nat) : Ds × Int := (rds d s).foldl bdStep (d, 0)
def btStep (b : Ds × Option Kxd5.Fraction) (e : Ds) : Ds × Option Kxd5.Fraction := match b.2 with
  | none => (e, some (traceF e.mat))
  | some t => if Kxd5.isLess (traceF e.mat) t = true then (e, some (traceF e.mat)) else b
def btF (d : Ds) (s : Nat) : Ds × Option Kxd5.Fraction := (rds d s).foldl btStep (d, none)
def spBestDesign (D N L : Addr) : Sp := fun vs H Q E => ∃ (a : Addr) (d : Ds) (s : Nat), vs = [.ref a, .int s] ∧ HasD D H a d ∧ Wf d ∧ s ≤ 20 ∧ (500 < lo d.rows.length s → ∀ H', Same H H' → E (.ref L) none H') ∧
  (lo d.rows.length s ≤ 500 → (rds d s = [] → ∀ H', Same H H' → E (.ref N) none H') ∧ (rds d s ≠ [] → ∀ H' p q, Same H H' → H' p = some (.tup [.ref q, .int (bdF d s).2]) → HasD D H' q (bdF d s).1 → Q (.ref p) H'))
def spBestTrace (K : PySem.W.Frag) (D N L : Addr) : Sp := fun vs H Q E => ∃ (a : Addr) (d : Ds) (s : Nat), vs = [.ref a, .int s] ∧ HasD D H a d ∧ Wf d ∧ s ≤ 20 ∧ (500 < lo d.rows.length s → ∀ H', Same H H' → E (.ref L) none H') ∧
  (lo d.rows.length s ≤ 500 → (rds d s = [] → ∀ H', Same H H' → E (.ref N) none H') ∧
    (rds d s ≠ [] → ∀ H' p q r t, Same H H' → (btF d s).2 = some t → H' p = some (.tup [.ref q, .ref r]) → HasD D H' q (btF d s).1 → IsF K H' r t → Q (.ref p) H'))
theorem allDs_full {d : Ds} (h : Wf d) {s : Nat} (hs : s ≤ 20) (hp : 0 < d.rows.length) : ∀ e ∈ allDs d s, Full e := fun e he => by
  unfold allDs at he
  obtain ⟨cs, hcs, rfl⟩ := List.mem_map.mp he
  obtain ⟨h1, h2⟩ := acs_ok (show 1 ≤ d.rows.length by omega) cs hcs
  exact ⟨h.to h1 fun c hc => by have := h2 c hc; omega, fun z => by
    have : d.rows = [] := z
    rw [this] at hp
    exact Nat.lt_irrefl _ hp⟩
theorem rds_full {d : Ds} (h : Wf d) {s : Nat} (hs : s ≤ 20) : ∀ e ∈ rds d s, Full e ∧ 0 < det e.mat := fun e he => by
  unfold rds at he
  split at he
  · rename_i hp
    unfold regs at he
    obtain ⟨h1, h2⟩ := List.mem_filter.mp he
    exact ⟨allDs_full h hs hp e h1, of_decide_eq_true h2⟩
  · cases he
section
variable {P : Program} {w : World} {K : PySem.W.Frag} {mg : Str → Option Value} {base : Heap} {D E R N L : Addr}
abbrev s_regular_designs : Stmt := top 36
abbrev sl_regular_designs : List Str := ["design", "size", "many", "found", "counts", "here", "matrix", "worth"]
theorem sc_regular_designs : FnScope sl_regular_designs ["design", "size"] (defScope s_regular_designs) := ⟨rfl, rfl, rfl, by decide +kernel, rfl, by decide +kernel, by decide +kernel⟩
theorem ok_regular_designs {f : Addr} {fd : FuncData} (F : Fun K "regular_designs" "regular_designs" s_regular_designs f fd) (T : Txt K mg D E R N L) (c_lists_of : Cal P w K mg base CX0 1 "lists_of" ["many", "size"] spListsOf)
    (c_all_counts : Cal P w K mg base CX0 1 "all_counts" ["many", "size"] spAllCounts) (c_determinant : Cal P w K mg base CX0 6 "determinant" ["matrix"] (spDet 5)) (c_matrix : Mal P w K mg base CX0 3 D "matrix" ["self"] (spMatrix D))
    (c_with_counts : Mal P w K mg base CX0 3 D "with_counts" ["self", "counts"] (spWith D)) : FnOk P w K mg base (L2.CX P w) 9 f fd ["design", "size"] (spRegDes D N L) := by
  refine F.okX sc_regular_designs (fun vs H Q E h => ?_) (fun cdv A outer s H vs Q E hr h => ⟨_, (pss_cons (ps_set (i := 2) sc_regular_designs.nd rfl (by first | exact Or.inl rfl | exact Or.inr rfl) (pe_callB call_len_seq (by rfl) T.n_len (by decide +kernel) (pa_cons (pe_fld (pv 0) rfl) pa_nil)))
      (pss_cons (ps_if (pt_cmpR op_gt (pe_cal c_lists_of (hr.mono (by decide)) pass0 (pa_cons (pv 2) (pa_cons (pv 1) pa_nil))) (pe_gi T.i_MOST_LISTS) (nomark _)) (pss_one (ps_raise rfl (takes_of rfl rfl rfl rfl) (pmk_own PySem.F.excBase_ValueError T.xL T.gL T.kL (raises_own T.bL T.tL) (by exact rfl)))) pss_nil)
      (pss_cons (ps_set (i := 3) sc_regular_designs.nd rfl (by first | exact Or.inl rfl | exact Or.inr rfl) (pe_lst pa_nil))
      (pss_cons (ps_for (passes_of rfl) rfl (pi_list (pe_ifExp (pt_cmpR op_gt (pv 2) pe_int (nomark _)) (pe_cal c_all_counts (hr.mono (by decide)) pass0 (pa_cons (pv 2) (pa_cons (pv 1) pa_nil))) (pe_lst pa_nil))) (pg_name (i := 4) sc_regular_designs.nd rfl (by first | exact Or.inl rfl | exact Or.inr rfl))
      (pss_cons (ps_set (i := 5) sc_regular_designs.nd rfl (by first | exact Or.inl rfl | exact Or.inr rfl) (pe_mal (pv 0) T.clD c_with_counts (hr.mono (by decide)) pass0 (pa_cons (pv 4) pa_nil)))
      (pss_cons (ps_set (i := 6) sc_regular_designs.nd rfl (by first | exact Or.inl rfl | exact Or.inr rfl) (pe_mal0 (pv 5) T.clD c_matrix (hr.mono (by decide)) pass0))
      (pss_cons (ps_set (i := 7) sc_regular_designs.nd rfl (by first | exact Or.inl rfl | exact Or.inr rfl) (pe_cal c_determinant (hr.mono (by decide)) pass0 (pa_cons (pv 6) pa_nil)))
      (pss_one (ps_if (pt_cmpR op_gt (pv 7) pe_int (nomark _)) (pss_one (ps_expr (pe_bm PySem.F.plainAttrs_list PySem.F.slot_list_append PySem.F.type_list_append mt_append (pv 3) (pa_cons (pe_tup (pa_cons (pv 5) (pa_cons (pv 6) (pa_cons (pv 7) pa_nil)))) pa_nil)))) pss_nil))))))
      (pss_cons (ps_if (pt_cmpR (op_eqE hr.units0) (pv 3) (pe_lst pa_nil) (nomark _)) (pss_one (ps_raise rfl (takes_of rfl rfl rfl rfl) (pmk_own PySem.F.excBase_ValueError T.xN T.gN T.kN (raises_own T.bN T.tN) (by exact rfl)))) pss_nil)
      (pss_one (ps_ret (pv 3)))))))), ?_⟩)
  · obtain ⟨_, _, _, rfl, _⟩ := h; rfl
  obtain ⟨a, d, sz, rfl, hh, wf, hs, qL, q⟩ := h
  obtain ⟨dx, r, c, hD⟩ := id hh
  obtain ⟨ras, hr0, hrR⟩ := hD.rows
  refine ⟨_, rfl, a, D, dx, _, _, rfl, hD.at_, T.clD, T.dr, dF_r, r, ras.map V.ref, rfl, .inl (SqL.of hr0), ?_⟩
  have hrl : (ras.map V.ref).length = d.rows.length := by rw [List.length_map, hrR.length]
  rw [hrl]
  refine ⟨_, rfl, _, rfl, d.rows.length, sz, rfl, wf.rk, hs, _, _, rfl, rfl, _, rfl, ?_⟩
  refine ifB (fun cL => qL cL _ (Same.refl H)) (fun cL => ?_)
  have hle : lo d.rows.length sz ≤ 500 := by omega
  obtain ⟨qN, qY⟩ := q hle
  clear q qL
  refine ⟨Nat.zero_le _, fun pf hpf => ?_⟩
  have s1 : Same H (upd H pf (.lst [])) := sUp hpf
  refine ⟨_, rfl, _, _, rfl, rfl, _, rfl, ?_⟩
  have l0 : TupL (upd H pf (.lst [])) pf [] := ⟨upd_same, fun a h => by cases h⟩
  have hN : ∀ (H' : Hp) (as : List Addr), Same H H' → H' pf = some (.lst (as.map V.ref)) → TsAt D H' as (rds d sz) →
      (tSeq (tIfS (tTest (tOp (fun x y H Q => ∃ a b xs, x = V.ref a ∧ y = V.ref b ∧ SqL K H a xs ∧ SqL K H b [] ∧ Q (.bl xs.isEmpty) H) (tVar 3) (tLst tNil))) (fun _ _ H => E (.ref N) none H) tNext) (tRet (tVar 3))) { nx := fun _ H' => Q .non H', rt := Q } = _ := fun _ _ _ _ _ => rfl
  clear hN
  have fin : ∀ (H' : Hp) (as : List Addr) (σ : L2.St), σ[3]? = some (some (.ref pf)) → Same H H' → H' pf = some (.lst (as.map V.ref)) → TsAt D H' as (rds d sz) →
      ∃ v, σ[3]? = some (some v) ∧ ([] : List V).length ≤ sizeLine ∧ ∀ p, H' p = none → ∃ a b xs, v = V.ref a ∧ V.ref p = V.ref b ∧ SqL K (upd H' p (.lst [])) a xs ∧ SqL K (upd H' p (.lst [])) b [] ∧ ∃ k, V.bl xs.isEmpty = .bl k ∧
        if k = true then E (.ref N) none (upd H' p (.lst [])) else ∃ v, σ[3]? = some (some v) ∧ Q v (upd H' p (.lst [])) := by
    intro H' as σ hσ s' hp' ht
    refine ⟨_, hσ, Nat.zero_le _, fun p hp => ?_⟩
    have s2 : Same H' (upd H' p (.lst [])) := sUp hp
    refine ⟨pf, p, as.map V.ref, rfl, rfl, SqL.of (s2 _ _ hp'), SqL.of upd_same, _, rfl, ?_⟩
    have hl := ht.length
    by_cases z : rds d sz = []
    · rw [z] at hl
      have : as = [] := List.length_eq_zero_iff.mp hl
      subst this
      exact qN z _ (s'.trans s2)
    · have : as ≠ [] := fun e => z (by rw [e] at hl; exact List.length_eq_zero_iff.mp hl.symm)
      cases as with
      | nil => exact absurd rfl this
      | cons b as => exact ⟨_, hσ, qY z _ _ _ (s'.trans s2) (s2 _ _ hp') (ht.same s2)⟩
  refine ifB (fun cpos => ?_) (fun cpos => ?_)
  · have hp0 : 0 < d.rows.length := by omega
    have er : rds d sz = regs (allDs d sz) := if_pos hp0
    have hbl := acN_len d.rows.length wf.rk sz hs hle
    have hfull := allDs_full wf hs hp0
    have ok := @acs_ok d.rows.length sz (by omega)
    have lacs : (acs d.rows.length sz).length ≤ 1000 := by unfold acs; rw [List.length_map]; exact hbl _ (Nat.le_refl _)
    refine ⟨_, rfl, _, rfl, d.rows.length, sz, rfl, by omega, wf.rk, hs, hbl, fun H2 pa s2 ⟨bs, hpa, hbs⟩ => ?_⟩
    have s02 : Same H H2 := s1.trans s2
    refine ⟨pa, rfl, ⟨_, SqL.of hpa⟩, for_it (walk_list (xs := bs.map V.ref))
      (fun i σ H' => ∃ (v1 v2 v3 v4 : Option V) (as : List Addr), σ = [some (.ref a), some (.int sz), some (.int d.rows.length), some (.ref pf), v1, v2, v3, v4] ∧ Same H H' ∧ H' pa = some (.lst (bs.map V.ref)) ∧ RowsAt H' bs (acs d.rows.length sz) ∧
        TupL H' pf as ∧ TsAt D H' as (regs ((allDs d sz).take i)))
      ⟨none, none, none, none, [], rfl, s02, hpa, hbs, ⟨s2 _ _ upd_same, fun a h => by cases h⟩, trivial⟩ (fun i σ H' _ h => ?_) ?_ ?_⟩
    · obtain ⟨_, _, _, _, _, _, _, h1, _⟩ := h
      exact SqL.of h1
    · rintro i x σ H3 H4 hi ⟨v1, v2, v3, v4, as, rfl, s3, hpa3, hbs3, hl3, ht3⟩ ⟨rfl, hx⟩
      obtain ⟨b, hb, rfl⟩ := map_get hx
      obtain ⟨cs, hcs, hbL⟩ := hbs3.get' hb
      have hei : (allDs d sz)[i]? = some (d.to cs) := by unfold allDs; rw [List.getElem?_map, hcs]; rfl
      have fe := hfull (d.to cs) (List.mem_of_getElem? hei)
      have hD3 := hh.same s3
      obtain ⟨dx3, r3, c3, q3⟩ := id hD3
      refine ⟨_, rfl, a, dx3, _, rfl, q3.at_, dF_no (by decide +kernel) (by decide +kernel) (by decide +kernel), _, rfl, a, b, d, cs, rfl, hD3, hbL, fun H5 ph s5 hn5 d5 => ?_⟩
      change HasD D H5 ph (d.to cs) at d5
      obtain ⟨dx5, r5, c5, q5⟩ := id d5
      refine ⟨_, rfl, ph, dx5, _, rfl, q5.at_, dF_no (by decide +kernel) (by decide +kernel) (by decide +kernel), ph, d.to cs, rfl, d5, fe.wf, fun H6 pm s6 m6 => ?_⟩
      have hm := fe.wf.mat
      refine ⟨_, rfl, pm, _, 20, rfl, m6, by rw [hm.len]; exact hm, by rw [hm.len]; have := fe.wf.n4; omega, by rw [hm.len]; exact fe.wf.n4, fe.wf.eb, by omega, fun H7 s7 => ?_⟩
      have s37 : Same H4 H7 := s5.trans (s6.trans s7)
      have ek : regs ((allDs d sz).take (i + 1)) = regs ((allDs d sz).take i) ++ regs [d.to cs] := by
        unfold regs
        rw [take_next hei, List.filter_append]
      have tl7 : TupL H7 pf as := ⟨s37 _ _ hl3.at_, fun x hx => let ⟨xs, e⟩ := hl3.tup x hx; ⟨xs, s37 _ _ e⟩⟩
      have ts7 := ht3.same s37
      refine ⟨_, rfl, _, _, rfl, rfl, _, rfl, ?_⟩
      refine ifB (fun cw => ?_) (fun cw => ?_)
      · have e1 : regs [d.to cs] = [d.to cs] :=
           regs_pos cw
        refine ⟨_, rfl, ty_list tl7.at_, _, rfl, _, rfl, _, rfl, by show 3 ≤ sizeLine; decide, fun pt hpt => ?_⟩
        have s8 : Same H7 (upd H7 pt (.tup [.ref ph, .ref pm, .int (det (d.to cs).mat)])) := sUp hpt
        have e8 : upd H7 pt (.tup [.ref ph, .ref pm, .int (det (d.to cs).mat)]) pt = some (.tup [.ref ph, .ref pm, .int (det (d.to cs).mat)]) := upd_same
        generalize upd H7 pt (.tup [.ref ph, .ref pm, .int (det (d.to cs).mat)]) = H8 at s8 e8
        have s48 := s37.trans s8
        have tl8 : TupL H8 pf as := ⟨s8 _ _ tl7.at_, fun x hx => let ⟨xs, e⟩ := tl7.tup x hx; ⟨xs, s8 _ _ e⟩⟩
        have nb : pa ≠ pf := fun z => by
          have h1 := s48 _ _ hpa3
          rw [z, tl8.at_] at h1
          have e9 : as.map V.ref = bs.map V.ref := HO.lst.inj (Option.some.inj h1)
          cases bs with
          | nil => simp at hi
          | cons b0 bs =>
            cases as with
            | nil => cases e9
            | cons a0 as =>
              have ea : a0 = b0 := V.ref.inj (List.cons.inj e9).1
              obtain ⟨xs, hx⟩ := tl8.tup a0 List.mem_cons_self
              obtain ⟨r0, hr9⟩ := (hbs3.same s48).mem (a := b0) List.mem_cons_self
              rw [ea, hr9] at hx
              cases hx
        have acne : ∀ r ∈ acs d.rows.length sz, r ≠ [] := fun r hr z => by
          have := (ok r hr).1
          rw [z] at this
          simp only [List.length_nil] at this
          omega
        refine ⟨pf, _, _, rfl, rfl, tl8.at_, ?_, ?_⟩
        · have : as.length ≤ 1000 := by
            rw [ht3.length]
            unfold regs
            refine Nat.le_trans (List.length_filter_le _ _) ?_
            rw [List.length_take]
            unfold allDs
            rw [List.length_map]
            omega
          exact small1000 (by rw [List.length_map]; exact this)
        · refine ⟨_, _, _, _, as ++ [pt], rfl, sUps (s3.trans s48) hpf, ?_, ?_, ⟨by rw [upd_same]; simp, fun x hx => ?_⟩, ?_⟩
          · rw [upd_ne nb]; exact s48 _ _ hpa3
          · exact tl8.rows _ (hbs3.same s48) acne
          · rcases List.mem_append.mp hx with hx | hx
            · obtain ⟨xs, e⟩ := tl8.tup x hx
              exact ⟨xs, (upd_ne (ne_of e tl8.at_ (by intro z; cases z))).trans e⟩
            · rw [List.mem_singleton.mp hx]
              exact ⟨_, (upd_ne (ne_of e8 tl8.at_ (by intro z; cases z))).trans e8⟩
          · rw [ek, e1]
            refine TsAt.upd tl8 _ (TsAt.snoc e8 (((d5.same s6).same s7).same s8) ((m6.same s7).same s8) (ts7.same s8)) fun e he => ?_
            rcases List.mem_append.mp he with he | he
            · unfold regs at he
              exact hfull e (List.mem_of_mem_take (List.mem_filter.mp he).1)
            · rw [List.mem_singleton.mp he]
              exact fe
      · have e1 : regs [d.to cs] = [] :=
           regs_neg cw
        refine ⟨_, _, _, _, as, rfl, s3.trans s37, s37 _ _ hpa3, hbs3.same s37, tl7, ?_⟩
        rw [ek, e1, List.append_nil]
        exact ts7
    · rintro σ H3 ⟨v1, v2, v3, v4, as, rfl, s3, hpa3, hbs3, hl3, ht3⟩
      rw [List.take_of_length_le (by unfold allDs; rw [List.length_map, List.length_map, hbs3.length]; exact Nat.le_refl _), ← er] at ht3
      exact fin H3 as _ rfl s3 hl3.at_ ht3
  · have er : rds d sz = [] := if_neg (by omega)
    refine ⟨Nat.zero_le _, fun pe hpe => ?_⟩
    have s2 := s1.trans (sUp (o := .lst []) hpe)
    refine ⟨pe, rfl, ⟨[], SqL.of upd_same⟩, for_it (walk_list (xs := [])) (fun i σ H' => σ = [some (.ref a), some (.int sz), some (.int d.rows.length), some (.ref pf), none, none, none, none] ∧ H' = upd (upd H pf (.lst [])) pe (.lst []))
      ⟨rfl, rfl⟩ (fun i σ H' _ h => ?_) (fun i x σ H1 H2 hi => absurd hi (Nat.not_lt_zero _)) ?_⟩
    · rw [h.2]; exact SqL.of upd_same
    · rintro σ H3 ⟨rfl, rfl⟩
      exact fin _ [] _ rfl s2 ((sUp hpe) _ _ l0.at_) (by rw [er]; trivial)
end
end Bd
set_option maxRecDepth 100000
set_option maxHeartbeats 4000000
namespace Bd
open PySem PySem.Spec PyProof.Rows L2
theorem pl_off {n : Int} {r c : Addr} {m : Str} (h1 : (m == ("columns" : Str)) = false := by decide +kernel) (h2 : (m == ("rows" : Str)) = false := by decide +kernel) (h3 : (m == ("counts" : Str)) = false := by decide +kernel) : (dF n r c).lookup m = none := dF_no h1 h2 h3
/-- the numbers of a trace -/
theorem traceP_ok {m : Mat} (hm : IsMat n m) (h4 : n ≤ 4) (hb : EB 20 m) (hd : 0 < det m) : ∀ k, k ≤ n → 0 < (traceP m k).denominator ∧ Bn (200 * k) (traceP m k).numerator ∧ Bn (200 * k) ((traceP m k).denominator : Int)
  | 0, _ => ⟨Nat.one_pos, Bn.zero, Bn.one⟩
  | i + 1, h => by
    obtain ⟨dpos, bn1, bn2⟩ := traceP_ok hm h4 hb hd i (by omega)
    have bd : Bn 88 (det m) := det_bn hb hm h4
    have bc : Bn 88 (cofactor m i i) := cof_bn hb hm h4 (by omega) (by omega)
    have nd := (norm_fraction (cofactor m i i) (det m)).pos
    have t1 : Bn 88 (Kxd5.fraction (cofactor m i i) (det m)).numerator := frac_num_bn hd bc
    have t2 : Bn 88 ((Kxd5.fraction (cofactor m i i) (det m)).denominator : Int) := frac_den_bn hd bd
    have e : traceP m (i + 1) = Kxd5.plus (traceP m i) (Kxd5.fraction (cofactor m i i) (det m)) := by
      unfold traceP
      rw [List.range_succ, List.foldl_append]
      rfl
    have dd : 0 < ((traceP m i).denominator : Int) * ((Kxd5.fraction (cofactor m i i) (det m)).denominator : Int) := Int.mul_pos (by omega) (by omega)
    have u2 := bn2.mul t2
    have u1 := ((bn1.mul t2).mono (n := 200 * i + 88) (by omega)).add ((t1.mul bn2).mono (n := 200 * i + 88) (by omega))
    rw [e]
    exact ⟨(norm_plus _ _).pos, (frac_num_bn dd u1).mono (by omega), (frac_den_bn dd u2).mono (by omega)⟩
theorem traceF_ok {d : Ds} (h : Wf d) (hd : 0 < det d.mat) : 0 < (traceF d.mat).denominator ∧ Bn 800 (traceF d.mat).numerator ∧ Bn 800 ((traceF d.mat).denominator : Int) := by
  have hm := h.mat
  have n4 := h.n4
  obtain ⟨a, b, c⟩ := traceP_ok hm n4 h.eb hd d.n (Nat.le_refl _)
  unfold traceF
  rw [hm.len]
  exact ⟨a, b.mono (by omega), c.mono (by omega)⟩
section
variable {P : Program} {w : World} {K : PySem.W.Frag} {mg : Str → Option Value} {base : Heap} {D E R N L : Addr}
abbrev s_best_design : Stmt := top 37
abbrev sl_best_design : List Str := ["design", "size", "found", "most", "here", "matrix", "worth"]
theorem sc_best_design : FnScope sl_best_design ["design", "size"] (defScope s_best_design) := ⟨rfl, rfl, rfl, by decide +kernel, rfl, by decide +kernel, by decide +kernel⟩
theorem ok_best_design {f : Addr} {fd : FuncData} (F : Fun K "best_design" "best_design" s_best_design f fd) (T : Txt K mg D E R N L) (c_regular_designs : Cal P w K mg base (L2.CX P w) 9 "regular_designs" ["design", "size"] (spRegDes D N L)) :
    FnOk P w K mg base (L2.CX P w) 10 f fd ["design", "size"] (spBestDesign D N L) := by
  refine F.okX sc_best_design (fun vs H Q E h => ?_) (fun cdv A outer s H vs Q E hr h => ⟨_, (pss_cons (ps_par (i := 2) (j := 3) rfl sc_best_design.nd rfl rfl (by decide) rfl rfl (pa_cons (pv 0) (pa_cons pe_int pa_nil)) (by rfl))
      (pss_cons (ps_for (passes_of rfl) rfl (pi_list (pe_cal c_regular_designs (hr.mono (by decide)) (passes_call (takes_of rfl rfl rfl rfl) (fun _ _ _ _ h => h)) (pa_cons (pv 0) (pa_cons (pv 1) pa_nil)))) (pg_tup (by rfl) (pgs_cons (pg_name (i := 4) sc_best_design.nd rfl (by first | exact Or.inl rfl | exact Or.inr rfl)) (pgs_cons (pg_name (i := 5) sc_best_design.nd rfl (by first | exact Or.inl rfl | exact Or.inr rfl)) (pgs_cons (pg_name (i := 6) sc_best_design.nd rfl (by first | exact Or.inl rfl | exact Or.inr rfl)) pgs_nil))))
      (pss_one (ps_if (pt_cmpR op_gt (pv 6) (pv 3) (nomark _)) (pss_one (ps_par (i := 2) (j := 3) rfl sc_best_design.nd rfl rfl (by decide) rfl rfl (pa_cons (pv 4) (pa_cons (pv 6) pa_nil)) (by rfl))) pss_nil)))
      (pss_one (ps_ret (pe_tup (pa_cons (pv 2) (pa_cons (pv 3) pa_nil))))))), ?_⟩)
  · obtain ⟨_, _, _, rfl, _⟩ := h; rfl
  obtain ⟨a, d, sz, rfl, hh, wf, hs, qL, q⟩ := h
  refine ⟨_, rfl, _, _, rfl, ?_⟩
  refine ⟨_, rfl, _, rfl, a, d, sz, rfl, hh, wf, hs, qL, fun hle => ⟨(q hle).1, fun z H1 p1 as s1 hp1 ht1 => ?_⟩⟩
  obtain ⟨_, qY⟩ := q hle
  have qY := qY z
  refine ⟨p1, rfl, ⟨_, SqL.of hp1⟩, for_it (walk_list (xs := as.map V.ref))
    (fun i σ H' => ∃ (v1 v2 v3 : Option V) (pf : Addr), σ = [some (.ref a), some (.int sz), some (.ref pf), some (.int (((rds d sz).take i).foldl bdStep (d, 0)).2), v1, v2, v3] ∧ Same H1 H' ∧ HasD D H' pf (((rds d sz).take i).foldl bdStep (d, 0)).1)
    ⟨none, none, none, a, rfl, Same.refl _, hh.same s1⟩ (fun i σ H' _ h => ?_) ?_ ?_⟩
  · obtain ⟨_, _, _, _, _, s2, _⟩ := h
    exact SqL.of (s2 _ _ hp1)
  · rintro i x σ H2 H3 hi ⟨v1, v2, v3, pf, rfl, s2, hf⟩ ⟨rfl, hx⟩
    obtain ⟨b, hb, rfl⟩ := map_get hx
    obtain ⟨e, ph, pm, he, h1, h2, h3⟩ := (ht1.same s2).get' hb
    have st := foldl_take bdStep (d, 0) he
    generalize hb0 : ((rds d sz).take i).foldl bdStep (d, 0) = b0 at hf st
    refine ⟨b, _, rfl, SqT.of h1, rfl, _, _, rfl, _, _, rfl, _, _, rfl, rfl, ?_⟩
    refine ⟨_, rfl, _, rfl, _, _, rfl, rfl, _, rfl, ?_⟩
    refine ifB (fun c => ?_) (fun c => ?_)
    · have e1 : bdStep b0 e = (e, det e.mat) := if_pos c
      refine ⟨_, rfl, _, rfl, _, _, rfl, ?_⟩
      refine ⟨some (.ref ph), some (.ref pm), some (.int (det e.mat)), ph, ?_, s2, ?_⟩
      · rw [st, e1]; rfl
      · rw [st, e1]; exact h2
    · have e1 : bdStep b0 e = b0 := if_neg c
      refine ⟨some (.ref ph), some (.ref pm), some (.int (det e.mat)), pf, ?_, s2, ?_⟩
      · rw [st, e1]; rfl
      · rw [st, e1]; exact hf
  · rintro σ H2 ⟨v1, v2, v3, pf, rfl, s2, hf⟩
    have et : (rds d sz).take (as.map V.ref).length = rds d sz := List.take_of_length_le (by rw [List.length_map, ht1.length]; exact Nat.le_refl _)
    rw [et] at hf ⊢
    refine ⟨_, rfl, _, rfl, by show 2 ≤ sizeLine; decide, fun t ht => ?_⟩
    exact qY _ t pf ((s1.trans s2).trans (sUp ht)) upd_same (hf.same (sUp ht))
abbrev s_best_by_trace : Stmt := top 38
abbrev sl_best_by_trace : List Str := ["design", "size", "found", "least", "here", "matrix", "worth", "own"]
theorem sc_best_by_trace : FnScope sl_best_by_trace ["design", "size"] (defScope s_best_by_trace) := ⟨rfl, rfl, rfl, by decide +kernel, rfl, by decide +kernel, by decide +kernel⟩
theorem ok_best_by_trace {f : Addr} {fd : FuncData} (F : Fun K "best_by_trace" "best_by_trace" s_best_by_trace f fd) (T : Txt K mg D E R N L) (c_regular_designs : Cal P w K mg base (L2.CX P w) 9 "regular_designs" ["design", "size"] (spRegDes D N L))
    (c_trace : Cal P w K mg base CX0 8 "trace" ["matrix"] (spTrace K)) (c_is_less : Cal P w K mg base CX0 1 "is_less" ["one", "other"] (spIsLess K)) : FnOk P w K mg base (L2.CX P w) 10 f fd ["design", "size"] (spBestTrace K D N L) := by
  refine F.okX sc_best_by_trace (fun vs H Q E h => ?_) (fun cdv A outer s H vs Q E hr h => ⟨_, (pss_cons (ps_par (i := 2) (j := 3) rfl sc_best_by_trace.nd rfl rfl (by decide) rfl rfl (pa_cons (pv 0) (pa_cons pe_non pa_nil)) (by rfl))
      (pss_cons (ps_for (passes_of rfl) rfl (pi_list (pe_cal c_regular_designs (hr.mono (by decide)) (passes_call (takes_of rfl rfl rfl rfl) (fun _ _ _ _ h => h)) (pa_cons (pv 0) (pa_cons (pv 1) pa_nil)))) (pg_tup (by rfl) (pgs_cons (pg_name (i := 4) sc_best_by_trace.nd rfl (by first | exact Or.inl rfl | exact Or.inr rfl)) (pgs_cons (pg_name (i := 5) sc_best_by_trace.nd rfl (by first | exact Or.inl rfl | exact Or.inr rfl)) (pgs_cons (pg_name (i := 6) sc_best_by_trace.nd rfl (by first | exact Or.inl rfl | exact Or.inr rfl)) pgs_nil))))
      (pss_cons (ps_set (i := 7) sc_best_by_trace.nd rfl (by first | exact Or.inl rfl | exact Or.inr rfl) (pe_cal c_trace (hr.mono (by decide)) pass0 (pa_cons (pv 5) pa_nil)))
      (pss_one (ps_if (PW.pt (pw_or (pt_cmpR op_isN (pv 3) pe_non (nomark _)) (pw_or1 (pt_val (pe_cal c_is_less (hr.mono (by decide)) pass0 (pa_cons (pv 7) (pa_cons (pv 3) pa_nil))))))) (pss_one (ps_par (i := 2) (j := 3) rfl sc_best_by_trace.nd rfl rfl (by decide) rfl rfl (pa_cons (pv 4) (pa_cons (pv 7) pa_nil)) (by rfl))) pss_nil))))
      (pss_one (ps_ret (pe_tup (pa_cons (pv 2) (pa_cons (pv 3) pa_nil))))))), ?_⟩)
  · obtain ⟨_, _, _, rfl, _⟩ := h; rfl
  obtain ⟨a, d, sz, rfl, hh, wf, hs, qL, q⟩ := h
  refine ⟨_, rfl, _, _, rfl, ?_⟩
  refine ⟨_, rfl, _, rfl, a, d, sz, rfl, hh, wf, hs, qL, fun hle => ⟨(q hle).1, fun z H1 p1 as s1 hp1 ht1 => ?_⟩⟩
  obtain ⟨_, qY⟩ := q hle
  have qY := qY z
  have hfull := rds_full wf hs
  refine ⟨p1, rfl, ⟨_, SqL.of hp1⟩, for_it (walk_list (xs := as.map V.ref))
    (fun i σ H' => ∃ (v1 v2 v3 v4 : Option V) (pf : Addr) (vl : V), σ = [some (.ref a), some (.int sz), some (.ref pf), some vl, v1, v2, v3, v4] ∧ Same H1 H' ∧ HasD D H' pf (((rds d sz).take i).foldl btStep (d, none)).1 ∧
      (match (((rds d sz).take i).foldl btStep (d, none)).2 with | none => vl = .non | some t => (∃ e ∈ rds d sz, t = traceF e.mat) ∧ ∃ pt, vl = .ref pt ∧ IsF K H' pt t))
    ⟨none, none, none, none, a, .non, rfl, Same.refl _, hh.same s1, rfl⟩ (fun i σ H' _ h => ?_) ?_ ?_⟩
  · obtain ⟨_, _, _, _, _, _, _, s2, _⟩ := h
    exact SqL.of (s2 _ _ hp1)
  · rintro i x σ H2 H3 hi ⟨v1, v2, v3, v4, pf, vl, rfl, s2, hf, hv⟩ ⟨rfl, hx⟩
    obtain ⟨b, hb, rfl⟩ := map_get hx
    obtain ⟨e, ph, pm, he, h1, h2, h3⟩ := (ht1.same s2).get' hb
    have hem := List.mem_of_getElem? he
    obtain ⟨fe, dp⟩ := hfull e hem
    have st := foldl_take btStep (d, none) he
    generalize hb0 : ((rds d sz).take i).foldl btStep (d, none) = b0 at hf st hv
    have tok := traceF_ok fe.wf dp
    refine ⟨b, _, rfl, SqT.of h1, rfl, _, _, rfl, _, _, rfl, _, _, rfl, rfl, ?_⟩
    refine ⟨_, rfl, e.n, pm, e.mat, rfl, h3, fe.wf.mat, fe.wf.n1, fe.wf.n4, fe.wf.eb, dp, fun H4 pt s4 t4 => ?_⟩
    have s24 : Same H1 H4 := s2.trans s4
    obtain ⟨b1, b2⟩ := b0
    cases b2 with
    | none =>
      have hv : vl = .non := hv
      subst hv
      have e1 : btStep (b1, none) e = (e, some (traceF e.mat)) := rfl
      refine ⟨_, rfl, rfl, _, rfl, ?_⟩
      refine ⟨_, rfl, _, rfl, _, _, rfl, ?_⟩
      refine ⟨some (.ref ph), some (.ref pm), some (.int (det e.mat)), some (.ref pt), ph, .ref pt, rfl, s24, ?_, ?_⟩
      · rw [st, e1]; exact h2.same s4
      · rw [st, e1]; exact ⟨⟨e, hem, rfl⟩, pt, rfl, t4⟩
    | some t =>
      obtain ⟨⟨e0, he0, rfl⟩, po, rfl, hpo⟩ := hv
      obtain ⟨fe0, dp0⟩ := hfull e0 he0
      have tok0 := traceF_ok fe0.wf dp0
      refine ⟨_, rfl, rfl, _, rfl, ?_⟩
      refine ⟨_, rfl, _, rfl, pt, po, traceF e.mat, traceF e0.mat, rfl, t4, hpo.same s4, tok.2.1.mono (by omega), tok.2.2.mono (by omega), tok0.2.1.mono (by omega), tok0.2.2.mono (by omega), _, rfl, ?_⟩
      cases hl : Kxd5.isLess (traceF e.mat) (traceF e0.mat) with
      | true =>
        have e1 : btStep (b1, some (traceF e0.mat)) e = (e, some (traceF e.mat)) := if_pos hl
        refine ⟨_, rfl, _, rfl, _, _, rfl, ?_⟩
        refine ⟨some (.ref ph), some (.ref pm), some (.int (det e.mat)), some (.ref pt), ph, .ref pt, rfl, s24, ?_, ?_⟩
        · rw [st, e1]; exact h2.same s4
        · rw [st, e1]; exact ⟨⟨e, hem, rfl⟩, pt, rfl, t4⟩
      | false =>
        have e1 : btStep (b1, some (traceF e0.mat)) e = (b1, some (traceF e0.mat)) := if_neg (by rw [hl]; exact Bool.false_ne_true)
        refine ⟨some (.ref ph), some (.ref pm), some (.int (det e.mat)), some (.ref pt), pf, .ref po, rfl, s24, ?_, ?_⟩
        · rw [st, e1]; exact hf.same s4
        · rw [st, e1]; exact ⟨⟨e0, he0, rfl⟩, po, rfl, hpo.same s4⟩
  · rintro σ H2 ⟨v1, v2, v3, v4, pf, vl, rfl, s2, hf, hv⟩
    have et : (rds d sz).take (as.map V.ref).length = rds d sz := List.take_of_length_le (by rw [List.length_map, ht1.length]; exact Nat.le_refl _)
    rw [et] at hf hv
    have some2 : ∃ t, (btF d sz).2 = some t := by
      unfold btF
      cases hl : rds d sz with
      | nil => exact absurd hl z
      | cons e r =>
        have key : ∀ (l : List Ds) (b : Ds × Option Kxd5.Fraction), (∃ t, b.2 = some t) → ∃ t, (l.foldl btStep b).2 = some t := by
          intro l
          induction l with
          | nil => exact fun b h => h
          | cons x l ih =>
            intro b h
            refine ih _ ?_
            obtain ⟨t, ht⟩ := h
            unfold btStep
            rw [ht]
            dsimp only
            split
            · exact ⟨_, rfl⟩
            · exact ⟨t, ht⟩
        exact key r _ ⟨_, rfl⟩
    obtain ⟨t, ht2⟩ := some2
    change (match (btF d sz).2 with | none => vl = .non | some t => (∃ e ∈ rds d sz, t = traceF e.mat) ∧ ∃ pt, vl = .ref pt ∧ IsF K H2 pt t) at hv
    rw [ht2] at hv
    obtain ⟨_, pt, rfl, hpt⟩ := hv
    refine ⟨_, rfl, _, rfl, by show 2 ≤ sizeLine; decide, fun p hp => ?_⟩
    exact qY _ p pf pt t ((s1.trans s2).trans (sUp hp)) ht2 upd_same (hf.same (sUp hp)) (hpt.same (sUp hp))
end
end Bd
set_option maxRecDepth 100000
set_option maxHeartbeats 4000000
namespace Bd
open PySem PySem.Spec PyProof.Rows L2
/-! ## searching.py: weights -/
theorem nextA_get {n : Nat} {rows : List Row} {a : List Int} {i : Nat} {y : Int} (h : (nextA n rows a)[i]? = some y) : ∃ r x, rows[i]? = some r ∧ a[i]? = some x ∧ y = x * weighed (cofactors (information n rows a)) r := by
  unfold nextA at h
  rw [List.getElem?_zipWith] at h
  cases e1 : rows[i]? with
  | none => rw [e1] at h; cases h
  | some r =>
    cases e2 : a[i]? with
    | none => rw [e1, e2] at h; cases h
    | some x =>
      rw [e1, e2] at h
      exact ⟨r, x, rfl, rfl, (Option.some.inj h).symm⟩
/-- the whole numbers' matrix is bounded -/
theorem GoodW.eb {n k : Nat} {rows : List Row} {ws : List Kxd5.Fraction} {a : List Int} {D : Int} (g : GoodW n rows k ws a D) (re : EV 10 rows) (rk : rows.length ≤ 10) {cs : List Int} (hc : ∀ c ∈ cs, Bn k c) : EB (k + 10) (information n rows cs) := by
  refine (info_ev (k := 2 ^ k) re hc rk).eb ?_
  rw [Nat.pow_add, Nat.mul_comm]
  exact Nat.mul_le_mul_left _ (by decide)
theorem GoodW.next {n k : Nat} {rows : List Row} {ws : List Kxd5.Fraction} {a : List Int} {D : Int} (g : GoodW n rows k ws a D) (h1 : 1 ≤ n) (h4 : n ≤ 4) (hr : ∀ r ∈ rows, r.length = n) (re : EV 10 rows) (rk : rows.length ≤ 10) :
    GoodW n rows (5 * k + 60) (soF n rows ws) (nextA n rows a) ((n : Int) * Bd.det (information n rows a)) := by
  have rA := g.rwA hr
  have mA := info_isMat rA
  have eb := g.eb re rk g.bn
  have bd := det_bn eb mA h4
  have vn : ∀ r ∈ rows, 0 ≤ weighed (cofactors (information n rows a)) r ∧ (weighed (cofactors (information n rows a)) r = 0 → ∀ x ∈ r, x = 0) := fun r h => by
    rw [weighed_cof h1 h4 mA (hr r h)]
    exact info_var_nn h1 h4 rA g.det (hr r h)
  have len : (nextA n rows a).length = rows.length := by unfold nextA; rw [List.length_zipWith, g.len]; omega
  have nn : ∀ x ∈ nextA n rows a, 0 ≤ x := fun y hy => by
    obtain ⟨i, hi⟩ := List.getElem?_of_mem hy
    obtain ⟨r, x, hr', hx, rfl⟩ := nextA_get hi
    exact Int.mul_nonneg (g.nn x (List.mem_of_getElem? hx)) (vn r (List.mem_of_getElem? hr')).1
  refine ⟨Int.mul_pos (by omega) g.det, ?_, g.step h1 h4 hr, len, nn, fun y hy => ?_, ?_⟩
  · exact ((bn_of_le (x := (n : Int)) (n := 2) (k := 4) (by omega) (by decide)).mul bd).mono (by omega)
  · obtain ⟨i, hi⟩ := List.getElem?_of_mem hy
    obtain ⟨r, x, hr', hx, rfl⟩ := nextA_get hi
    have hm := List.mem_of_getElem? hr'
    have wb := weighed_bn (a := 4) (cofactors_bn eb mA h4) (fun x hx => bn_of_le (re r hm x hx) (by decide)) (by rw [hr r hm]; exact h4)
    exact ((g.bn x (List.mem_of_getElem? hx)).mul wb).mono (by omega)
  · refine info_stays h1 h4 rA ⟨hr, nn⟩ g.det (by rw [len, g.len]) fun i r c c' h2 h3 h5 cp ⟨x, hx, x0⟩ => ?_
    obtain ⟨r', x', hr', hx', rfl⟩ := nextA_get h5
    rw [h2] at hr'
    rw [h3] at hx'
    obtain rfl := Option.some.inj hr'
    obtain rfl := Option.some.inj hx'
    obtain ⟨v1, v2⟩ := vn r (List.mem_of_getElem? h2)
    have : weighed (cofactors (information n rows a)) r ≠ 0 := fun z => x0 (v2 z x hx)
    exact Int.mul_pos cp (by omega)
theorem GoodW.w_ok {n k : Nat} {rows : List Row} {ws : List Kxd5.Fraction} {a : List Int} {D : Int} (g : GoodW n rows k ws a D) {w : Kxd5.Fraction} (hw : w ∈ ws) : 0 < w.denominator ∧ Bn k w.numerator ∧ Bn k (w.denominator : Int) := by
  obtain ⟨x, hx, rfl⟩ := g.mem hw
  exact ⟨(norm_fraction _ _).pos, frac_num_bn g.dp (g.bn x hx), frac_den_bn g.dp g.db⟩
def spShared (K : PySem.W.Frag) : Sp := fun vs H Q _ => ∃ (a : Addr) (ws : List Kxd5.Fraction) (D : Int), vs = [.ref a] ∧ IsFs H a ws ∧ 0 < D ∧ Bn 2000 D ∧ (∀ w ∈ ws, 0 < w.denominator ∧ (w.denominator : Int) ∣ D) ∧ ∀ H', Same H H' → Q (.int (sb ws)) H'
def spSteppedOn : Sp := fun vs H Q _ => ∃ (n k : Nat) (r w : Addr) (rows : List Row) (ws : List Kxd5.Fraction) (a : List Int) (D : Int), vs = [.int n, .ref r, .ref w] ∧ IsM H r rows ∧ IsFs H w ws ∧ GoodW n rows k ws a D ∧ k ≤ 460 ∧ 1 ≤ n ∧ n ≤ 4 ∧
  (∀ r ∈ rows, r.length = n) ∧ EV 10 rows ∧ rows.length ≤ 10 ∧ ∀ H' p, Same H H' → IsFs H' p (soF n rows ws) → Q (.ref p) H'
def ones (d : Ds) : Ds := d.to (List.replicate d.rows.length 1)
def wbF (d : Ds) : Nat → List Kxd5.Fraction
  | 0 => d.rows.map fun _ => Kxd5.fraction 1 (d.rows.length : Int)
  | k + 1 => soF d.n d.rows (wbF d k)
def alp : Nat → Nat
  | 0 => 4
  | k + 1 => 5 * alp k + 60
def spWeights (D N : Addr) : Sp := fun vs H Q E => ∃ (a : Addr) (d : Ds) (s : Nat), vs = [.ref a, .int s] ∧ HasD D H a d ∧ Wf d ∧ s ≤ 3 ∧ (det (ones d).mat = 0 → ∀ H', Same H H' → E (.ref N) none H') ∧
  (det (ones d).mat ≠ 0 → ∀ H' p, Same H H' → IsFs H' p (wbF d s) → Q (.ref p) H')
theorem Wf.ones {d : Ds} (h : Wf d) : Wf (ones d) := h.to (by simp) fun c hc => by rw [List.eq_of_mem_replicate hc]; decide
theorem wb_good {d : Ds} (h : Wf d) (z : det (ones d).mat ≠ 0) : ∀ k, ∃ a D, GoodW d.n d.rows (alp k) (wbF d k) a D
  | 0 => by
    have ne : d.rows ≠ [] := h.ones.rows_ne z
    have lp : 0 < d.rows.length := List.length_pos_iff.mpr ne
    have nn := h.ones.nn
    refine ⟨List.replicate d.rows.length 1, (d.rows.length : Int), by omega, bn_of_le (k := 10) (by have := h.rk; omega) (by decide), ?_, by simp, fun x hx => by rw [List.eq_of_mem_replicate hx]; decide, fun x hx => by rw [List.eq_of_mem_replicate hx]; exact Bn.one, ?_⟩
    · show d.rows.map _ = _
      rw [List.map_replicate]
      exact List.map_const' ..
    · have z' : det (information d.n d.rows (List.replicate d.rows.length 1)) ≠ 0 := z
      have nn' : 0 ≤ det (information d.n d.rows (List.replicate d.rows.length 1)) := nn
      omega
  | k + 1 => by
    obtain ⟨a, D, g⟩ := wb_good h z k
    exact ⟨_, _, g.next h.n1 h.n4 h.rl h.re h.rk⟩
section
variable {P : Program} {w : World} {K : PySem.W.Frag} {mg : Str → Option Value} {base : Heap} {D E R N L : Addr}
abbrev s_shared_below : Stmt := top 39
abbrev sl_shared_below : List Str := ["weights", "found", "weight"]
theorem sc_shared_below : FnScope sl_shared_below ["weights"] (defScope s_shared_below) := ⟨rfl, rfl, rfl, by decide +kernel, rfl, by decide +kernel, by decide +kernel⟩
theorem ok_shared_below {f : Addr} {fd : FuncData} (F : Fun K "shared_below" "shared_below" s_shared_below f fd) (T : Txt K mg D E R N L) (c_ratio : Cal P w K mg base CX0 2 "ratio" ["above", "below"] spRatio) :
    FnOk P w K mg base CX0 3 f fd ["weights"] (spShared K) := by
  refine F.ok sc_shared_below (fun vs H Q E h => ?_) (fun cdv A outer s H vs Q E hr h => ⟨_, (pss_cons (ps_set (i := 1) sc_shared_below.nd rfl (by first | exact Or.inl rfl | exact Or.inr rfl) pe_int)
      (pss_cons (ps_for PassesOwn.never rfl (pi_list (pv 0)) (pg_name (i := 2) sc_shared_below.nd rfl (by first | exact Or.inl rfl | exact Or.inr rfl))
      (pss_one (ps_set (i := 1) sc_shared_below.nd rfl (by first | exact Or.inl rfl | exact Or.inr rfl) (pe_op op_mulW (pv 1) (pe_ix ix_tup (pe_cal c_ratio (hr.mono (by decide)) pass0 (pa_cons (pv 1) (pa_cons (pe_ix ix_tup (pv 2) pe_int (fun _ _ => rfl)) pa_nil))) pe_int (fun _ _ => rfl))))))
      (pss_one (ps_ret (pv 1))))), ?_⟩)
  · obtain ⟨_, _, _, rfl, _⟩ := h; rfl
  obtain ⟨a, ws, Dn, rfl, ⟨as, ha, hF⟩, hD, bD, hw, q⟩ := h
  refine ⟨_, rfl, a, rfl, ⟨_, SqL.of ha⟩, for_it (walk_list (xs := as.map V.ref))
    (fun i σ H' => ∃ v1 : Option V, σ = [some (.ref a), some (.int ((ws.take i).foldl sbStep 1)), v1] ∧ Same H H' ∧ 0 < (ws.take i).foldl sbStep 1 ∧ (ws.take i).foldl sbStep 1 ∣ Dn)
    ⟨none, rfl, Same.refl _, by show (0 : Int) < 1; decide, Int.one_dvd _⟩ (fun i σ H' _ h => ?_) ?_ ?_⟩
  · obtain ⟨_, _, s1, _⟩ := h
    exact SqL.of (s1 _ _ ha)
  · rintro i x σ H1 H2 hi ⟨v1, rfl, s1, p1, d1⟩ ⟨rfl, hx⟩
    obtain ⟨b, hb, rfl⟩ := map_get hx
    obtain ⟨wt, hwt, hT⟩ := (hF.same s1).get' hb
    obtain ⟨wp, wd⟩ := hw wt (List.mem_of_getElem? hwt)
    have st := foldl_take sbStep 1 hwt
    obtain ⟨a1, a2, a3, a4⟩ := sbStep_ok p1 wp d1 wd
    generalize (ws.take i).foldl sbStep 1 = fnd at st p1 d1 a1 a2 a3 a4
    have le : ∀ {y : Int}, y ∣ Dn → 0 < y → Bn 2000 y := fun {y} hy hp => by
      have := Int.le_of_dvd hD hy
      unfold Bn at *
      omega
    have bf := le d1 p1
    have bw := le wd (by omega)
    refine ⟨_, rfl, _, rfl, _, rfl, b, _, 1, _, rfl, rfl, SqT.of hT, atI_nat (j := 1) rfl, fnd, _, rfl, by omega, bw.mono (by omega), fun p hp => ?_⟩
    refine ⟨p, _, 1, _, rfl, rfl, SqT.of upd_same, atI_nat (j := 1) rfl, _, _, rfl, rfl, bf.cm (frac_den_bn (by omega) bw) (by omega), ?_⟩
    refine ⟨some (.ref b), ?_, s1.trans (sUp hp), ?_, ?_⟩
    · rw [st]; rfl
    · rw [st]; exact a1
    · rw [st]; exact a4
  · rintro σ H1 ⟨v1, rfl, s1, p1, d1⟩
    have et : ws.take (as.map V.ref).length = ws := List.take_of_length_le (by rw [List.length_map, hF.length]; exact Nat.le_refl _)
    rw [et]
    exact ⟨_, rfl, q _ s1⟩
abbrev s_stepped_on : Stmt := top 40
abbrev sl_stepped_on : List Str := ["columns", "rows", "weights", "below", "matrix", "size", "adjoined", "found", "row", "weight", "here"]
theorem sc_stepped_on : FnScope sl_stepped_on ["columns", "rows", "weights"] (defScope s_stepped_on) := ⟨rfl, rfl, rfl, by decide +kernel, rfl, by decide +kernel, by decide +kernel⟩
theorem ok_stepped_on {f : Addr} {fd : FuncData} (F : Fun K "stepped_on" "stepped_on" s_stepped_on f fd) (T : Txt K mg D E R N L) (c_shared_below : Cal P w K mg base CX0 3 "shared_below" ["weights"] (spShared K))
    (c_information : Cal P w K mg base CX0 2 "information" ["columns", "rows", "counts"] spInfo) (c_determinant : Cal P w K mg base CX0 6 "determinant" ["matrix"] (spDet 5)) (c_cofactors : Cal P w K mg base CX0 8 "cofactors" ["matrix"] spCofs)
    (c_variance : Cal P w K mg base CX0 3 "variance" ["adjoined", "size", "vector"] spVariance) (c_ratio : Cal P w K mg base CX0 2 "ratio" ["above", "below"] spRatio) (c_times : Cal P w K mg base CX0 3 "times" ["one", "other"] (spTimes K)) :
    FnOk P w K mg base CX0 9 f fd ["columns", "rows", "weights"] spSteppedOn := by
  refine F.ok sc_stepped_on (fun vs H Q E h => ?_) (fun cdv A outer s H vs Q E hr h => ⟨_, (pss_cons (ps_set (i := 3) sc_stepped_on.nd rfl (by first | exact Or.inl rfl | exact Or.inr rfl) (pe_cal c_shared_below (hr.mono (by decide)) pass0 (pa_cons (pv 2) pa_nil)))
      (pss_cons (ps_set (i := 4) sc_stepped_on.nd rfl (by first | exact Or.inl rfl | exact Or.inr rfl) (pe_cal c_information (hr.mono (by decide)) pass0 (pa_cons (pv 0) (pa_cons (pv 1) (pa_cons (pe_lc (own := [("weight", 9)]) (g := gName 9) (tt := tYes) rfl sc_stepped_on.nd (pi_list (pv 2)) (blkOk_by (N := sl_stepped_on) (sc := defScope s_stepped_on) (by decide +kernel)) (fun _ _ _ _ _ => (pg_name (i := 9) sc_stepped_on.nd rfl (by first | exact Or.inl rfl | exact Or.inr rfl))) (fun _ _ _ _ _ => pts_nil) (fun _ _ _ _ _ => (pe_op op_mulW (pe_ix (show IxR _ (rIxT K) from ix_tup) (pv 9) pe_int (fun _ _ => rfl)) (pe_op op_fdivW (pv 3) (pe_ix (show IxR _ (rIxT K) from ix_tup) (pv 9) pe_int (fun _ _ => rfl)))))) pa_nil)))))
      (pss_cons (ps_par (i := 5) (j := 6) rfl sc_stepped_on.nd rfl rfl (by decide) rfl rfl (pa_cons (pe_cal c_determinant (hr.mono (by decide)) pass0 (pa_cons (pv 4) pa_nil)) (pa_cons (pe_cal c_cofactors (hr.mono (by decide)) pass0 (pa_cons (pv 4) pa_nil)) pa_nil)) (by rfl))
      (pss_cons (ps_set (i := 7) sc_stepped_on.nd rfl (by first | exact Or.inl rfl | exact Or.inr rfl) (pe_lst pa_nil))
      (pss_cons (ps_for PassesOwn.never rfl (pi_zip (by rfl) T.n_zip (pa_cons (pv 1) (pa_cons (pv 2) pa_nil))) (pg_tup (by rfl) (pgs_cons (pg_name (i := 8) sc_stepped_on.nd rfl (by first | exact Or.inl rfl | exact Or.inr rfl)) (pgs_cons (pg_name (i := 9) sc_stepped_on.nd rfl (by first | exact Or.inl rfl | exact Or.inr rfl)) pgs_nil)))
      (pss_cons (ps_set (i := 10) sc_stepped_on.nd rfl (by first | exact Or.inl rfl | exact Or.inr rfl) (pe_cal c_times (hr.mono (by decide)) pass0 (pa_cons (pe_cal c_variance (hr.mono (by decide)) pass0 (pa_cons (pv 6) (pa_cons (pv 5) (pa_cons (pv 8) pa_nil)))) (pa_cons (pe_cal c_ratio (hr.mono (by decide)) pass0 (pa_cons (pv 3) (pa_cons (pv 0) pa_nil))) pa_nil))))
      (pss_one (ps_expr (pe_bm PySem.F.plainAttrs_list PySem.F.slot_list_append PySem.F.type_list_append mt_append (pv 7) (pa_cons (pe_cal c_times (hr.mono (by decide)) pass0 (pa_cons (pv 9) (pa_cons (pv 10) pa_nil))) pa_nil))))))
      (pss_one (ps_ret (pv 7)))))))), ?_⟩)
  · obtain ⟨_, _, _, _, _, _, _, _, rfl, _⟩ := h; rfl
  obtain ⟨n, k, r, wa, rows, ws, a, Dn, rfl, hR, hW, g, k4, n1, n4, rl, re, rk, q⟩ := h
  obtain ⟨was, hwa, hwF⟩ := id hW
  have lw : ws.length = rows.length := by rw [g.eq, List.length_map, g.len]
  have sbb := g.sb_bn
  have sbp := g.sb.1
  refine ⟨_, rfl, wa, ws, Dn, rfl, hW, g.dp, g.db.mono (by omega), fun w hw => g.den hw, fun H1 s1 => ?_⟩
  refine ⟨_, rfl, _, rfl, _, rfl, wa, rfl, ⟨_, SqL.of (s1 _ _ hwa)⟩, fun D1 hD1 => lc_it (walk_list (xs := was.map V.ref)) (fun i H' => Same H1 H' ∧ H' D1 = some (.lst (vI ((wCounts ws).take i))))
    ⟨sUp hD1, upd_same⟩ (fun i H' _ h => SqL.of (h.1 _ _ (s1 _ _ hwa))) ?_ ?_⟩
  · rintro i x H2 H3 hi ⟨s2, hD2⟩ ⟨rfl, hx⟩
    obtain ⟨b, hb, rfl⟩ := map_get hx
    obtain ⟨wt, hwt, hT⟩ := (hwF.same (s1.trans s2)).get' hb
    have hm := List.mem_of_getElem? hwt
    obtain ⟨w1, w2, w3⟩ := g.w_ok hm
    have bq : Bn k (sb ws / (wt.denominator : Int)) := Nat.le_trans (natAbs_ediv_le _ _) sbb
    refine ⟨rfl, ?_⟩
    refine ⟨_, rfl, b, _, 0, _, rfl, rfl, SqT.of hT, atI_nat (j := 0) rfl, _, rfl, _, rfl, b, _, 1, _, rfl, rfl, SqT.of hT, atI_nat (j := 1) rfl, _, _, rfl, rfl, w3.cd (by omega) (by omega), ?_⟩
    refine ⟨_, _, rfl, rfl, w2.cm bq (by omega), _, hD2, ?_, sUps s2 hD1, ?_⟩
    · exact small1000 (by rw [List.length_map, List.length_take]; unfold wCounts; rw [List.length_map]; omega)
    · rw [upd_same, take_next (l := wCounts ws) (x := wt.numerator * (sb ws / (wt.denominator : Int))) (by unfold wCounts; rw [List.getElem?_map, hwt]; rfl)]
      simp
  · rintro H2 ⟨s2, hD2⟩
    rw [List.take_of_length_le (by unfold wCounts; rw [List.length_map, List.length_map, hwF.length]; exact Nat.le_refl _)] at hD2
    have s02 := s1.trans s2
    have mC : IsMat n (soMat n rows ws) := info_isMat (g.rwC rl)
    have eb : EB 470 (soMat n rows ws) := (g.eb re rk fun c hc => (g.c_mem hc).2).mono (by omega)
    have dpos := g.c_det n1 n4 rl
    have bd := det_bn eb mC n4
    have cb := cofactors_bn eb mC n4
    refine ⟨n, r, D1, rows, wCounts ws, rfl, hR.same s02, hD2, by omega, by rw [g.c_len], rl, fun x hx => (g.c_mem hx).2.mono (by omega), re.eb (Nat.le_trans (by decide : 10 ≤ 2 ^ 4) (Nat.pow_le_pow_right (by decide) (by decide))), fun H3 pm s3 m3 => ?_⟩
    change IsM H3 pm (soMat n rows ws) at m3
    refine ⟨_, rfl, pm, _, 470, rfl, m3, by rw [mC.len]; exact mC, by rw [mC.len]; omega, by rw [mC.len]; exact n4, eb, by omega, fun H4 s4 => ?_⟩
    refine ⟨_, rfl, n, pm, _, 470, rfl, m3.same s4, mC, n4, eb, by omega, fun H5 pc s5 m5 => ⟨_, _, rfl, ?_⟩⟩
    have s05 : Same H H5 := s02.trans (s3.trans (s4.trans s5))
    refine ⟨Nat.zero_le _, fun pf hpf => ?_⟩
    have s6 : Same H5 (upd H5 pf (.lst [])) := sUp hpf
    have s06 := s05.trans s6
    obtain ⟨ras, hra, hrR⟩ := id hR
    refine ⟨_, rfl, _, rfl, r, wa, ras.map V.ref, was.map V.ref, rfl, SqL.of (s06 _ _ hra), SqL.of (s06 _ _ hwa), for_it (walk_zip (xs := ras.map V.ref) (ys := was.map V.ref) (n := rows.length) (by simp [hrR.length, hwF.length, lw]))
      (fun i σ H' => ∃ (v1 v2 v3 : Option V) (bs : List Addr), σ = [some (.int n), some (.ref r), some (.ref wa), some (.int (sb ws)), some (.ref pm), some (.int (det (soMat n rows ws))), some (.ref pc), some (.ref pf), v1, v2, v3] ∧ Same H5 H' ∧
        H' pf = some (.lst (bs.map V.ref)) ∧ FsAt H' bs ((soF n rows ws).take i))
      ⟨none, none, none, [], rfl, s6, upd_same, trivial⟩ (fun i σ H' _ h => ?_) ?_ ?_⟩
    · obtain ⟨_, _, _, _, _, s7, _⟩ := h
      exact ⟨SqL.of (s7 _ _ (s05 _ _ hra)), SqL.of (s7 _ _ (s05 _ _ hwa))⟩
    · rintro i x σ H6 H7 hi ⟨v1, v2, v3, bs, rfl, s7, hpb, hbs⟩ ⟨T0, x1, y1, rfl, hT, rfl, hx, hy⟩
      obtain ⟨b, hb1, rfl⟩ := map_get hx
      obtain ⟨c, hc1, rfl⟩ := map_get hy
      obtain ⟨row, hrow, hrowH⟩ := hrR.get' hb1
      obtain ⟨wt, hwt, hwT⟩ := hwF.get' hc1
      have hm := List.mem_of_getElem? hrow
      have hmw := List.mem_of_getElem? hwt
      obtain ⟨w1, w2, w3⟩ := g.w_ok hmw
      have s8 : Same H5 (upd H6 T0 (.tup [.ref b, .ref c])) := sUps s7 (s7.free hT)
      have t8 : Same H6 (upd H6 T0 (.tup [.ref b, .ref c])) := sUp hT
      refine ⟨T0, _, rfl, SqT.of upd_same, rfl, _, _, rfl, _, _, rfl, rfl, ?_⟩
      generalize upd H6 T0 (.tup [.ref b, .ref c]) = H8 at s8 t8
      have wb : Bn 1910 (weighed (cofactors (soMat n rows ws)) row) := (weighed_bn (a := 4) cb (fun x hx => bn_of_le (re row hm x hx) (by decide)) (by rw [rl row hm]; exact n4)).mono (by omega)
      refine ⟨_, rfl, _, rfl, _, rfl, n, pc, b, cofactors (soMat n rows ws), row, det (soMat n rows ws), rfl, m5.same s8, (s05.trans s8) _ _ hrowH, cofactors_isMat mC, rl row hm, n4, cb.mono (by omega), fun x hx => (bn_of_le (n := 4) (re row hm x hx) (by decide)).mono (by omega), dpos, bd.mono (by omega), fun H9 pv s9 tv => ?_⟩
      have f1 : Bn 1910 (Kxd5.fraction (weighed (cofactors (soMat n rows ws)) row) (det (soMat n rows ws))).numerator := frac_num_bn dpos wb
      have f2 : Bn 1910 ((Kxd5.fraction (weighed (cofactors (soMat n rows ws)) row) (det (soMat n rows ws))).denominator : Int) := frac_den_bn dpos (bd.mono (by omega))
      have fp := (norm_fraction (weighed (cofactors (soMat n rows ws)) row) (det (soMat n rows ws))).pos
      have bn : Bn 2 (n : Int) := bn_of_le (k := 4) (by omega) (by decide)
      have np : (0 : Int) < (n : Int) := by omega
      refine ⟨_, rfl, _, rfl, sb ws, n, rfl, np, bn.mono (by omega), fun pr hpr => ?_⟩
      have s10 : Same H9 (upd H9 pr (.tup [.int (Kxd5.fraction (sb ws) (n : Int)).numerator, .int ((Kxd5.fraction (sb ws) (n : Int)).denominator : Int)])) := sUp hpr
      have e1 : Bn 460 (Kxd5.fraction (sb ws) (n : Int)).numerator := (frac_num_bn np sbb).mono k4
      have e2 : Bn 2 ((Kxd5.fraction (sb ws) (n : Int)).denominator : Int) := frac_den_bn np bn
      have ep := (norm_fraction (sb ws) (n : Int)).pos
      have er : IsT (upd H9 pr (.tup [.int (Kxd5.fraction (sb ws) (n : Int)).numerator, .int ((Kxd5.fraction (sb ws) (n : Int)).denominator : Int)])) pr (Kxd5.fraction (sb ws) (n : Int)) := upd_same
      generalize upd H9 pr (.tup [.int (Kxd5.fraction (sb ws) (n : Int)).numerator, .int ((Kxd5.fraction (sb ws) (n : Int)).denominator : Int)]) = H10 at s10 er
      refine ⟨pv, pr, _, Kxd5.fraction (sb ws) (n : Int), rfl, (tv.same s10).f, er.f, fp, ep, f1.mono (by omega), f2.mono (by omega), e1.mono (by omega), e2.mono (by omega), fun ph hph => ?_⟩
      have mp : (0 : Int) < ((Kxd5.fraction (weighed (cofactors (soMat n rows ws)) row) (det (soMat n rows ws))).denominator : Int) * ((Kxd5.fraction (sb ws) (n : Int)).denominator : Int) := Int.mul_pos (by omega) (by omega)
      have h1 : Bn 2370 (Kxd5.times (Kxd5.fraction (weighed (cofactors (soMat n rows ws)) row) (det (soMat n rows ws))) (Kxd5.fraction (sb ws) (n : Int))).numerator := frac_num_bn mp ((f1.mul e1).mono (by omega))
      have h2 : Bn 2370 ((Kxd5.times (Kxd5.fraction (weighed (cofactors (soMat n rows ws)) row) (det (soMat n rows ws))) (Kxd5.fraction (sb ws) (n : Int))).denominator : Int) := frac_den_bn mp ((f2.mul e2).mono (by omega))
      have hp := (norm_times (Kxd5.fraction (weighed (cofactors (soMat n rows ws)) row) (det (soMat n rows ws))) (Kxd5.fraction (sb ws) (n : Int))).pos
      generalize hQ : Kxd5.times (Kxd5.fraction (weighed (cofactors (soMat n rows ws)) row) (det (soMat n rows ws))) (Kxd5.fraction (sb ws) (n : Int)) = hf at h1 h2 hp
      have s11 : Same H10 (upd H10 ph (.tup [.int hf.numerator, .int (hf.denominator : Int)])) := sUp hph
      have eh : IsT (upd H10 ph (.tup [.int hf.numerator, .int (hf.denominator : Int)])) ph hf := upd_same
      generalize upd H10 ph (.tup [.int hf.numerator, .int (hf.denominator : Int)]) = H11 at s11 eh
      have s611 : Same H6 H11 := t8.trans (s9.trans (s10.trans s11))
      refine ⟨_, rfl, ty_list (s611 _ _ hpb), _, rfl, _, rfl, c, ph, wt, hf, rfl, ((hwT.same (s05.trans s7)).same s611).f, eh.f, w1, hp, w2.mono (by omega), w3.mono (by omega), h1.mono (by omega), h2.mono (by omega), fun pn hpn => ?_⟩
      have s12 : Same H11 (upd H11 pn (.tup [.int (Kxd5.times wt hf).numerator, .int ((Kxd5.times wt hf).denominator : Int)])) := sUp hpn
      refine ⟨pf, _, _, rfl, rfl, s12 _ _ (s611 _ _ hpb), ?_, ?_⟩
      · exact small1000 (by rw [List.length_map, hbs.length, List.length_take]; omega)
      · refine ⟨_, _, _, bs ++ [pn], rfl, sUps (s7.trans (s611.trans s12)) hpf, by rw [upd_same]; simp, ?_⟩
        rw [take_next (l := soF n rows ws) (x := Kxd5.times wt hf) (by unfold soF; rw [zw_get hrow hwt, hQ])]
        exact fs_push _ hbs hpb (s611.trans s12) upd_same
    · rintro σ H6 ⟨v1, v2, v3, bs, rfl, s7, hpb, hbs⟩
      rw [List.take_of_length_le (by unfold soF; rw [List.length_zipWith]; omega)] at hbs
      exact ⟨_, rfl, q _ _ (s05.trans s7) ⟨bs, hpb, hbs⟩⟩
abbrev s_weights_behind : Stmt := top 41
abbrev sl_weights_behind : List Str := ["design", "steps", "many", "found", "turn", "row"]
theorem sc_weights_behind : FnScope sl_weights_behind ["design", "steps"] (defScope s_weights_behind) := ⟨rfl, rfl, rfl, by decide +kernel, rfl, by decide +kernel, by decide +kernel⟩
theorem ok_weights_behind {f : Addr} {fd : FuncData} (F : Fun K "weights_behind" "weights_behind" s_weights_behind f fd) (T : Txt K mg D E R N L) (c_ratio : Cal P w K mg base CX0 2 "ratio" ["above", "below"] spRatio)
    (c_stepped_on : Cal P w K mg base CX0 9 "stepped_on" ["columns", "rows", "weights"] spSteppedOn) (c_with_counts : Mal P w K mg base CX0 3 D "with_counts" ["self", "counts"] (spWith D))
    (c_regular_matrix : Mal P w K mg base (L2.CX P w) 7 D "regular_matrix" ["self"] (spRegular D N)) : FnOk P w K mg base (L2.CX P w) 10 f fd ["design", "steps"] (spWeights D N) := by
  refine F.okX sc_weights_behind (fun vs H Q E h => ?_) (fun cdv A outer s H vs Q E hr h => ⟨_, (pss_cons (ps_set (i := 2) sc_weights_behind.nd rfl (by first | exact Or.inl rfl | exact Or.inr rfl) (pe_callB call_len_seq (by rfl) T.n_len (by decide +kernel) (pa_cons (pe_fld (pv 0) rfl) pa_nil)))
      (pss_cons (ps_expr (pe_mal0 (pe_mal (pv 0) T.clD c_with_counts (hr.mono (by decide)) pass0 (pa_cons (pe_op op_rep (pe_lst (pa_cons pe_int pa_nil)) (pv 2)) pa_nil)) T.clD c_regular_matrix (hr.mono (by decide)) (passes_call (takes_of rfl rfl rfl rfl) (fun _ _ _ _ h => h))))
      (pss_cons (ps_setLc (i := 3) (own := [("row", 5)]) (g := gName 5) (tt := tYes) rfl sc_weights_behind.nd rfl rfl (sw_true rfl rfl rfl (by decide +kernel)) (pi_list (pe_fld (pv 0) rfl)) (blkOk_by (N := sl_weights_behind) (sc := defScope s_weights_behind) (by decide +kernel)) (fun _ _ _ _ _ => (pg_name (i := 5) sc_weights_behind.nd rfl (by first | exact Or.inl rfl | exact Or.inr rfl))) (fun _ _ _ _ _ => pts_nil) (fun _ _ _ _ _ => (pe_cal c_ratio (hr.mono (by decide)) pass0 (pa_cons pe_int (pa_cons (pv 2) pa_nil)))))
      (pss_cons (ps_for (passes_of rfl) rfl (pi_range1 (by rfl) T.n_range (pa_cons (pv 1) pa_nil)) (pg_name (i := 4) sc_weights_behind.nd rfl (by first | exact Or.inl rfl | exact Or.inr rfl))
      (pss_one (ps_set (i := 3) sc_weights_behind.nd rfl (by first | exact Or.inl rfl | exact Or.inr rfl) (pe_cal c_stepped_on (hr.mono (by decide)) pass0 (pa_cons (pe_fld (pv 0) rfl) (pa_cons (pe_fld (pv 0) rfl) (pa_cons (pv 3) pa_nil)))))))
      (pss_one (ps_ret (pv 3))))))), ?_⟩)
  · obtain ⟨_, _, _, rfl, _⟩ := h; rfl
  obtain ⟨a, d, st, rfl, hh, wf, hst, qE, q⟩ := h
  obtain ⟨dx, r, c, hD⟩ := id hh
  obtain ⟨ras, hra, hrR⟩ := hD.rows
  have rk := wf.rk
  have lr : (ras.map V.ref).length = d.rows.length := by rw [List.length_map, hrR.length]
  refine ⟨_, rfl, a, D, dx, _, _, rfl, hD.at_, T.clD, T.dr, dF_r, r, ras.map V.ref, rfl, .inl (SqL.of hra), ?_⟩
  rw [lr]
  refine ⟨_, rfl, a, dx, _, rfl, hD.at_, pl_off, by show 1 ≤ sizeLine; decide, fun p1 hp1 => ⟨_, rfl, p1, (d.rows.length : Int), [.int 1], rfl, rfl, upd_same, by omega, by omega, ?_, fun p2 hp2 => ?_⟩⟩
  · rw [sizeLine_eq]; simp; omega
  have e0 : (List.replicate ((d.rows.length : Int)).toNat [V.int 1]).flatten = vI (List.replicate d.rows.length 1) := by
    rw [Int.toNat_natCast]
    generalize d.rows.length = n
    induction n with
    | zero => rfl
    | succ n ih => rw [List.replicate_succ, List.flatten_cons, ih]; rfl
  have s2 : Same H (upd (upd H p1 (.lst [.int 1])) p2 (.lst (List.replicate ((d.rows.length : Int)).toNat [V.int 1]).flatten)) := (sUp hp1).trans (sUp hp2)
  have e2 : upd (upd H p1 (.lst [.int 1])) p2 (.lst (List.replicate ((d.rows.length : Int)).toNat [V.int 1]).flatten) p2 = some (.lst (vI (List.replicate d.rows.length 1))) := by rw [upd_same, e0]
  generalize upd (upd H p1 (.lst [.int 1])) p2 (.lst (List.replicate ((d.rows.length : Int)).toNat [V.int 1]).flatten) = H2 at s2 e2
  refine ⟨a, p2, d, _, rfl, hh.same s2, e2, fun H3 p3 s3 hn3 d3 => ?_⟩
  change HasD D H3 p3 (ones d) at d3
  obtain ⟨dx3, r3, c3, q3⟩ := id d3
  have s03 := s2.trans s3
  refine ⟨p3, dx3, _, rfl, q3.at_, pl_off, p3, ones d, rfl, d3, wf.ones, fun z H' s' => qE z _ (s03.trans s'), fun z H4 p4 s4 m4 => ?_⟩
  have s04 := s03.trans s4
  have qY := q z
  have ne : d.rows ≠ [] := wf.ones.rows_ne z
  have lp : 0 < d.rows.length := List.length_pos_iff.mpr ne
  have hD4 := hD.same s04
  refine ⟨_, rfl, a, D, dx, _, _, rfl, hD4.at_, T.clD, T.dr, dF_r, r, rfl, ⟨_, SqL.of (s04 _ _ hra)⟩, fun D5 hD5 => lc_it (walk_list (xs := ras.map V.ref)) (fun i H' => Same H4 H' ∧ ∃ bs : List Addr, H' D5 = some (.lst (bs.map V.ref)) ∧ FsAt H' bs ((wbF d 0).take i))
    ⟨sUp hD5, [], upd_same, trivial⟩ (fun i H' _ h => SqL.of (h.1 _ _ (s04 _ _ hra))) ?_ ?_⟩
  · rintro i x H5 H6 hi ⟨s5, bs, hb5, hbs⟩ ⟨rfl, hx⟩
    have hil : i < d.rows.length := by rw [← lr]; exact hi
    refine ⟨rfl, ?_⟩
    refine ⟨_, rfl, (1 : Int), (d.rows.length : Int), rfl, by omega, (bn_of_le (n := 4) (k := 10) (by omega) (by decide)).mono (by omega), fun p7 hp7 => ?_⟩
    refine ⟨_, (sUp hp7) _ _ hb5, ?_, sUps (s5.trans (sUp hp7)) hD5, bs ++ [p7], by rw [upd_same]; simp, ?_⟩
    · exact small1000 (by rw [List.length_map, hbs.length, List.length_take]; unfold wbF; rw [List.length_map]; omega)
    · rw [take_next (l := wbF d 0) (x := Kxd5.fraction 1 (d.rows.length : Int)) (by unfold wbF; rw [List.getElem?_map, List.getElem?_eq_getElem hil]; rfl)]
      exact fs_push _ hbs hb5 (sUp hp7) upd_same
  · rintro H5 ⟨s5, bs, hb5, hbs⟩
    rw [List.take_of_length_le (by unfold wbF; rw [List.length_map, lr]; exact Nat.le_refl _)] at hbs
    have s05 := s04.trans s5
    refine ⟨_, rfl, (st : Int), rfl, by omega, by omega, for_it walk_range0 (fun i σ H' => ∃ (v1 : Option V) (pf : Addr), σ = [some (.ref a), some (.int st), some (.int d.rows.length), some (.ref pf), v1, none] ∧ Same H5 H' ∧ IsFs H' pf (wbF d i))
      ⟨none, D5, rfl, Same.refl _, bs, hb5, hbs⟩ (fun _ _ _ _ _ => trivial) ?_ ?_⟩
    · rintro i x σ H6 H7 hi ⟨v1, pf, rfl, s6, hf⟩ ⟨rfl, rfl⟩
      have hi3 : i < st := hi
      obtain ⟨av, Dv, g⟩ := wb_good wf z i
      have ak : alp i ≤ 460 := by
        have : i = 0 ∨ i = 1 ∨ i = 2 := by omega
        rcases this with e | e | e <;> rw [e] <;> decide
      have hD7 := hD.same (s05.trans s6)
      refine ⟨_, rfl, a, D, dx, _, _, rfl, hD7.at_, T.clD, T.dc, dF_c, _, rfl, a, D, dx, _, _, rfl, hD7.at_, T.clD, T.dr, dF_r, _, rfl, ?_⟩
      exact ⟨d.n, alp i, r, pf, d.rows, wbF d i, av, Dv, rfl, hD7.rows, hf, g, ak, wf.n1, wf.n4, wf.rl, wf.re, wf.rk, fun H8 p8 s8 f8 => ⟨some (.int (i : Nat)), p8, rfl, s6.trans s8, f8⟩⟩
    · rintro σ H6 ⟨v1, pf, rfl, s6, hf⟩
      exact ⟨_, rfl, qY _ _ (s05.trans s6) hf⟩
end
end Bd
set_option maxRecDepth 100000
set_option maxHeartbeats 4000000
namespace Bd
open PySem PySem.Spec PyProof.Rows L2
/-! ## designs.py: what refuses, the desk -/
/-- the class Refused, with its __init__ -/
structure Ral (P : Program) (w : World) (K : PySem.W.Frag) (mg : Str → Option Value) (base : Heap) (k : Nat) (R : Addr) (ps : List Str) (sp : Sp) : Prop where
  ex : ∃ (f : Addr) (fd : FuncData), PySem.W.findIn K (.ref R) "__init__" = some (some (.ref f)) ∧ PySem.W.typeIn K (.ref f) = some (.type "function") ∧ FnOk P w K mg base CX0 k f fd ps sp ∧ Binds K fd ps []
theorem pmk_ral {X : Cx} {k : Nat} {ps : List Str} {sp : Sp} {x : Str} {p pos : Pos} {e : Expr} {es : List Expr} {t : TA} {R : Addr} (c : Ral X.prog X.w X.K X.mg X.base k R ps sp) (T : OexC X.K R) (hm : X.mg x = some (.ref R)) (hr : Room (k + 1) X.A) (ha : PA X (e :: es) t)
    (hg : Gl X x := by rfl) (hdb : (x == ("__debug__" : Str)) = false := by decide) (he : starEach (e :: es) X.env = (false, eval e X.env) :: starEach es X.env := by rfl) (hpl : (backTo pos (starEach es X.env)).any (·.1) = false := by rfl) :
    PMk X (.Call (.Name x p) (e :: es) [] pos) (tMkO R sp [] t) := by
  obtain ⟨f, fd, h1, h2, F, hb⟩ := c.ex
  exact pmk_oex T h1 h2 F hr hb .nil pass0 hg hm ha hdb he hpl
def spRInit (R : Addr) : Sp := fun vs H Q _ => ∃ (a : Addr) (c : Int), vs = [.ref a, .int c] ∧ H a = some (exo a R none) ∧ ∀ dx, H dx = none → dx ≠ a → Q .non (upd (upd H dx (exd dx [("code", .int c)])) a (exo a R (some dx)))
/-- Refused(c) goes out -/
def ERef (R : Addr) (c : Int) (H : Hp) (E : XK) : Prop := ∀ H' dd, Same H H' → H' dd = some (.xd [("code", .int c)]) → E (.ref R) (some dd) H'
theorem ERef.same {R : Addr} {c : Int} {H H' : Hp} {E : XK} (h : ERef R c H E) (s : Same H H') : ERef R c H' E := fun H2 dd s2 e => h H2 dd (s.trans s2) e
def spNeed (R : Addr) : Sp := fun vs H Q E => ∃ (b : Bool) (c : Int), vs = [.bl b, .int c] ∧ (b = true → Q .non H) ∧ (b = false → ERef R c H E)
def spNeedRange (R : Addr) : Sp := fun vs H Q E => ∃ n a b : Int, vs = [.int n, .int a, .int b] ∧ (a ≤ n ∧ n ≤ b → Q .non H) ∧ (¬ (a ≤ n ∧ n ≤ b) → ERef R (-22) H E)
/-- a list of fractions, wherever they lie -/
structure IsFf (K : PySem.W.Frag) (H : Hp) (a : Addr) (as : List Addr) (fs : List Kxd5.Fraction) : Prop where
  at_ : H a = some (.lst (as.map V.ref))
  len : as.length = fs.length
  get : ∀ (i : Nat) (b : Addr) (f : Kxd5.Fraction), as[i]? = some b → fs[i]? = some f → IsF K H b f
theorem IsFs.ff {K : PySem.W.Frag} {H : Hp} {a : Addr} {fs : List Kxd5.Fraction} (h : IsFs H a fs) : ∃ as, IsFf K H a as fs := by
  obtain ⟨as, e, h⟩ := h
  refine ⟨as, e, h.length, fun i b f hb hf => ?_⟩
  obtain ⟨f', hf', hT⟩ := h.get' hb
  rw [hf] at hf'
  obtain rfl := Option.some.inj hf'
  exact hT.f
theorem IsFf.one {K : PySem.W.Frag} {H : Hp} {a b : Addr} {f : Kxd5.Fraction} (h : H a = some (.lst [.ref b])) (hf : IsF K H b f) : IsFf K H a [b] [f] :=
  ⟨h, rfl, fun i c g h1 h2 => by
    cases i with
    | zero => obtain rfl := Option.some.inj h1; obtain rfl := Option.some.inj h2; exact hf
    | succ i => cases h1⟩
def flds (f : Kxd5.Fraction) : List Int := [f.numerator, (f.denominator : Int)]
def toldF (fs : List Kxd5.Fraction) : List Int := fs.flatMap flds
theorem toldF_len (fs : List Kxd5.Fraction) : (toldF fs).length = 2 * fs.length := by
  unfold toldF
  induction fs with
  | nil => rfl
  | cons f fs ih => rw [List.flatMap_cons, List.length_append, ih, List.length_cons]; show 2 + _ = _; omega
def spTold (K : PySem.W.Frag) : Sp := fun vs H Q _ => ∃ (a : Addr) (as : List Addr) (fs : List Kxd5.Fraction), vs = [.ref a] ∧ IsFf K H a as fs ∧ fs.length ≤ 100 ∧ ∀ H' p, Same H H' → H' p = some (.lst (vI (toldF fs))) → Q (.ref p) H'
def spSignOf : Sp := fun vs H Q _ => ∃ b c : Bool, vs = [.bl b, .bl c] ∧ Q (.int ((if b then 1 else 0) - (if c then 1 else 0))) H
def kF (v : V) : List (Str × V) := [("design", v)]
theorem kF_d {v : V} : (kF v).lookup ("design" : Str) = some v := lk_at
theorem kF_no {v : V} {m : Str} (h : (m == ("design" : Str)) = false) : (kF v).lookup m = none := (lk_on h).trans rfl
def KV (D : Addr) (H : Hp) (v : V) : Option Ds → Prop
  | none => v = .non
  | some d => ∃ a, v = .ref a ∧ HasD D H a d
/-- the desk at k, of the class at E -/
def HasK (E D : Addr) (H : Hp) (k : Addr) (o : Option Ds) : Prop := ∃ dx v, H k = some (.ins E dx (kF v)) ∧ KV D H v o
theorem KV.same {D : Addr} {H H' : Hp} {v : V} (s : Same H H') : ∀ {o : Option Ds}, KV D H v o → KV D H' v o
  | none, h => h
  | some d, ⟨a, e, h⟩ => ⟨a, e, h.same s⟩
theorem HasK.same {E D : Addr} {H H' : Hp} {k : Addr} {o : Option Ds} (h : HasK E D H k o) (s : Same H H') : HasK E D H' k o := let ⟨dx, v, e, q⟩ := h; ⟨dx, v, s _ _ e, q.same s⟩
/-- all but the desk at k is as it was -/
def Kept (k : Addr) (H H' : Hp) : Prop := ∀ b o, H b = some o → b ≠ k → H' b = some o
theorem Kept.of {k : Addr} {H H' : Hp} (s : Same H H') : Kept k H H' := fun b o e _ => s b o e
theorem Kept.refl {k : Addr} {H : Hp} : Kept k H H := fun _ _ e _ => e
theorem Kept.trans {k : Addr} {H H' H'' : Hp} (s : Kept k H H') (t : Kept k H' H'') : Kept k H H'' := fun b o e n => t b o (s b o e n) n
theorem Kept.upd {k : Addr} {H : Hp} {o : HO} : Kept k H (upd H k o) := fun b o e n => by rw [upd_ne n]; exact e
theorem ne_desk {E k b dx : Addr} {H : Hp} {v : V} {u : HO} (hk : H k = some (.ins E dx (kF v))) (hb : H b = some u) (n : ∀ C dy fs, u = .ins C dy fs → fs.length ≠ 1) : b ≠ k := fun e => by
  rw [e, hk] at hb
  exact n _ _ _ (Option.some.inj hb).symm rfl
theorem Kept.lst {E k a dx : Addr} {H H' : Hp} {v : V} {xs : List V} (s : Kept k H H') (hk : H k = some (.ins E dx (kF v))) (h : H a = some (.lst xs)) : H' a = some (.lst xs) := s _ _ h (ne_desk hk h (fun _ _ _ z => by cases z))
theorem Kept.tup {E k a dx : Addr} {H H' : Hp} {v : V} {xs : List V} (s : Kept k H H') (hk : H k = some (.ins E dx (kF v))) (h : H a = some (.tup xs)) : H' a = some (.tup xs) := s _ _ h (ne_desk hk h (fun _ _ _ z => by cases z))
theorem Kept.rowsAt {E k dx : Addr} {H H' : Hp} {v : V} (s : Kept k H H') (hk : H k = some (.ins E dx (kF v))) : ∀ {as : List Addr} {m : List (List Int)}, RowsAt H as m → RowsAt H' as m
  | [], [], _ => trivial
  | _ :: _, _ :: _, h => ⟨s.lst hk h.1, Kept.rowsAt s hk h.2⟩
theorem Kept.isM {E k a dx : Addr} {H H' : Hp} {v : V} {m : Mat} (s : Kept k H H') (hk : H k = some (.ins E dx (kF v))) (h : IsM H a m) : IsM H' a m := let ⟨as, e, r⟩ := h; ⟨as, s.lst hk e, s.rowsAt hk r⟩
theorem Kept.hasD {E D k a dx : Addr} {H H' : Hp} {v : V} {d : Ds} (s : Kept k H H') (hk : H k = some (.ins E dx (kF v))) (h : HasD D H a d) : HasD D H' a d := by
  obtain ⟨dy, r, c, z⟩ := h
  exact ⟨dy, r, c, s _ _ z.at_ (ne_desk hk z.at_ (fun C dz fs e => by cases e; show 3 ≠ 1; decide)), s.isM hk z.rows, s.lst hk z.cs⟩
/-- desk.design = the design at a -/
theorem HasK.put {E D k a dx : Addr} {H : Hp} {v : V} {d : Ds} (hk : H k = some (.ins E dx (kF v))) (h : HasD D H a d) : HasK E D (upd H k (.ins E dx (kF (.ref a)))) k (some d) :=
  ⟨dx, .ref a, upd_same, a, rfl, Kept.upd.hasD hk h⟩
theorem kF_put {v u : V} : putF "design" u (kF v) = kF u := by
  show putF "design" u [("design", v)] = _
  exact if_pos rfl
def rowOk (n : Nat) (row : List Int) : Bool := decide (row.length = n) && row.all fun x => decide (-10 ≤ x ∧ x ≤ 10)
def cntOk (m : Nat) (row : List Int) : Bool := decide (row.length = m) && row.all fun x => decide (0 ≤ x ∧ x ≤ 20)
def spKInit (E : Addr) : Sp := fun vs H Q _ => ∃ (p dx : Addr), vs = [.ref p] ∧ H p = some (.ins E dx []) ∧ ∀ H' : Hp, H' p = some (.ins E dx (kF .non)) → (∀ b o, H b = some o → b ≠ p → H' b = some o) → Q .non H'
def spNeedRow (E D R : Addr) : Sp := fun vs H Q Ex => ∃ (k r : Addr) (d : Ds) (row : List Int), vs = [.ref k, .ref r] ∧ HasK E D H k (some d) ∧ H r = some (.lst (vI row)) ∧ row.length ≤ 100 ∧
  (rowOk d.n row = true → ∀ H', Same H H' → Q .non H') ∧ (rowOk d.n row = false → ERef R (-22) H Ex)
def spNeedCounts (E D R : Addr) : Sp := fun vs H Q Ex => ∃ (k r : Addr) (d : Ds) (row : List Int), vs = [.ref k, .ref r] ∧ HasK E D H k (some d) ∧ H r = some (.lst (vI row)) ∧ row.length ≤ 100 ∧
  (cntOk d.rows.length row = true → ∀ H', Same H H' → Q .non H') ∧ (cntOk d.rows.length row = false → ERef R (-22) H Ex)
def spNeedCand (E D R : Addr) : Sp := fun vs H Q Ex => ∃ (k : Addr) (d : Ds) (n : Int), vs = [.ref k, .int n] ∧ HasK E D H k (some d) ∧
  (0 ≤ n ∧ n < d.rows.length → Q .non H) ∧ (¬ (0 ≤ n ∧ n < d.rows.length) → ERef R (-2) H Ex)
section
variable {P : Program} {w : World} {K : PySem.W.Frag} {mg : Str → Option Value} {base : Heap} {D E R N L : Addr}
abbrev s_Refused___init__ : Stmt := inClass (top 59) 0
abbrev sl_Refused___init__ : List Str := ["self", "code"]
theorem sc_Refused___init__ : FnScope sl_Refused___init__ ["self", "code"] (defScope s_Refused___init__) := ⟨rfl, rfl, rfl, by decide +kernel, rfl, by decide +kernel, by decide +kernel⟩
theorem ok_Refused_init {f : Addr} {fd : FuncData} (F : Fun K "__init__" "Refused.__init__" s_Refused___init__ f fd) (T : Txt K mg D E R N L) : FnOk P w K mg base CX0 1 f fd ["self", "code"] (spRInit R) := by
  refine F.ok sc_Refused___init__ (fun vs H Q E h => ?_) (fun cdv A outer s H vs Q E hr h => ⟨_, (pss_cons (ps_expr (pe_veinit (by rfl) T.n_ValueError T.vV (pa_cons (pv 0) (pa_cons pe_str pa_nil))))
      (pss_one (ps_ost (pv 0) (pv 1) rfl))), ?_⟩)
  · obtain ⟨_, _, rfl, _⟩ := h; rfl
  obtain ⟨a, c, rfl, ha, q⟩ := h
  exact ⟨_, rfl, a, R, _, rfl, by decide, T.xR, ha, _, rfl, _, rfl, a, R, rfl, T.xR, T.rc, .inl ⟨ha, q⟩⟩
abbrev s_need : Stmt := top 60
abbrev sl_need : List Str := ["is_so", "code"]
theorem sc_need : FnScope sl_need ["is_so", "code"] (defScope s_need) := ⟨rfl, rfl, rfl, by decide +kernel, rfl, by decide +kernel, by decide +kernel⟩
theorem ok_need {f : Addr} {fd : FuncData} (F : Fun K "need" "need" s_need f fd) (T : Txt K mg D E R N L) (c_Refused : Ral P w K mg base 1 R ["self", "code"] (spRInit R)) : FnOk P w K mg base (L2.CX P w) 3 f fd ["is_so", "code"] (spNeed R) := by
  refine F.okX sc_need (fun vs H Q E h => ?_) (fun cdv A outer s H vs Q E hr h => ⟨_, (pss_one (ps_if (pt_not (pt_val (pv 0))) (pss_one (ps_raise rfl (takes_of rfl rfl rfl rfl) (pmk_ral c_Refused T.xR T.gR (hr.mono (by decide)) (pa_cons (pv 1) pa_nil)))) pss_nil)), ?_⟩)
  · obtain ⟨_, _, rfl, _⟩ := h; rfl
  obtain ⟨b, c, rfl, q1, q2⟩ := h
  refine ⟨_, rfl, _, rfl, ?_⟩
  cases b with
  | true => exact q1 rfl
  | false =>
    refine ⟨_, rfl, (by show 1 ≤ 1000; decide), fun a ha => ⟨a, c, rfl, upd_same, fun dx hdx ne => ⟨rfl, dx, _, upd_same, (upd_ne ne).trans upd_same, by rw [← hdx, upd_ne ne], ?_⟩⟩⟩
    refine q2 rfl _ _ (fun b u e => ?_) upd_same
    have hd : H dx = none := by rw [← hdx, upd_ne ne]
    rw [upd_ne (ne_of_none e hd), del_ne (ne_of_none e ha), upd_ne (ne_of_none e ha), upd_ne (ne_of_none e hd), upd_ne (ne_of_none e ha)]
    exact e
abbrev s_need_range : Stmt := top 61
abbrev sl_need_range : List Str := ["number", "least", "most"]
theorem sc_need_range : FnScope sl_need_range ["number", "least", "most"] (defScope s_need_range) := ⟨rfl, rfl, rfl, by decide +kernel, rfl, by decide +kernel, by decide +kernel⟩
theorem ok_need_range {f : Addr} {fd : FuncData} (F : Fun K "need_range" "need_range" s_need_range f fd) (T : Txt K mg D E R N L) (c_need : Cal P w K mg base (L2.CX P w) 3 "need" ["is_so", "code"] (spNeed R)) : FnOk P w K mg base (L2.CX P w) 4 f fd ["number", "least", "most"] (spNeedRange R) := by
  refine F.okX sc_need_range (fun vs H Q E h => ?_) (fun cdv A outer s H vs Q E hr h => ⟨_, (pss_one (ps_expr (pe_cal c_need (hr.mono (by decide)) (passes_call (takes_of rfl rfl rfl rfl) (fun _ _ _ _ h => h)) (pa_cons (pe_chain op_le op_le (pv 1) (pv 0) (pv 2)) (pa_cons (pe_gi T.i_OUT_OF_RANGE) pa_nil))))), ?_⟩)
  · obtain ⟨_, _, _, rfl, _⟩ := h; rfl
  obtain ⟨n, a, b, rfl, q1, q2⟩ := h
  refine ⟨_, rfl, _, rfl, a, n, rfl, rfl, _, rfl, ?_⟩
  by_cases h1 : a ≤ n
  · refine ifT h1 ⟨_, rfl, n, b, rfl, rfl, decide (n ≤ b), (-22), rfl, fun h2 => q1 ⟨h1, of_decide_eq_true h2⟩, fun h2 => q2 fun z => of_decide_eq_false h2 z.2⟩
  · exact ifF h1 ⟨false, (-22), rfl, fun h2 => (by cases h2), fun h2 => q2 fun z => h1 z.1⟩
abbrev s_told : Stmt := top 62
abbrev sl_told : List Str := ["fractions", "found", "one"]
theorem sc_told : FnScope sl_told ["fractions"] (defScope s_told) := ⟨rfl, rfl, rfl, by decide +kernel, rfl, by decide +kernel, by decide +kernel⟩
theorem ok_told {f : Addr} {fd : FuncData} (F : Fun K "told" "told" s_told f fd) (T : Txt K mg D E R N L) : FnOk P w K mg base CX0 1 f fd ["fractions"] (spTold K) := by
  refine F.ok sc_told (fun vs H Q E h => ?_) (fun cdv A outer s H vs Q E hr h => ⟨_, (pss_cons (ps_set (i := 1) sc_told.nd rfl (by first | exact Or.inl rfl | exact Or.inr rfl) (pe_lst pa_nil))
      (pss_cons (ps_for PassesOwn.never rfl (pi_list (pv 0)) (pg_name (i := 2) sc_told.nd rfl (by first | exact Or.inl rfl | exact Or.inr rfl))
      (pss_one (ps_expr (pe_bm PySem.F.plainAttrs_list PySem.F.slot_list_extend PySem.F.type_list_extend mt_extend (pv 1) (pa_cons (pe_lst (pa_cons (pe_ix ix_tup (pv 2) pe_int (fun _ _ => rfl)) (pa_cons (pe_ix ix_tup (pv 2) pe_int (fun _ _ => rfl)) pa_nil))) pa_nil)))))
      (pss_one (ps_ret (pv 1))))), ?_⟩)
  · obtain ⟨_, _, _, rfl, _⟩ := h; rfl
  obtain ⟨a, as, fs, rfl, hF, hl, q⟩ := h
  refine ⟨Nat.zero_le _, fun p hp => ?_⟩
  have s0 : Same H (upd H p (.lst [])) := sUp hp
  refine ⟨_, rfl, a, rfl, ⟨_, SqL.of (s0 _ _ hF.at_)⟩, for_it (walk_list (xs := as.map V.ref))
    (fun i σ H' => ∃ v1 : Option V, σ = [some (.ref a), some (.ref p), v1] ∧ Same H H' ∧ H' p = some (.lst (vI (toldF (fs.take i)))))
    ⟨none, rfl, s0, upd_same⟩ (fun i σ H' _ h => ?_) ?_ ?_⟩
  · obtain ⟨_, _, s1, _⟩ := h
    exact SqL.of (s1 _ _ hF.at_)
  · rintro i x σ H1 H2 hi ⟨v1, rfl, s1, hp1⟩ ⟨rfl, hx⟩
    obtain ⟨b, hb, rfl⟩ := map_get hx
    have hi' : i < fs.length := by rw [← hF.len]; exact (List.getElem?_eq_some_iff.mp hb).1
    have hf := List.getElem?_eq_getElem hi'
    have hT := sSqt s1 (hF.get i b _ hb hf)
    refine ⟨_, rfl, ty_list hp1, _, rfl, b, _, 0, _, rfl, rfl, hT, atI_nat (j := 0) rfl, _, rfl, b, _, 1, _, rfl, rfl, hT, atI_nat (j := 1) rfl, (small2 (by show 2 ≤ 1000; decide)), fun c hc => ?_⟩
    refine ⟨p, c, _, _, rfl, rfl, (sUp hc) _ _ hp1, upd_same, ?_, some (.ref b), rfl, ?_, ?_⟩
    · refine small2 ?_
      rw [List.length_map, toldF_len, List.length_take]
      show _ + 2 ≤ 1000
      omega
    · exact sUps (sUps s1 (s1.free hc)) hp
    · rw [upd_same, take_next hf]
      unfold toldF
      rw [List.flatMap_append]
      simp [vI, flds]
  · rintro σ H1 ⟨v1, rfl, s1, hp1⟩
    have et : fs.take (as.map V.ref).length = fs := List.take_of_length_le (by rw [List.length_map, hF.len]; exact Nat.le_refl _)
    rw [et] at hp1
    exact ⟨_, rfl, q _ _ s1 hp1⟩
abbrev s_sign_of : Stmt := top 63
abbrev sl_sign_of : List Str := ["is_more", "is_fewer"]
theorem sc_sign_of : FnScope sl_sign_of ["is_more", "is_fewer"] (defScope s_sign_of) := ⟨rfl, rfl, rfl, by decide +kernel, rfl, by decide +kernel, by decide +kernel⟩
theorem ok_sign_of {f : Addr} {fd : FuncData} (F : Fun K "sign_of" "sign_of" s_sign_of f fd) (T : Txt K mg D E R N L) : FnOk P w K mg base CX0 1 f fd ["is_more", "is_fewer"] spSignOf := by
  refine F.ok sc_sign_of (fun vs H Q E h => ?_) (fun cdv A outer s H vs Q E hr h => ⟨_, (pss_one (ps_ret (pe_op op_sub (pe_callTy call_int1 (by rfl) T.n_int (by decide +kernel) (pa_cons (pv 0) pa_nil)) (pe_callTy call_int1 (by rfl) T.n_int (by decide +kernel) (pa_cons (pv 1) pa_nil))))), ?_⟩)
  · obtain ⟨_, _, rfl, _⟩ := h; rfl
  obtain ⟨b, c, rfl, q⟩ := h
  exact ⟨_, rfl, .inr ⟨b, rfl, _, rfl, .inr ⟨c, rfl, _, _, rfl, rfl, q⟩⟩⟩
abbrev s_Desk___init__ : Stmt := inClass (top 64) 0
abbrev sl_Desk___init__ : List Str := ["self"]
theorem sc_Desk___init__ : FnScope sl_Desk___init__ ["self"] (defScope s_Desk___init__) := ⟨rfl, rfl, rfl, by decide +kernel, rfl, by decide +kernel, by decide +kernel⟩
theorem ok_Desk_init {f : Addr} {fd : FuncData} (F : Fun K "__init__" "Desk.__init__" s_Desk___init__ f fd) (T : Txt K mg D E R N L) : FnOk P w K mg base CX0 1 f fd ["self"] (spKInit E) := by
  refine F.ok sc_Desk___init__ (fun vs H Q E h => ?_) (fun cdv A outer s H vs Q E hr h => ⟨_, (pss_one (ps_fld (pv 0) pe_non rfl)), ?_⟩)
  · obtain ⟨_, _, rfl, _⟩ := h; rfl
  obtain ⟨p, dx, rfl, hp, q⟩ := h
  refine ⟨_, rfl, p, _, dx, _, rfl, hp, T.clK, T.ed, (by show 0 < 1000; decide), ?_⟩
  exact q _ upd_same fun b o e hb => by rw [upd_ne hb]; exact e
theorem all_take {α : Type} {f : α → Bool} : ∀ (l : List α), ((l.map f).all id) = l.all f := fun l => by rw [List.all_map]; rfl
abbrev s_Desk_need_row : Stmt := inClass (top 64) 1
abbrev sl_Desk_need_row : List Str := ["self", "row", "entry"]
theorem sc_Desk_need_row : FnScope sl_Desk_need_row ["self", "row"] (defScope s_Desk_need_row) := ⟨rfl, rfl, rfl, by decide +kernel, rfl, by decide +kernel, by decide +kernel⟩
theorem ok_Desk_need_row {f : Addr} {fd : FuncData} (F : Fun K "need_row" "Desk.need_row" s_Desk_need_row f fd) (T : Txt K mg D E R N L) (c_need : Cal P w K mg base (L2.CX P w) 3 "need" ["is_so", "code"] (spNeed R)) : FnOk P w K mg base (L2.CX P w) 4 f fd ["self", "row"] (spNeedRow E D R) := by
  refine F.okX sc_Desk_need_row (fun vs H Q E h => ?_) (fun cdv A outer s H vs Q Ex hr h => ⟨_, (pss_cons (ps_expr (pe_cal c_need (hr.mono (by decide)) (passes_call (takes_of rfl rfl rfl rfl) (fun _ _ _ _ h => h)) (pa_cons (pe_cmpR op_eq (pe_callB call_len_seq (by rfl) T.n_len (by decide +kernel) (pa_cons (pv 1) pa_nil)) (pe_fld (pe_fld (pv 0) rfl) rfl) (nomark _)) (pa_cons (pe_gi T.i_OUT_OF_RANGE) pa_nil))))
      (pss_one (ps_expr (pe_cal c_need (hr.mono (by decide)) (passes_call (takes_of rfl rfl rfl rfl) (fun _ _ _ _ h => h)) (pa_cons (pe_callB (cr_all rfl) (by rfl) T.n_all (by decide +kernel) (pa_cons (pe_lc (own := [("entry", 2)]) (g := gName 2) (tt := tYes) rfl sc_Desk_need_row.nd (pi_list (pv 1)) (blkOk_by (N := sl_Desk_need_row) (sc := defScope s_Desk_need_row) (by decide +kernel)) (fun _ _ _ _ _ => (pg_name (i := 2) sc_Desk_need_row.nd rfl (by first | exact Or.inl rfl | exact Or.inr rfl))) (fun _ _ _ _ _ => pts_nil) (fun _ _ _ _ _ => (pe_chain op_le op_le (pe_un un_neg (pe_gi T.i_MOST_ENTRY)) (pv 2) (pe_gi T.i_MOST_ENTRY)))) pa_nil)) (pa_cons (pe_gi T.i_OUT_OF_RANGE) pa_nil)))))), ?_⟩)
  · obtain ⟨_, _, _, _, rfl, _⟩ := h; rfl
  obtain ⟨k, r, d, row, rfl, hK, hR, hl, q1, q2⟩ := h
  obtain ⟨dx, v, hk, a, rfl, hh⟩ := id hK
  obtain ⟨dy, ra, ca, hD⟩ := id hh
  refine ⟨_, rfl, r, _, rfl, .inl (SqL.of hR), _, rfl, k, E, dx, _, _, rfl, hk, T.clK, T.ed, kF_d, a, D, dy, _, _, rfl, hD.at_, T.clD, T.dc, dF_c, ?_⟩
  refine ⟨rfl, _, (-22), rfl, fun z => ?_, fun z => q2 ?_⟩
  · have hn : row.length = d.n := by
      have := V.int.inj (of_decide_eq_true z)
      rw [List.length_map] at this
      omega
    refine ⟨_, rfl, r, rfl, ⟨_, SqL.of hR⟩, fun D1 hD1 => lc_it (walk_list (xs := vI row)) (fun i H' => Same H H' ∧ H' D1 = some (.lst (((row.map fun x => decide (-10 ≤ x ∧ x ≤ 10)).take i).map V.bl)))
      ⟨sUp hD1, upd_same⟩ (fun i H' _ h => SqL.of (h.1 _ _ hR)) ?_ ?_⟩
    · rintro i x H2 H3 hi ⟨s2, hD2⟩ ⟨rfl, hx⟩
      obtain ⟨y, hy, rfl⟩ := map_get hx
      have fin : ∀ b, b = decide (-10 ≤ y ∧ y ≤ 10) → ∃ acc, H3 D1 = some (.lst acc) ∧ acc.length < sizeLine ∧ Same H (upd H3 D1 (.lst (acc ++ [V.bl b]))) ∧
          upd H3 D1 (.lst (acc ++ [V.bl b])) D1 = some (.lst (((row.map fun x => decide (-10 ≤ x ∧ x ≤ 10)).take (i + 1)).map V.bl)) := fun b eb =>
        ⟨_, hD2, small1000 (by rw [List.length_map, List.length_take, List.length_map]; omega), sUps s2 hD1, by rw [upd_same, take_next (l := row.map _) (x := b) (by rw [List.getElem?_map, hy, eb]; rfl)]; simp⟩
      refine ⟨rfl, 10, rfl, _, rfl, -10, y, rfl, rfl, _, rfl, ?_⟩
      by_cases h1 : -10 ≤ y
      · exact ifT h1 ⟨y, 10, rfl, rfl, fin _ (by simp [h1])⟩
      · exact ifF h1 (fin _ (by simp [h1]))
    · rintro H2 ⟨s2, hD2⟩
      rw [List.take_of_length_le (by rw [List.length_map, List.length_map]; exact Nat.le_refl _)] at hD2
      refine ⟨D1, _, rfl, SqL.of hD2, _, (-22), rfl, fun z2 => q1 ?_ _ s2, fun z2 => (q2 ?_).same s2⟩
      · unfold rowOk
        rw [decide_eq_true hn, Bool.true_and, ← all_take]
        exact z2
      · unfold rowOk
        rw [decide_eq_true hn, Bool.true_and, ← all_take]
        exact z2
  · have hn : ¬ row.length = d.n := fun e => by
      refine of_decide_eq_false z (congrArg V.int ?_)
      rw [List.length_map]
      omega
    unfold rowOk
    rw [decide_eq_false hn]
    rfl
abbrev s_Desk_need_counts : Stmt := inClass (top 64) 2
abbrev sl_Desk_need_counts : List Str := ["self", "counts", "count"]
theorem sc_Desk_need_counts : FnScope sl_Desk_need_counts ["self", "counts"] (defScope s_Desk_need_counts) := ⟨rfl, rfl, rfl, by decide +kernel, rfl, by decide +kernel, by decide +kernel⟩
theorem ok_Desk_need_counts {f : Addr} {fd : FuncData} (F : Fun K "need_counts" "Desk.need_counts" s_Desk_need_counts f fd) (T : Txt K mg D E R N L) (c_need : Cal P w K mg base (L2.CX P w) 3 "need" ["is_so", "code"] (spNeed R)) : FnOk P w K mg base (L2.CX P w) 4 f fd ["self", "counts"] (spNeedCounts E D R) := by
  refine F.okX sc_Desk_need_counts (fun vs H Q E h => ?_) (fun cdv A outer s H vs Q Ex hr h => ⟨_, (pss_cons (ps_expr (pe_cal c_need (hr.mono (by decide)) (passes_call (takes_of rfl rfl rfl rfl) (fun _ _ _ _ h => h)) (pa_cons (pe_cmpR op_eq (pe_callB call_len_seq (by rfl) T.n_len (by decide +kernel) (pa_cons (pv 1) pa_nil)) (pe_callB call_len_seq (by rfl) T.n_len (by decide +kernel) (pa_cons (pe_fld (pe_fld (pv 0) rfl) rfl) pa_nil)) (nomark _)) (pa_cons (pe_gi T.i_OUT_OF_RANGE) pa_nil))))
      (pss_one (ps_expr (pe_cal c_need (hr.mono (by decide)) (passes_call (takes_of rfl rfl rfl rfl) (fun _ _ _ _ h => h)) (pa_cons (pe_callB (cr_all rfl) (by rfl) T.n_all (by decide +kernel) (pa_cons (pe_lc (own := [("count", 2)]) (g := gName 2) (tt := tYes) rfl sc_Desk_need_counts.nd (pi_list (pv 1)) (blkOk_by (N := sl_Desk_need_counts) (sc := defScope s_Desk_need_counts) (by decide +kernel)) (fun _ _ _ _ _ => (pg_name (i := 2) sc_Desk_need_counts.nd rfl (by first | exact Or.inl rfl | exact Or.inr rfl))) (fun _ _ _ _ _ => pts_nil) (fun _ _ _ _ _ => (pe_chain op_le op_le pe_int (pv 2) (pe_gi T.i_MOST_COUNT)))) pa_nil)) (pa_cons (pe_gi T.i_OUT_OF_RANGE) pa_nil)))))), ?_⟩)
  · obtain ⟨_, _, _, _, rfl, _⟩ := h; rfl
  obtain ⟨k, r, d, row, rfl, hK, hR, hl, q1, q2⟩ := h
  obtain ⟨dx, v, hk, a, rfl, hh⟩ := id hK
  obtain ⟨dy, ra, ca, hD⟩ := id hh
  obtain ⟨ras, hra, hrR⟩ := hD.rows
  refine ⟨_, rfl, r, _, rfl, .inl (SqL.of hR), _, rfl, k, E, dx, _, _, rfl, hk, T.clK, T.ed, kF_d, a, D, dy, _, _, rfl, hD.at_, T.clD, T.dr, dF_r, ra, _, rfl, .inl (SqL.of hra), ?_⟩
  refine ⟨rfl, _, (-22), rfl, fun z => ?_, fun z => q2 ?_⟩
  · have hn : row.length = d.rows.length := by
      have := V.int.inj (of_decide_eq_true z)
      rw [List.length_map, List.length_map, hrR.length] at this
      omega
    refine ⟨_, rfl, r, rfl, ⟨_, SqL.of hR⟩, fun D1 hD1 => lc_it (walk_list (xs := vI row)) (fun i H' => Same H H' ∧ H' D1 = some (.lst (((row.map fun x => decide (0 ≤ x ∧ x ≤ 20)).take i).map V.bl)))
      ⟨sUp hD1, upd_same⟩ (fun i H' _ h => SqL.of (h.1 _ _ hR)) ?_ ?_⟩
    · rintro i x H2 H3 hi ⟨s2, hD2⟩ ⟨rfl, hx⟩
      obtain ⟨y, hy, rfl⟩ := map_get hx
      have fin : ∀ b, b = decide (0 ≤ y ∧ y ≤ 20) → ∃ acc, H3 D1 = some (.lst acc) ∧ acc.length < sizeLine ∧ Same H (upd H3 D1 (.lst (acc ++ [V.bl b]))) ∧
          upd H3 D1 (.lst (acc ++ [V.bl b])) D1 = some (.lst (((row.map fun x => decide (0 ≤ x ∧ x ≤ 20)).take (i + 1)).map V.bl)) := fun b eb =>
        ⟨_, hD2, small1000 (by rw [List.length_map, List.length_take, List.length_map]; omega), sUps s2 hD1, by rw [upd_same, take_next (l := row.map _) (x := b) (by rw [List.getElem?_map, hy, eb]; rfl)]; simp⟩
      refine ⟨rfl, _, rfl, 0, y, rfl, rfl, _, rfl, ?_⟩
      by_cases h1 : 0 ≤ y
      · exact ifT h1 ⟨y, 20, rfl, rfl, fin _ (by simp [h1])⟩
      · exact ifF h1 (fin _ (by simp [h1]))
    · rintro H2 ⟨s2, hD2⟩
      rw [List.take_of_length_le (by rw [List.length_map, List.length_map]; exact Nat.le_refl _)] at hD2
      refine ⟨D1, _, rfl, SqL.of hD2, _, (-22), rfl, fun z2 => q1 ?_ _ s2, fun z2 => (q2 ?_).same s2⟩
      · unfold cntOk
        rw [decide_eq_true hn, Bool.true_and, ← all_take]
        exact z2
      · unfold cntOk
        rw [decide_eq_true hn, Bool.true_and, ← all_take]
        exact z2
  · have hn : ¬ row.length = d.rows.length := fun e => by
      refine of_decide_eq_false z (congrArg V.int ?_)
      rw [List.length_map, List.length_map, hrR.length]
      omega
    unfold cntOk
    rw [decide_eq_false hn]
    rfl
abbrev s_Desk_need_candidate : Stmt := inClass (top 64) 3
abbrev sl_Desk_need_candidate : List Str := ["self", "number"]
theorem sc_Desk_need_candidate : FnScope sl_Desk_need_candidate ["self", "number"] (defScope s_Desk_need_candidate) := ⟨rfl, rfl, rfl, by decide +kernel, rfl, by decide +kernel, by decide +kernel⟩
theorem ok_Desk_need_candidate {f : Addr} {fd : FuncData} (F : Fun K "need_candidate" "Desk.need_candidate" s_Desk_need_candidate f fd) (T : Txt K mg D E R N L) (c_need : Cal P w K mg base (L2.CX P w) 3 "need" ["is_so", "code"] (spNeed R)) : FnOk P w K mg base (L2.CX P w) 4 f fd ["self", "number"] (spNeedCand E D R) := by
  refine F.okX sc_Desk_need_candidate (fun vs H Q E h => ?_) (fun cdv A outer s H vs Q Ex hr h => ⟨_, (pss_one (ps_expr (pe_cal c_need (hr.mono (by decide)) (passes_call (takes_of rfl rfl rfl rfl) (fun _ _ _ _ h => h)) (pa_cons (pe_chain op_le op_lt pe_int (pv 1) (pe_callB call_len_seq (by rfl) T.n_len (by decide +kernel) (pa_cons (pe_fld (pe_fld (pv 0) rfl) rfl) pa_nil))) (pa_cons (pe_gi T.i_NO_CANDIDATE) pa_nil))))), ?_⟩)
  · obtain ⟨_, _, _, rfl, _⟩ := h; rfl
  obtain ⟨k, d, n, rfl, hK, q1, q2⟩ := h
  obtain ⟨dx, v, hk, a, rfl, hh⟩ := id hK
  obtain ⟨dy, ra, ca, hD⟩ := id hh
  refine ⟨_, rfl, 0, n, rfl, rfl, _, rfl, ?_⟩
  by_cases h1 : 0 ≤ n
  · refine ifT h1 ?_
    obtain ⟨ras, hra, hrR⟩ := hD.rows
    refine ⟨_, rfl, k, E, dx, _, _, rfl, hk, T.clK, T.ed, kF_d, a, D, dy, _, _, rfl, hD.at_, T.clD, T.dr, dF_r, ra, _, rfl, .inl (SqL.of hra), n, _, rfl, rfl, _, (-2), rfl, fun z => q1 ⟨h1, ?_⟩, fun z => q2 fun y => ?_⟩
    · have := of_decide_eq_true z
      rw [List.length_map, hrR.length] at this
      exact this
    · have := of_decide_eq_false z
      rw [List.length_map, hrR.length] at this
      exact this y.2
  · exact ifF h1 ⟨false, (-2), rfl, fun z => (by cases z), fun _ => q2 fun y => h1 y.1⟩
end
end Bd
set_option maxRecDepth 100000
set_option maxHeartbeats 4000000
namespace Bd
open PySem PySem.Spec PyProof.Rows L2
/-! ## designs.py: the deeds -/
/-- what a deed answers: numbers and the new design, or an error's code -/
inductive Out where
  | ok (l : List Int) (d : Ds)
  | no (c : Int)
/-- an exception that stands for the code c -/
def ExC (R N L : Addr) (H : Hp) (cls : Value) (dx : Option Addr) (c : Int) : Prop :=
  (cls = .ref R ∧ ∃ dd, dx = some dd ∧ H dd = some (.xd [("code", .int c)])) ∨ (cls = .ref N ∧ dx = none ∧ c = -33) ∨ (cls = .ref L ∧ dx = none ∧ c = -28)
def ENo (R N L : Addr) (c : Int) (H : Hp) (Ex : XK) : Prop := ∀ H' cls dx, Same H H' → ExC R N L H' cls dx c → Ex cls dx H'
theorem ENo.ref {R N L : Addr} {c : Int} {H : Hp} {Ex : XK} (h : ENo R N L c H Ex) : ERef R c H Ex := fun H' dd s e => h H' _ _ s (.inl ⟨rfl, dd, rfl, e⟩)
theorem ENo.nr {R N L : Addr} {H : Hp} {Ex : XK} (h : ENo R N L (-33) H Ex) : ∀ H', Same H H' → Ex (.ref N) none H' := fun H' s => h H' _ _ s (.inr (.inl ⟨rfl, rfl, rfl⟩))
theorem ENo.tl {R N L : Addr} {H : Hp} {Ex : XK} (h : ENo R N L (-28) H Ex) : ∀ H', Same H H' → Ex (.ref L) none H' := fun H' s => h H' _ _ s (.inr (.inr ⟨rfl, rfl, rfl⟩))
theorem ENo.same {R N L : Addr} {c : Int} {H H1 : Hp} {Ex : XK} (h : ENo R N L c H Ex) (s : Same H H1) : ENo R N L c H1 Ex := fun H' cls dx s' => h H' cls dx (s.trans s')
def spCreate (E D R N L : Addr) : Sp := fun vs H Q Ex => ∃ (k r : Addr) (o : Option Ds) (n : Int) (row : List Int), vs = [.ref k, .int n, .ref r] ∧ HasK E D H k o ∧
  (1 ≤ n ∧ n ≤ 4 → ∀ H' p, H p = none → Kept k H H' → HasK E D H' k (some ⟨n.toNat, [], []⟩) → H' p = some (.lst (vI [0])) → Q (.ref p) H') ∧ (¬ (1 ≤ n ∧ n ≤ 4) → ENo R N L (-22) H Ex)
def spDeed (E D R N L : Addr) (F : Ds → Int → List Int → Out) : Sp := fun vs H Q Ex => ∃ (k r : Addr) (d : Ds) (n : Int) (row : List Int), vs = [.ref k, .int n, .ref r] ∧ HasK E D H k (some d) ∧ Wf d ∧ H r = some (.lst (vI row)) ∧ row.length ≤ 100 ∧
  (∀ l d', F d n row = .ok l d' → ∀ H' p, H p = none → Kept k H H' → HasK E D H' k (some d') → H' p = some (.lst (vI l)) → Q (.ref p) H') ∧ (∀ c, F d n row = .no c → ENo R N L c H Ex)
/-- the desk's new design, then the answer's list -/
theorem put_end {E D k dx x : Addr} {H H1 : Hp} {v : V} {d : Ds} (hk : H k = some (.ins E dx (kF v))) (s : Same H H1) (hD : HasD D H1 x d) {H2 : Hp} (s2 : Same (upd H1 k (.ins E dx (kF (.ref x)))) H2) : Kept k H H2 ∧ HasK E D H2 k (some d) :=
  ⟨((Kept.of s).trans Kept.upd).trans (Kept.of s2), (HasK.put (s _ _ hk) hD).same s2⟩
theorem Kept.free {k p : Addr} {H H' : Hp} {u : HO} (s : Kept k H H') (hk : H' k = some u) (hp : H' p = none) : H p = none := by
  cases z : H p with
  | none => rfl
  | some o =>
    by_cases e : p = k
    · rw [e, hk] at hp; cases hp
    · rw [s _ _ z e] at hp; cases hp
/-- what is new behind the desk's new design was new ahead of it -/
theorem put_free {E k dx x p : Addr} {H H1 : Hp} (s : Same H H1) (hp : (upd H1 k (.ins E dx (kF (.ref x)))) p = none) : H p = none := ((Kept.of s).trans Kept.upd).free upd_same hp
def dAdd (d : Ds) (_ : Int) (row : List Int) : Out :=
  if rowOk d.n row = false then .no (-22) else if (d.rows.any fun z => decide (z = row)) = true then .no (-17) else if ¬ d.rows.length < 10 then .no (-28) else .ok [(d.rows.length : Int)] ⟨d.n, d.rows ++ [row], d.cs ++ [0]⟩
def dRem (d : Ds) (n : Int) (_ : List Int) : Out := if 0 ≤ n ∧ n < d.rows.length then .ok [(d.rows.length : Int) - 1] ⟨d.n, d.rows.take n.toNat ++ d.rows.drop (n.toNat + 1), d.cs.take n.toNat ++ d.cs.drop (n.toNat + 1)⟩ else .no (-2)
def dGet (d : Ds) (n : Int) (_ : List Int) : Out := if 0 ≤ n ∧ n < d.rows.length then .ok ((d.n : Int) :: d.rows.getD n.toNat []) d else .no (-2)
def dSet (d : Ds) (_ : Int) (row : List Int) : Out := if cntOk d.rows.length row = true then .ok [row.sum] ⟨d.n, d.rows, row⟩ else .no (-22)
def dCnt (d : Ds) (_ : Int) (_ : List Int) : Out := .ok ((d.cs.length : Int) :: d.cs) d
def dInf (d : Ds) (_ : Int) (_ : List Int) : Out := .ok ((d.n : Int) :: d.mat.flatten) d
def dDet (d : Ds) (_ : Int) (_ : List Int) : Out := .ok [det d.mat] d
def dSum (d : Ds) (_ : Int) (_ : List Int) : Out := .ok [(d.n : Int), (d.rows.length : Int), d.cs.sum] d
section
variable {P : Program} {w : World} {K : PySem.W.Frag} {mg : Str → Option Value} {base : Heap} {D E R N L : Addr}
abbrev s_create : Stmt := top 65
abbrev sl_create : List Str := ["desk", "number", "row"]
theorem sc_create : FnScope sl_create ["desk", "number", "row"] (defScope s_create) := ⟨rfl, rfl, rfl, by decide +kernel, rfl, by decide +kernel, by decide +kernel⟩
theorem ok_create {f : Addr} {fd : FuncData} (F : Fun K "create" "create" s_create f fd) (T : Txt K mg D E R N L) (c_need_range : Cal P w K mg base (L2.CX P w) 4 "need_range" ["number", "least", "most"] (spNeedRange R))
    (c_Design : Kal P w K mg base 1 "Design" D ["self", "columns", "rows", "counts"] (spDInit D)) : FnOk P w K mg base (L2.CX P w) 14 f fd ["desk", "number", "row"] (spCreate E D R N L) := by
  refine F.okX sc_create (fun vs H Q E h => ?_) (fun cdv A outer s H vs Q Ex hr h => ⟨_, (pss_cons (ps_expr (pe_cal c_need_range (hr.mono (by decide)) (passes_call (takes_of rfl rfl rfl rfl) (fun _ _ _ _ h => h)) (pa_cons (pv 1) (pa_cons pe_int (pa_cons (pe_gi T.i_MOST_COLUMNS) pa_nil)))))
      (pss_cons (ps_fld (pv 0) (pe_mk c_Design (hr.mono (by decide)) (pa_cons (pv 1) (pa_cons (pe_lst pa_nil) (pa_cons (pe_lst pa_nil) pa_nil)))) rfl)
      (pss_one (ps_ret (pe_lst (pa_cons pe_int pa_nil)))))), ?_⟩)
  · obtain ⟨_, _, _, _, _, rfl, _⟩ := h; rfl
  obtain ⟨k, r, o, n, row, rfl, hK, q1, q2⟩ := h
  obtain ⟨dx, v, hk, hv⟩ := id hK
  refine ⟨_, rfl, n, 1, 4, rfl, fun hn => ?_, fun hn => (q2 hn).ref⟩
  refine ⟨_, rfl, Nat.zero_le _, fun a1 h1 => ⟨Nat.zero_le _, fun a2 h2 x dy hx hdy ne => ⟨x, dy, n, a1, a2, rfl, upd_same, fun H1 hx1 kp => ⟨rfl, ?_⟩⟩⟩⟩
  have s1 : Same H (upd H a1 (.lst [])) := sUp h1
  have s2 := s1.trans (sUp (o := .lst []) h2)
  have s3 := Same.made hx hdy kp
  have hk3 := s3 _ _ (s2 _ _ hk)
  have hD : HasD D H1 x ⟨n.toNat, [], []⟩ := ⟨dy, a1, a2, by rw [hx1]; show some (HO.ins D dy (dF n a1 a2)) = some (HO.ins D dy (dF (n.toNat : Int) a1 a2)); rw [Int.toNat_of_nonneg (by omega)], ⟨[], s3 _ _ ((sUp h2) _ _ upd_same), trivial⟩, s3 _ _ upd_same⟩
  refine ⟨_, rfl, k, E, dx, _, rfl, hk3, T.clK, T.ed, (by show 1 < 1000; decide), ?_⟩
  rw [kF_put]
  refine ⟨small2 (by show 1 ≤ 1000; decide), fun p hp => ?_⟩
  obtain ⟨e1, e2⟩ := put_end (H2 := upd (upd H1 k (.ins E dx (kF (.ref x)))) p (.lst (vI [0]))) hk (s2.trans s3) hD (sUp hp)
  exact q1 hn _ _ (put_free (s2.trans s3) hp) e1 e2 upd_same
abbrev s_add_candidate : Stmt := top 66
abbrev sl_add_candidate : List Str := ["desk", "number", "row", "design"]
theorem sc_add_candidate : FnScope sl_add_candidate ["desk", "number", "row"] (defScope s_add_candidate) := ⟨rfl, rfl, rfl, by decide +kernel, rfl, by decide +kernel, by decide +kernel⟩
theorem ok_add_candidate {f : Addr} {fd : FuncData} (F : Fun K "add_candidate" "add_candidate" s_add_candidate f fd) (T : Txt K mg D E R N L) (c_need : Cal P w K mg base (L2.CX P w) 3 "need" ["is_so", "code"] (spNeed R))
    (c_need_row : Mal P w K mg base (L2.CX P w) 4 E "need_row" ["self", "row"] (spNeedRow E D R)) (c_Design : Kal P w K mg base 1 "Design" D ["self", "columns", "rows", "counts"] (spDInit D)) :
    FnOk P w K mg base (L2.CX P w) 14 f fd ["desk", "number", "row"] (spDeed E D R N L dAdd) := by
  refine F.okX sc_add_candidate (fun vs H Q E h => ?_) (fun cdv A outer s H vs Q Ex hr h => ⟨_, (pss_cons (ps_set (i := 3) sc_add_candidate.nd rfl (by first | exact Or.inl rfl | exact Or.inr rfl) (pe_fld (pv 0) rfl))
      (pss_cons (ps_expr (pe_mal (pv 0) T.clK c_need_row (hr.mono (by decide)) (passes_call (takes_of rfl rfl rfl rfl) (fun _ _ _ _ h => h)) (pa_cons (pv 2) pa_nil)))
      (pss_cons (ps_expr (pe_cal c_need (hr.mono (by decide)) (passes_call (takes_of rfl rfl rfl rfl) (fun _ _ _ _ h => h)) (pa_cons (pe_cmpR (op_notRow (hu65 hr)) (pv 2) (pe_fld (pv 3) rfl) (by rfl)) (pa_cons (pe_gi T.i_THERE_ALREADY) pa_nil))))
      (pss_cons (ps_expr (pe_cal c_need (hr.mono (by decide)) (passes_call (takes_of rfl rfl rfl rfl) (fun _ _ _ _ h => h)) (pa_cons (pe_cmpR op_lt (pe_callB call_len_seq (by rfl) T.n_len (by decide +kernel) (pa_cons (pe_fld (pv 3) rfl) pa_nil)) (pe_gi T.i_MOST_CANDIDATES) (nomark _)) (pa_cons (pe_gi T.i_TOO_MANY) pa_nil))))
      (pss_cons (ps_fld (pv 0) (pe_mk c_Design (hr.mono (by decide)) (pa_cons (pe_fld (pv 3) rfl) (pa_cons (pe_op op_cat (pe_fld (pv 3) rfl) (pe_lst (pa_cons (pv 2) pa_nil))) (pa_cons (pe_op op_cat (pe_fld (pv 3) rfl) (pe_lst (pa_cons pe_int pa_nil))) pa_nil)))) rfl)
      (pss_one (ps_ret (pe_lst (pa_cons (pe_callB call_len_seq (by rfl) T.n_len (by decide +kernel) (pa_cons (pe_fld (pv 3) rfl) pa_nil)) pa_nil))))))))), ?_⟩)
  · obtain ⟨_, _, _, _, _, rfl, _⟩ := h; rfl
  obtain ⟨k, r, d, n, row, rfl, hK, wf, hR, hl, q1, q2⟩ := h
  obtain ⟨dx, v, hk, a, rfl, hh⟩ := id hK
  obtain ⟨dy, ra, ca, hD⟩ := id hh
  refine ⟨_, rfl, k, E, dx, _, _, rfl, hk, T.clK, T.ed, kF_d, _, rfl, k, dx, _, rfl, hk, kF_no (by decide +kernel), _, rfl, k, r, d, row, rfl, hK, hR, hl, fun z => ?_, fun z => (q2 _ (by unfold dAdd; rw [if_pos z])).ref⟩
  intro H1 s1
  obtain ⟨ras, hra, hrR⟩ := hD.rows
  have i1 := hD.same s1
  refine ⟨_, rfl, _, rfl, a, D, dy, _, _, rfl, i1.at_, T.clD, T.dr, dF_r, r, ra, row, d.rows, rfl, rfl, SqL.of (s1 _ _ hR), i1.rows, _, (-17), rfl, fun z1 => ?_, fun z1 => (q2 _ (by unfold dAdd; rw [if_neg (by rw [z]; decide), if_pos (by simpa using z1)])).ref.same s1⟩
  have nin : ¬ (d.rows.any fun y => decide (y = row)) = true := fun y => by rw [y] at z1; cases z1
  have lr : (List.map V.ref ras).length = d.rows.length := by rw [List.length_map, hrR.length]
  refine ⟨_, rfl, a, D, dy, _, _, rfl, i1.at_, T.clD, T.dr, dF_r, ra, _, rfl, .inl (SqL.of (s1 _ _ hra)), _, 10, rfl, rfl, _, (-28), rfl, fun z2 => ?_, fun z2 => (q2 _ (by
    unfold dAdd
    rw [if_neg (by rw [z]; decide), if_neg nin, if_pos (fun y => of_decide_eq_false z2 (by rw [lr]; omega))])).ref.same s1⟩
  have lt : d.rows.length < 10 := by have := of_decide_eq_true z2; rw [lr] at this; omega
  refine ⟨_, rfl, a, D, dy, _, _, rfl, i1.at_, T.clD, T.dc, dF_c, _, rfl, a, D, dy, _, _, rfl, i1.at_, T.clD, T.dr, dF_r, _, rfl, small2 (by show 1 ≤ 1000; decide), fun b1 hb1 => ?_⟩
  have e1 : (upd H1 b1 (.lst [.ref r])) b1 = some (.lst [.ref r]) := upd_same
  have s2 := s1.trans (sUp (o := .lst [.ref r]) hb1)
  generalize upd H1 b1 (.lst [.ref r]) = H2 at e1 s2 ⊢
  refine ⟨ra, b1, _, _, rfl, rfl, s2 _ _ hra, e1, small2 (by rw [lr]; show _ + 1 ≤ 1000; omega), fun c1 hc1 => ?_⟩
  have e2 : (upd H2 c1 (.lst (ras.map V.ref ++ [.ref r]))) c1 = some (.lst (ras.map V.ref ++ [.ref r])) := upd_same
  have s3 := s2.trans (sUp (o := .lst (ras.map V.ref ++ [.ref r])) hc1)
  generalize upd H2 c1 (.lst (ras.map V.ref ++ [.ref r])) = H3 at e2 s3 ⊢
  have i3 := hD.same s3
  refine ⟨_, rfl, a, D, dy, _, _, rfl, i3.at_, T.clD, T.dn, dF_n, small2 (by show 1 ≤ 1000; decide), fun b2 hb2 => ?_⟩
  have e3 : (upd H3 b2 (.lst [.int 0])) b2 = some (.lst [.int 0]) := upd_same
  have s4 : Same H3 (upd H3 b2 (.lst [.int 0])) := sUp hb2
  generalize upd H3 b2 (.lst [.int 0]) = H4 at e3 s4 ⊢
  refine ⟨ca, b2, _, _, rfl, rfl, s4 _ _ i3.cs, e3, small2 (by rw [List.length_map, wf.cl]; show _ + 1 ≤ 1000; omega), fun c2 hc2 x dz hx hdz ne => ⟨x, dz, d.n, c1, c2, rfl, upd_same, fun H5 hx5 kp => ⟨rfl, ?_⟩⟩⟩
  have e4 : (upd H4 c2 (.lst (vI d.cs ++ [.int 0]))) c2 = some (.lst (vI d.cs ++ [.int 0])) := upd_same
  have s5 := s4.trans (sUp (o := .lst (vI d.cs ++ [.int 0])) hc2)
  have s6 := Same.made hx hdz kp
  have s36 := s5.trans s6
  have s06 := s3.trans s36
  have nD : HasD D H5 x ⟨d.n, d.rows ++ [row], d.cs ++ [0]⟩ := ⟨dz, c1, c2, hx5, ⟨ras ++ [r], by rw [s36 _ _ e2]; simp, RowsAt.snoc (s06 _ _ hR) (hrR.same s06)⟩, by rw [s6 _ _ e4]; simp [vI]⟩
  refine ⟨_, rfl, k, E, dx, _, rfl, s06 _ _ hk, T.clK, T.ed, (by show 1 < 1000; decide), ?_⟩
  rw [kF_put]
  obtain ⟨g1, g2⟩ := put_end hk s06 nD (Same.refl _)
  have oD := g1.hasD hk hh
  obtain ⟨dy', ra', ca', hD'⟩ := id oD
  obtain ⟨ras', hra', hrR'⟩ := hD'.rows
  refine ⟨_, rfl, a, D, dy', _, _, rfl, hD'.at_, T.clD, T.dr, dF_r, ra', _, rfl, .inl (SqL.of hra'), small2 (by show 1 ≤ 1000; decide), fun p hp => ?_⟩
  obtain ⟨f1, f2⟩ := put_end (H2 := upd (upd H5 k (.ins E dx (kF (.ref x)))) p (.lst [.int ((ras'.map V.ref).length : Nat)])) hk s06 nD (sUp hp)
  refine q1 [(d.rows.length : Int)] _ (by unfold dAdd; rw [if_neg (by rw [z]; decide), if_neg nin, if_neg (fun y => y lt)]) _ _ (put_free s06 hp) f1 f2 ?_
  rw [upd_same, List.length_map, hrR'.length]
  rfl
abbrev s_remove_candidate : Stmt := top 67
abbrev sl_remove_candidate : List Str := ["desk", "number", "row", "design", "rows"]
theorem sc_remove_candidate : FnScope sl_remove_candidate ["desk", "number", "row"] (defScope s_remove_candidate) := ⟨rfl, rfl, rfl, by decide +kernel, rfl, by decide +kernel, by decide +kernel⟩
theorem ok_remove_candidate {f : Addr} {fd : FuncData} (F : Fun K "remove_candidate" "remove_candidate" s_remove_candidate f fd) (T : Txt K mg D E R N L)
    (c_need_candidate : Mal P w K mg base (L2.CX P w) 4 E "need_candidate" ["self", "number"] (spNeedCand E D R)) (c_Design : Kal P w K mg base 1 "Design" D ["self", "columns", "rows", "counts"] (spDInit D)) :
    FnOk P w K mg base (L2.CX P w) 14 f fd ["desk", "number", "row"] (spDeed E D R N L dRem) := by
  refine F.okX sc_remove_candidate (fun vs H Q E h => ?_) (fun cdv A outer s H vs Q Ex hr h => ⟨_, (pss_cons (ps_set (i := 3) sc_remove_candidate.nd rfl (by first | exact Or.inl rfl | exact Or.inr rfl) (pe_fld (pv 0) rfl))
      (pss_cons (ps_expr (pe_mal (pv 0) T.clK c_need_candidate (hr.mono (by decide)) (passes_call (takes_of rfl rfl rfl rfl) (fun _ _ _ _ h => h)) (pa_cons (pv 1) pa_nil)))
      (pss_cons (ps_set (i := 4) sc_remove_candidate.nd rfl (by first | exact Or.inl rfl | exact Or.inr rfl) (pe_op op_cat (pe_slice sl_list (pe_fld (pv 3) rfl) po_none (po_some (pv 1))) (pe_slice sl_list (pe_fld (pv 3) rfl) (po_some (pe_op op_add (pv 1) pe_int)) po_none)))
      (pss_cons (ps_fld (pv 0) (pe_mk c_Design (hr.mono (by decide)) (pa_cons (pe_fld (pv 3) rfl) (pa_cons (pv 4) (pa_cons (pe_op op_cat (pe_slice sl_list (pe_fld (pv 3) rfl) po_none (po_some (pv 1))) (pe_slice sl_list (pe_fld (pv 3) rfl) (po_some (pe_op op_add (pv 1) pe_int)) po_none)) pa_nil)))) rfl)
      (pss_one (ps_ret (pe_lst (pa_cons (pe_callB call_len_seq (by rfl) T.n_len (by decide +kernel) (pa_cons (pv 4) pa_nil)) pa_nil)))))))), ?_⟩)
  · obtain ⟨_, _, _, _, _, rfl, _⟩ := h; rfl
  obtain ⟨k, r, d, n, row, rfl, hK, wf, hR, hl, q1, q2⟩ := h
  obtain ⟨dx, v, hk, a, rfl, hh⟩ := id hK
  obtain ⟨dy, ra, ca, hD⟩ := id hh
  refine ⟨_, rfl, k, E, dx, _, _, rfl, hk, T.clK, T.ed, kF_d, _, rfl, k, dx, _, rfl, hk, kF_no (by decide +kernel), _, rfl, k, d, n, rfl, hK, fun hn => ?_, fun hn => (q2 _ (by unfold dRem; rw [if_neg hn])).ref⟩
  obtain ⟨m, rfl⟩ : ∃ m : Nat, n = m := ⟨n.toNat, by omega⟩
  obtain ⟨ras, hra, hrR⟩ := hD.rows
  have lr : (List.map V.ref ras).length = d.rows.length := by rw [List.length_map, hrR.length]
  have hm : m < d.rows.length := by omega
  have lra : ras.length = d.rows.length := hrR.length
  refine ⟨_, rfl, a, D, dy, _, _, rfl, hD.at_, T.clD, T.dr, dF_r, _, rfl, m, rfl, ra, _, rfl, SqL.of hra, fun b1 hb1 => ?_⟩
  rw [cut_to, vR_take]
  have e1 : (upd H b1 (.lst ((ras.take m).map V.ref))) b1 = some (.lst ((ras.take m).map V.ref)) := upd_same
  have s1 : Same H (upd H b1 (.lst ((ras.take m).map V.ref))) := sUp hb1
  generalize upd H b1 (.lst ((ras.take m).map V.ref)) = H1 at e1 s1 ⊢
  refine ⟨_, rfl, a, D, dy, _, _, rfl, s1 _ _ hD.at_, T.clD, T.dr, dF_r, _, rfl, m, 1, rfl, rfl, _, rfl, ra, _, rfl, SqL.of (s1 _ _ hra), fun b2 hb2 => ?_⟩
  rw [show ((m : Int) + 1) = ((m + 1 : Nat) : Int) from rfl, cut_from, vR_drop]
  have e2 : (upd H1 b2 (.lst ((ras.drop (m + 1)).map V.ref))) b2 = some (.lst ((ras.drop (m + 1)).map V.ref)) := upd_same
  have s2 : Same H1 (upd H1 b2 (.lst ((ras.drop (m + 1)).map V.ref))) := sUp hb2
  generalize upd H1 b2 (.lst ((ras.drop (m + 1)).map V.ref)) = H2 at e2 s2 ⊢
  refine ⟨b1, b2, _, _, rfl, rfl, s2 _ _ e1, e2, small2 (by have := wf.rk; simp only [List.length_map, List.length_take, List.length_drop]; omega), fun c1 hc1 => ?_⟩
  rw [← List.map_append]
  have e3 : (upd H2 c1 (.lst ((ras.take m ++ ras.drop (m + 1)).map V.ref))) c1 = some (.lst ((ras.take m ++ ras.drop (m + 1)).map V.ref)) := upd_same
  have s3 : Same H (upd H2 c1 (.lst ((ras.take m ++ ras.drop (m + 1)).map V.ref))) := (s1.trans s2).trans (sUp hc1)
  generalize upd H2 c1 (.lst ((ras.take m ++ ras.drop (m + 1)).map V.ref)) = H3 at e3 s3 ⊢
  have i3 := hD.same s3
  refine ⟨_, rfl, a, D, dy, _, _, rfl, i3.at_, T.clD, T.dc, dF_c, _, rfl, _, rfl, a, D, dy, _, _, rfl, i3.at_, T.clD, T.dn, dF_n, _, rfl, m, rfl, ca, _, rfl, SqL.of i3.cs, fun b3 hb3 => ?_⟩
  rw [cut_to, vI_take]
  have e4 : (upd H3 b3 (.lst (vI (d.cs.take m)))) b3 = some (.lst (vI (d.cs.take m))) := upd_same
  have s4 : Same H3 (upd H3 b3 (.lst (vI (d.cs.take m)))) := sUp hb3
  generalize upd H3 b3 (.lst (vI (d.cs.take m))) = H4 at e4 s4 ⊢
  have i4 := i3.same s4
  refine ⟨_, rfl, a, D, dy, _, _, rfl, i4.at_, T.clD, T.dn, dF_n, _, rfl, m, 1, rfl, rfl, _, rfl, ca, _, rfl, SqL.of i4.cs, fun b4 hb4 => ?_⟩
  rw [show ((m : Int) + 1) = ((m + 1 : Nat) : Int) from rfl, cut_from, vI_drop]
  have e5 : (upd H4 b4 (.lst (vI (d.cs.drop (m + 1))))) b4 = some (.lst (vI (d.cs.drop (m + 1)))) := upd_same
  have s5 : Same H4 (upd H4 b4 (.lst (vI (d.cs.drop (m + 1))))) := sUp hb4
  generalize upd H4 b4 (.lst (vI (d.cs.drop (m + 1)))) = H5 at e5 s5 ⊢
  refine ⟨b3, b4, _, _, rfl, rfl, s5 _ _ e4, e5, small2 (by have := wf.rk; have := wf.cl; simp only [List.length_map, List.length_take, List.length_drop]; omega), fun c2 hc2 x dz hx hdz ne => ⟨x, dz, d.n, c1, c2, rfl, upd_same, fun H7 hx7 kp => ⟨rfl, ?_⟩⟩⟩
  rw [← List.map_append] at hx hdz kp
  have e6 : (upd H5 c2 (.lst (vI (d.cs.take m ++ d.cs.drop (m + 1))))) c2 = some (.lst (vI (d.cs.take m ++ d.cs.drop (m + 1)))) := upd_same
  have s6 : Same H3 (upd H5 c2 (.lst (vI (d.cs.take m ++ d.cs.drop (m + 1))))) := (s4.trans s5).trans (sUp hc2)
  have s7 := Same.made hx hdz kp
  have s37 := s6.trans s7
  have s07 := s3.trans s37
  have nD : HasD D H7 x ⟨d.n, d.rows.take m ++ d.rows.drop (m + 1), d.cs.take m ++ d.cs.drop (m + 1)⟩ :=
    ⟨dz, c1, c2, hx7, ⟨_, s37 _ _ e3, ((hrR.take m).append (hrR.drop (m + 1))).same s07⟩, s7 _ _ e6⟩
  refine ⟨_, rfl, k, E, dx, _, rfl, s07 _ _ hk, T.clK, T.ed, (by show 1 < 1000; decide), ?_⟩
  rw [kF_put]
  obtain ⟨g1, g2⟩ := put_end hk s07 nD (Same.refl _)
  have ce : (upd H7 k (.ins E dx (kF (.ref x)))) c1 = some (.lst ((ras.take m ++ ras.drop (m + 1)).map V.ref)) := Kept.upd.lst (s07 _ _ hk) (s37 _ _ e3)
  refine ⟨_, rfl, c1, _, rfl, .inl (SqL.of ce), small2 (by show 1 ≤ 1000; decide), fun p hp => ?_⟩
  obtain ⟨f1, f2⟩ := put_end (H2 := upd (upd H7 k (.ins E dx (kF (.ref x)))) p (.lst [.int (((ras.take m ++ ras.drop (m + 1)).map V.ref).length : Nat)])) hk s07 nD (sUp hp)
  refine q1 [(d.rows.length : Int) - 1] _ (by unfold dRem; rw [if_pos hn]; rfl) _ _ (put_free s07 hp) f1 f2 ?_
  rw [upd_same]
  have : ((((ras.take m ++ ras.drop (m + 1)).map V.ref).length : Nat) : Int) = (d.rows.length : Int) - 1 := by
    simp only [List.length_map, List.length_append, List.length_take, List.length_drop]
    omega
  rw [this]
  rfl
abbrev s_get_candidate : Stmt := top 68
abbrev sl_get_candidate : List Str := ["desk", "number", "row"]
theorem sc_get_candidate : FnScope sl_get_candidate ["desk", "number", "row"] (defScope s_get_candidate) := ⟨rfl, rfl, rfl, by decide +kernel, rfl, by decide +kernel, by decide +kernel⟩
theorem ok_get_candidate {f : Addr} {fd : FuncData} (F : Fun K "get_candidate" "get_candidate" s_get_candidate f fd) (T : Txt K mg D E R N L)
    (c_need_candidate : Mal P w K mg base (L2.CX P w) 4 E "need_candidate" ["self", "number"] (spNeedCand E D R)) : FnOk P w K mg base (L2.CX P w) 14 f fd ["desk", "number", "row"] (spDeed E D R N L dGet) := by
  refine F.okX sc_get_candidate (fun vs H Q E h => ?_) (fun cdv A outer s H vs Q Ex hr h => ⟨_, (pss_cons (ps_expr (pe_mal (pv 0) T.clK c_need_candidate (hr.mono (by decide)) (passes_call (takes_of rfl rfl rfl rfl) (fun _ _ _ _ h => h)) (pa_cons (pv 1) pa_nil)))
      (pss_one (ps_ret (pe_op op_cat (pe_lst (pa_cons (pe_fld (pe_fld (pv 0) rfl) rfl) pa_nil)) (pe_ix ix_list (pe_fld (pe_fld (pv 0) rfl) rfl) (pv 1) (fun _ _ => rfl)))))), ?_⟩)
  · obtain ⟨_, _, _, _, _, rfl, _⟩ := h; rfl
  obtain ⟨k, r, d, n, row, rfl, hK, wf, hR, hl, q1, q2⟩ := h
  obtain ⟨dx, v, hk, a, rfl, hh⟩ := id hK
  obtain ⟨dy, ra, ca, hD⟩ := id hh
  refine ⟨_, rfl, k, dx, _, rfl, hk, kF_no (by decide +kernel), _, rfl, k, d, n, rfl, hK, fun hn => ?_, fun hn => (q2 _ (by unfold dGet; rw [if_neg hn])).ref⟩
  obtain ⟨m, rfl⟩ : ∃ m : Nat, n = m := ⟨n.toNat, by omega⟩
  obtain ⟨ras, hra, hrR⟩ := hD.rows
  have hm : m < d.rows.length := by omega
  obtain ⟨b, hb, hbr⟩ := hrR.get (List.getElem?_eq_getElem hm)
  refine ⟨_, rfl, k, E, dx, _, _, rfl, hk, T.clK, T.ed, kF_d, a, D, dy, _, _, rfl, hD.at_, T.clD, T.dc, dF_c, small2 (by show 1 ≤ 1000; decide), fun b1 hb1 => ?_⟩
  have s1 : Same H (upd H b1 (.lst [.int d.n])) := sUp hb1
  have e1 : (upd H b1 (.lst [.int d.n])) b1 = some (.lst [.int d.n]) := upd_same
  generalize upd H b1 (.lst [.int d.n]) = H1 at e1 s1 ⊢
  refine ⟨_, rfl, k, E, dx, _, _, rfl, s1 _ _ hk, T.clK, T.ed, kF_d, a, D, dy, _, _, rfl, s1 _ _ hD.at_, T.clD, T.dr, dF_r, _, rfl, ra, _, m, _, rfl, rfl, SqL.of (s1 _ _ hra), atI_nat (j := m) (by rw [List.getElem?_map, hb]; rfl), ?_⟩
  refine ⟨b1, b, _, _, rfl, rfl, e1, s1 _ _ hbr, small2 (by rw [List.length_map, wf.rl _ (List.getElem_mem hm)]; have := wf.n4; show 1 + _ ≤ 1000; omega), fun p hp => ?_⟩
  refine q1 ((d.n : Int) :: d.rows.getD m []) d (by unfold dGet; rw [if_pos hn]; rfl) _ _ (s1.free hp) (Kept.of (s1.trans (sUp hp))) (hK.same (s1.trans (sUp hp))) ?_
  rw [upd_same, List.getD_eq_getElem?_getD, List.getElem?_eq_getElem hm]
  rfl
abbrev s_set_counts : Stmt := top 69
abbrev sl_set_counts : List Str := ["desk", "number", "row"]
theorem sc_set_counts : FnScope sl_set_counts ["desk", "number", "row"] (defScope s_set_counts) := ⟨rfl, rfl, rfl, by decide +kernel, rfl, by decide +kernel, by decide +kernel⟩
theorem ok_set_counts {f : Addr} {fd : FuncData} (F : Fun K "set_counts" "set_counts" s_set_counts f fd) (T : Txt K mg D E R N L)
    (c_need_counts : Mal P w K mg base (L2.CX P w) 4 E "need_counts" ["self", "counts"] (spNeedCounts E D R)) (c_with_counts : Mal P w K mg base CX0 3 D "with_counts" ["self", "counts"] (spWith D))
    (c_size : Mal P w K mg base CX0 1 D "size" ["self"] (spSize D)) : FnOk P w K mg base (L2.CX P w) 14 f fd ["desk", "number", "row"] (spDeed E D R N L dSet) := by
  refine F.okX sc_set_counts (fun vs H Q E h => ?_) (fun cdv A outer s H vs Q Ex hr h => ⟨_, (pss_cons (ps_expr (pe_mal (pv 0) T.clK c_need_counts (hr.mono (by decide)) (passes_call (takes_of rfl rfl rfl rfl) (fun _ _ _ _ h => h)) (pa_cons (pv 2) pa_nil)))
      (pss_cons (ps_fld (pv 0) (pe_mal (pe_fld (pv 0) rfl) T.clD c_with_counts (hr.mono (by decide)) pass0 (pa_cons (pv 2) pa_nil)) rfl)
      (pss_one (ps_ret (pe_lst (pa_cons (pe_mal0 (pe_fld (pv 0) rfl) T.clD c_size (hr.mono (by decide)) pass0) pa_nil)))))), ?_⟩)
  · obtain ⟨_, _, _, _, _, rfl, _⟩ := h; rfl
  obtain ⟨k, r, d, n, row, rfl, hK, wf, hR, hl, q1, q2⟩ := h
  obtain ⟨dx, v, hk, a, rfl, hh⟩ := id hK
  obtain ⟨dy, ra, ca, hD⟩ := id hh
  refine ⟨_, rfl, k, dx, _, rfl, hk, kF_no (by decide +kernel), _, rfl, k, r, d, row, rfl, hK, hR, hl, fun z H1 s1 => ?_, fun z => (q2 _ (by unfold dSet; rw [if_neg (by rw [z]; decide)])).ref⟩
  refine ⟨_, rfl, k, E, dx, _, _, rfl, s1 _ _ hk, T.clK, T.ed, kF_d, a, dy, _, rfl, s1 _ _ hD.at_, dF_no (by decide +kernel) (by decide +kernel) (by decide +kernel), _, rfl, a, r, d, row, rfl, hh.same s1, s1 _ _ hR, fun H2 x s2 hx nD => ?_⟩
  refine ⟨_, rfl, k, E, dx, _, rfl, s2 _ _ (s1 _ _ hk), T.clK, T.ed, (by show 1 < 1000; decide), ?_⟩
  rw [kF_put]
  obtain ⟨g1, dx', v', hk', a', rfl, g3⟩ := put_end hk (s1.trans s2) nD (Same.refl _)
  obtain ⟨dz, rz, cz, hz⟩ := id g3
  refine ⟨_, rfl, k, E, dx', _, _, rfl, hk', T.clK, T.ed, kF_d, a', dz, _, rfl, hz.at_, dF_no (by decide +kernel) (by decide +kernel) (by decide +kernel), a', ⟨d.n, d.rows, row⟩, rfl, g3, small2 (by show 1 ≤ 1000; decide), fun p hp => ?_⟩
  obtain ⟨f1, f2⟩ := put_end (H2 := upd (upd H2 k (.ins E dx (kF (.ref x)))) p (.lst [.int row.sum])) hk (s1.trans s2) nD (sUp hp)
  exact q1 [row.sum] _ (by unfold dSet; rw [if_pos z]) _ _ (put_free (s1.trans s2) hp) f1 f2 upd_same
abbrev s_ask_counts : Stmt := top 70
abbrev sl_ask_counts : List Str := ["desk", "number", "row"]
theorem sc_ask_counts : FnScope sl_ask_counts ["desk", "number", "row"] (defScope s_ask_counts) := ⟨rfl, rfl, rfl, by decide +kernel, rfl, by decide +kernel, by decide +kernel⟩
theorem ok_ask_counts {f : Addr} {fd : FuncData} (F : Fun K "ask_counts" "ask_counts" s_ask_counts f fd) (T : Txt K mg D E R N L) : FnOk P w K mg base (L2.CX P w) 14 f fd ["desk", "number", "row"] (spDeed E D R N L dCnt) := by
  refine F.okX sc_ask_counts (fun vs H Q E h => ?_) (fun cdv A outer s H vs Q Ex hr h => ⟨_, (pss_one (ps_ret (pe_op op_cat (pe_lst (pa_cons (pe_callB call_len_seq (by rfl) T.n_len (by decide +kernel) (pa_cons (pe_fld (pe_fld (pv 0) rfl) rfl) pa_nil)) pa_nil)) (pe_fld (pe_fld (pv 0) rfl) rfl)))), ?_⟩)
  · obtain ⟨_, _, _, _, _, rfl, _⟩ := h; rfl
  obtain ⟨k, r, d, n, row, rfl, hK, wf, hR, hl, q1, q2⟩ := h
  obtain ⟨dx, v, hk, a, rfl, hh⟩ := id hK
  obtain ⟨dy, ra, ca, hD⟩ := id hh
  refine ⟨_, rfl, k, E, dx, _, _, rfl, hk, T.clK, T.ed, kF_d, a, D, dy, _, _, rfl, hD.at_, T.clD, T.dn, dF_n, ca, _, rfl, .inl (SqL.of hD.cs), small2 (by show 1 ≤ 1000; decide), fun b1 hb1 => ?_⟩
  refine ⟨_, rfl, k, E, dx, _, _, rfl, (sUp hb1) _ _ hk, T.clK, T.ed, kF_d, a, D, dy, _, _, rfl, (sUp hb1) _ _ hD.at_, T.clD, T.dn, dF_n, b1, ca, _, _, rfl, rfl, upd_same, (sUp hb1) _ _ hD.cs, small2 (by rw [List.length_map, wf.cl]; have := wf.rk; show 1 + _ ≤ 1000; omega), fun p hp => ?_⟩
  refine q1 ((d.cs.length : Int) :: d.cs) d rfl _ _ ((sUp hb1).free hp) (Kept.of ((sUp hb1).trans (sUp hp))) (hK.same ((sUp hb1).trans (sUp hp))) ?_
  rw [upd_same, List.length_map]
  rfl
abbrev s_ask_determinant : Stmt := top 72
abbrev sl_ask_determinant : List Str := ["desk", "number", "row"]
theorem sc_ask_determinant : FnScope sl_ask_determinant ["desk", "number", "row"] (defScope s_ask_determinant) := ⟨rfl, rfl, rfl, by decide +kernel, rfl, by decide +kernel, by decide +kernel⟩
theorem ok_ask_determinant {f : Addr} {fd : FuncData} (F : Fun K "ask_determinant" "ask_determinant" s_ask_determinant f fd) (T : Txt K mg D E R N L) (c_worth : Mal P w K mg base CX0 7 D "worth" ["self"] (spWorth D)) :
    FnOk P w K mg base (L2.CX P w) 14 f fd ["desk", "number", "row"] (spDeed E D R N L dDet) := by
  refine F.okX sc_ask_determinant (fun vs H Q E h => ?_) (fun cdv A outer s H vs Q Ex hr h => ⟨_, (pss_one (ps_ret (pe_lst (pa_cons (pe_mal0 (pe_fld (pv 0) rfl) T.clD c_worth (hr.mono (by decide)) pass0) pa_nil)))), ?_⟩)
  · obtain ⟨_, _, _, _, _, rfl, _⟩ := h; rfl
  obtain ⟨k, r, d, n, row, rfl, hK, wf, hR, hl, q1, q2⟩ := h
  obtain ⟨dx, v, hk, a, rfl, hh⟩ := id hK
  obtain ⟨dy, ra, ca, hD⟩ := id hh
  refine ⟨_, rfl, k, E, dx, _, _, rfl, hk, T.clK, T.ed, kF_d, a, dy, _, rfl, hD.at_, dF_no (by decide +kernel) (by decide +kernel) (by decide +kernel), a, d, rfl, hh, wf, fun H1 s1 => ⟨small2 (by show 1 ≤ 1000; decide), fun p hp => ?_⟩⟩
  exact q1 [det d.mat] d rfl _ _ (s1.free hp) (Kept.of (s1.trans (sUp hp))) (hK.same (s1.trans (sUp hp))) upd_same
abbrev s_summary : Stmt := top 89
abbrev sl_summary : List Str := ["desk", "number", "row"]
theorem sc_summary : FnScope sl_summary ["desk", "number", "row"] (defScope s_summary) := ⟨rfl, rfl, rfl, by decide +kernel, rfl, by decide +kernel, by decide +kernel⟩
theorem ok_summary {f : Addr} {fd : FuncData} (F : Fun K "summary" "summary" s_summary f fd) (T : Txt K mg D E R N L) (c_size : Mal P w K mg base CX0 1 D "size" ["self"] (spSize D)) :
    FnOk P w K mg base (L2.CX P w) 14 f fd ["desk", "number", "row"] (spDeed E D R N L dSum) := by
  refine F.okX sc_summary (fun vs H Q E h => ?_) (fun cdv A outer s H vs Q Ex hr h => ⟨_, (pss_one (ps_ret (pe_lst (pa_cons (pe_fld (pe_fld (pv 0) rfl) rfl) (pa_cons (pe_callB call_len_seq (by rfl) T.n_len (by decide +kernel) (pa_cons (pe_fld (pe_fld (pv 0) rfl) rfl) pa_nil)) (pa_cons (pe_mal0 (pe_fld (pv 0) rfl) T.clD c_size (hr.mono (by decide)) pass0) pa_nil)))))), ?_⟩)
  · obtain ⟨_, _, _, _, _, rfl, _⟩ := h; rfl
  obtain ⟨k, r, d, n, row, rfl, hK, wf, hR, hl, q1, q2⟩ := h
  obtain ⟨dx, v, hk, a, rfl, hh⟩ := id hK
  obtain ⟨dy, ra, ca, hD⟩ := id hh
  obtain ⟨ras, hra, hrR⟩ := hD.rows
  refine ⟨_, rfl, k, E, dx, _, _, rfl, hk, T.clK, T.ed, kF_d, a, D, dy, _, _, rfl, hD.at_, T.clD, T.dc, dF_c, _, rfl, k, E, dx, _, _, rfl, hk, T.clK, T.ed, kF_d, a, D, dy, _, _, rfl, hD.at_, T.clD, T.dr, dF_r, ra, _, rfl, .inl (SqL.of hra), _, rfl, k, E, dx, _, _, rfl, hk, T.clK, T.ed, kF_d, a, dy, _, rfl, hD.at_, dF_no (by decide +kernel) (by decide +kernel) (by decide +kernel), a, d, rfl, hh, small2 (by show 3 ≤ 1000; decide), fun p hp => ?_⟩
  refine q1 [(d.n : Int), (d.rows.length : Int), d.cs.sum] d rfl _ _ hp (Kept.of (sUp hp)) (hK.same (sUp hp)) ?_
  rw [upd_same, List.length_map, hrR.length]
  rfl
abbrev s_ask_information : Stmt := top 71
abbrev sl_ask_information : List Str := ["desk", "number", "row", "found", "line"]
theorem sc_ask_information : FnScope sl_ask_information ["desk", "number", "row"] (defScope s_ask_information) := ⟨rfl, rfl, rfl, by decide +kernel, rfl, by decide +kernel, by decide +kernel⟩
theorem ok_ask_information {f : Addr} {fd : FuncData} (F : Fun K "ask_information" "ask_information" s_ask_information f fd) (T : Txt K mg D E R N L) (c_matrix : Mal P w K mg base CX0 3 D "matrix" ["self"] (spMatrix D)) :
    FnOk P w K mg base (L2.CX P w) 14 f fd ["desk", "number", "row"] (spDeed E D R N L dInf) := by
  refine F.okX sc_ask_information (fun vs H Q E h => ?_) (fun cdv A outer s H vs Q Ex hr h => ⟨_, (pss_cons (ps_set (i := 3) sc_ask_information.nd rfl (by first | exact Or.inl rfl | exact Or.inr rfl) (pe_lst (pa_cons (pe_fld (pe_fld (pv 0) rfl) rfl) pa_nil)))
      (pss_cons (ps_for (passes_of rfl) rfl (pi_list (pe_mal0 (pe_fld (pv 0) rfl) T.clD c_matrix (hr.mono (by decide)) pass0)) (pg_name (i := 4) sc_ask_information.nd rfl (by first | exact Or.inl rfl | exact Or.inr rfl))
      (pss_one (ps_expr (pe_bm PySem.F.plainAttrs_list PySem.F.slot_list_extend PySem.F.type_list_extend mt_extend (pv 3) (pa_cons (pv 4) pa_nil)))))
      (pss_one (ps_ret (pv 3))))), ?_⟩)
  · obtain ⟨_, _, _, _, _, rfl, _⟩ := h; rfl
  obtain ⟨k, r, d, n, row, rfl, hK, wf, hR, hl, q1, q2⟩ := h
  obtain ⟨dx, v, hk, a, rfl, hh⟩ := id hK
  obtain ⟨dy, ra, ca, hD⟩ := id hh
  have mm := wf.mat
  have n4 := wf.n4
  refine ⟨_, rfl, k, E, dx, _, _, rfl, hk, T.clK, T.ed, kF_d, a, D, dy, _, _, rfl, hD.at_, T.clD, T.dc, dF_c, small2 (by show 1 ≤ 1000; decide), fun b1 hb1 => ?_⟩
  have s1 : Same H (upd H b1 (.lst [.int d.n])) := sUp hb1
  have e1 : (upd H b1 (.lst [.int d.n])) b1 = some (.lst [.int d.n]) := upd_same
  generalize upd H b1 (.lst [.int d.n]) = H1 at e1 s1 ⊢
  refine ⟨_, rfl, k, E, dx, _, _, rfl, s1 _ _ hk, T.clK, T.ed, kF_d, a, dy, _, rfl, s1 _ _ hD.at_, dF_no (by decide +kernel) (by decide +kernel) (by decide +kernel), a, d, rfl, hh.same s1, wf, fun H2 pm s2 ⟨mas, hma, hmR⟩ => ?_⟩
  have lm : mas.length = d.n := by rw [hmR.length]; exact mm.len
  have one : b1 ∈ mas → d.n = 1 := fun hb => by
    obtain ⟨j, hj⟩ := List.getElem?_of_mem hb
    obtain ⟨row', h1, h2⟩ := hmR.get' hj
    rw [s2 _ _ e1] at h2
    have h3 := congrArg List.length (HO.lst.inj (Option.some.inj h2))
    rw [List.length_map] at h3
    have h4 := mm.row _ (List.mem_of_getElem? h1)
    rw [← h4, ← h3]
    rfl
  have pne : pm ≠ b1 := fun e => by
    rw [e, s2 _ _ e1] at hma
    have h1 := HO.lst.inj (Option.some.inj hma)
    cases mas with
    | nil => cases h1
    | cons z zs => cases h1
  have fl : ∀ j, ((d.mat.take j).flatten).length ≤ 16 := fun j => by
    have key : ∀ (m : Mat), (∀ l ∈ m, l.length = d.n) → m.flatten.length = m.length * d.n := fun m h => by
      induction m with
      | nil => simp
      | cons l m ih => rw [List.flatten_cons, List.length_append, h l List.mem_cons_self, ih fun z hz => h z (List.mem_cons_of_mem _ hz), List.length_cons, Nat.succ_mul]; omega
    rw [key _ fun l hl => mm.row l (List.mem_of_mem_take hl), List.length_take]
    have ml := mm.len
    exact Nat.le_trans (Nat.mul_le_mul (show min j d.mat.length ≤ 4 by omega) n4) (by decide)
  refine ⟨pm, rfl, ⟨_, SqL.of hma⟩, for_it (walk_list (xs := mas.map V.ref))
    (fun i σ H' => ∃ v1 : Option V, σ = [some (.ref k), some (.int n), some (.ref r), some (.ref b1), v1] ∧ Same H H' ∧ H' b1 = some (.lst (vI ((d.n : Int) :: (d.mat.take i).flatten))) ∧ H' pm = some (.lst (mas.map V.ref)) ∧ (b1 ∉ mas ∨ i = 0 → RowsAt H' mas d.mat))
    ⟨none, rfl, s1.trans s2, s2 _ _ e1, hma, fun _ => hmR⟩ (fun i σ H' _ h => ?_) ?_ ?_⟩
  · obtain ⟨_, _, _, _, h1, _⟩ := h
    exact SqL.of h1
  · rintro i x σ H3 H4 hi ⟨v1, rfl, s3, hb3, hm3, hr3⟩ ⟨rfl, hx⟩
    obtain ⟨b, hb, rfl⟩ := map_get hx
    have hi' : i < d.n := by rw [← lm]; exact (List.getElem?_eq_some_iff.mp hb).1
    have hr4 := hr3 (by
      by_cases y : b1 ∈ mas
      · have := one y
        exact .inr (by omega)
      · exact .inl y)
    obtain ⟨row', hrow, hrowH⟩ := hr4.get' hb
    have lr' := mm.row _ (List.mem_of_getElem? hrow)
    refine ⟨_, rfl, ty_list hb3, _, rfl, b1, b, _, _, rfl, rfl, hb3, hrowH, small2 ?_, some (.ref b), rfl, ?_, ?_, ?_, ?_⟩
    · have := fl i
      rw [List.length_map, List.length_map, List.length_cons, lr']
      omega
    · exact sUps s3 hb1
    · rw [upd_same, take_next hrow, List.flatten_append]
      simp [vI]
    · rw [upd_ne pne]
      exact hm3
    · intro y
      rcases y with y | y
      · exact hr4.upd y
      · cases y
  · rintro σ H3 ⟨v1, rfl, s3, hb3, _, _⟩
    rw [List.take_of_length_le (by rw [List.length_map, lm, mm.len]; exact Nat.le_refl _)] at hb3
    exact ⟨_, rfl, q1 _ d rfl _ _ hb1 (Kept.of s3) (hK.same s3) hb3⟩
end
end Bd
set_option maxRecDepth 100000
set_option maxHeartbeats 4000000
namespace Bd
open PySem PySem.Spec PyProof.Rows L2
/-! ## designs.py: deeds over a regular design -/
def dTr (d : Ds) (_ : Int) (_ : List Int) : Out := if det d.mat = 0 then .no (-33) else .ok (0 :: toldF [traceF d.mat]) d
def dVar (d : Ds) (_ : Int) (row : List Int) : Out := if rowOk d.n row = false then .no (-22) else if det d.mat = 0 then .no (-33) else .ok (0 :: toldF (varsF d.mat [row])) d
def dCV (d : Ds) (_ : Int) (_ : List Int) : Out := if det d.mat = 0 then .no (-33) else .ok ((d.rows.length : Int) :: toldF (varsF d.mat d.rows)) d
def hereF (d : Ds) : Kxd5.Fraction := Kxd5.times (dWorstF d) (Kxd5.fraction d.cs.sum 1)
def dOpt (d : Ds) (_ : Int) (_ : List Int) : Out := if det d.mat = 0 then .no (-33) else .ok ((if !(Kxd5.isLess (Kxd5.fraction d.n 1) (hereF d)) then 1 else 0) :: (dWorst d : Int) :: toldF [hereF d]) d
def dBnd (d : Ds) (n : Int) (_ : List Int) : Out := if ¬ (1 ≤ n ∧ n ≤ 100) then .no (-22) else if det d.mat = 0 then .no (-33) else .ok [dBound d n.toNat] d
def dExch (d : Ds) (_ : Int) (_ : List Int) : Out := match (bx d).1 with
  | none => .no (-33)
  | some (i, j, x) => .ok [(i : Int), (j : Int), x] (exC d i j)
def impF : Nat → Ds → Nat × Ds
  | 0, d => (0, d)
  | k + 1, d => match (bx d).1 with
    | none => (0, d)
    | some (i, j, _) => ((impF k (exC d i j)).1 + 1, (impF k (exC d i j)).2)
def dImp (d : Ds) (n : Int) (_ : List Int) : Out := if ¬ (1 ≤ n ∧ n ≤ 20) then .no (-22) else .ok [((impF n.toNat d).1 : Int), det (impF n.toNat d).2.mat] (impF n.toNat d).2
theorem fold_inv {α β : Type} (P : β → Prop) (f : β → α → β) : ∀ (l : List α) (b : β), P b → (∀ b x, x ∈ l → P b → P (f b x)) → P (l.foldl f b)
  | [], _, h, _ => h
  | x :: l, b, h, hs => fold_inv P f l (f b x) (hs b x List.mem_cons_self h) fun b y hy => hs b y (List.mem_cons_of_mem _ hy)
/-- what the search may hand back -/
def BxOk (d : Ds) (o : Option (Nat × Nat × Int)) : Prop := ∀ i j x, o = some (i, j, x) → i < d.cs.length ∧ j < d.cs.length ∧ j ≠ i ∧ d.cs.getD i 0 > 0 ∧ d.cs.getD j 0 < 20
theorem bx_ok (d : Ds) : BxOk d (bx d).1 := by
  unfold bx
  refine fold_inv (fun (b : BX) => BxOk d b.1) _ _ _ (fun i j x e => by cases e) fun b i hi hb => ?_
  unfold bxRow
  split
  · rename_i hp
    refine fold_inv (fun (b : BX) => BxOk d b.1) _ _ _ hb fun b j hj hb => ?_
    unfold bxStep
    split
    · rename_i hq
      split
      · intro i' j' x' e
        cases e
        exact ⟨List.mem_range.mp hi, List.mem_range.mp hj, hq.1, hp, hq.2⟩
      · exact hb
    · exact hb
  · exact hb
theorem stepC_len (cs : List Int) (i : Nat) (t : Int) : (stepC cs i t).length = cs.length := List.length_set
theorem stepC_mem {cs : List Int} {i : Nat} {t : Int} (h : ∀ c ∈ cs, 0 ≤ c ∧ c ≤ 20) (ht : 0 ≤ cs.getD i 0 + t ∧ cs.getD i 0 + t ≤ 20) : ∀ c ∈ stepC cs i t, 0 ≤ c ∧ c ≤ 20 := fun c hc => by
  rcases List.mem_or_eq_of_mem_set hc with h1 | h1
  · exact h c h1
  · rw [h1]; exact ht
theorem getD_at {cs : List Int} {i : Nat} (h : i < cs.length) : cs.getD i 0 ∈ cs := by
  rw [List.getD_eq_getElem?_getD, List.getElem?_eq_getElem h]
  exact List.getElem_mem h
theorem stepC_ne {cs : List Int} {i j : Nat} {t : Int} (h : j ≠ i) : (stepC cs i t).getD j 0 = cs.getD j 0 := by
  unfold stepC
  rw [List.getD_eq_getElem?_getD, List.getElem?_set_ne (Ne.symm h), ← List.getD_eq_getElem?_getD]
theorem Wf.ex {d : Ds} (h : Wf d) {i j : Nat} (hi : i < d.cs.length) (hj : j < d.cs.length) (ne : j ≠ i) (pi : d.cs.getD i 0 > 0) (pj : d.cs.getD j 0 < 20) : Wf (exC d i j) := by
  refine ⟨h.n1, h.n4, h.rl, h.re, h.rk, ?_, ?_⟩
  · show (stepC (stepC d.cs i (-1)) j 1).length = _
    rw [stepC_len, stepC_len, h.cl]
    rfl
  · have a := h.cb _ (getD_at hi)
    have b := h.cb _ (getD_at hj)
    refine stepC_mem (stepC_mem h.cb (by omega)) ?_
    rw [stepC_ne ne]
    omega
theorem Wf.bx {d : Ds} (h : Wf d) {i j : Nat} {x : Int} (e : (Bd.bx d).1 = some (i, j, x)) : Wf (exC d i j) ∧ i < d.cs.length ∧ j < d.cs.length := by
  obtain ⟨h1, h2, h3, h4, h5⟩ := bx_ok d i j x e
  exact ⟨h.ex h1 h2 h3 h4 h5, h1, h2⟩
theorem impF_wf : ∀ (k : Nat) {d : Ds}, Wf d → Wf (impF k d).2
  | 0, d, h => h
  | k + 1, d, h => by
    unfold impF
    split
    · exact h
    · rename_i i j x e
      exact impF_wf k (h.bx e).1
def impW (E D k r : Addr) (m : Nat) (d : Ds) (H : Hp) (μ : Nat) (σ : L2.St) (H' : Hp) : Prop :=
  ∃ (e : Ds) (c : Nat) (v : V), σ = [some (.ref k), some (.int (m : Int)), some (.ref r), some (.int (c : Int)), some v] ∧ Wf e ∧ Kept k H H' ∧ HasK E D H' k (some e) ∧ FoundAt H' v (bx e).1 ∧ c ≤ m ∧ μ = m - c ∧
    impF m d = ((impF (m - c) e).1 + c, (impF (m - c) e).2)
theorem ifE {b : Bool} {A B : Prop} (h : b = true) (x : A) : if b = true then A else B := by rw [if_pos h]; exact x
theorem ifN {b : Bool} {A B : Prop} (h : b = false) (x : B) : if b = true then A else B := by rw [h]; exact iteF x
section
variable {P : Program} {w : World} {K : PySem.W.Frag} {mg : Str → Option Value} {base : Heap} {D E R N L : Addr}
abbrev s_ask_trace : Stmt := top 73
abbrev sl_ask_trace : List Str := ["desk", "number", "row"]
theorem sc_ask_trace : FnScope sl_ask_trace ["desk", "number", "row"] (defScope s_ask_trace) := ⟨rfl, rfl, rfl, by decide +kernel, rfl, by decide +kernel, by decide +kernel⟩
theorem ok_ask_trace {f : Addr} {fd : FuncData} (F : Fun K "ask_trace" "ask_trace" s_ask_trace f fd) (T : Txt K mg D E R N L) (c_told : Cal P w K mg base CX0 1 "told" ["fractions"] (spTold K))
    (c_own_trace : Mal P w K mg base (L2.CX P w) 9 D "own_trace" ["self"] (spOwnTrace K D N)) : FnOk P w K mg base (L2.CX P w) 14 f fd ["desk", "number", "row"] (spDeed E D R N L dTr) := by
  refine F.okX sc_ask_trace (fun vs H Q E h => ?_) (fun cdv A outer s H vs Q Ex hr h => ⟨_, (pss_one (ps_ret (pe_op op_cat (pe_lst (pa_cons pe_int pa_nil)) (pe_cal c_told (hr.mono (by decide)) pass0 (pa_cons (pe_lst (pa_cons (pe_mal0 (pe_fld (pv 0) rfl) T.clD c_own_trace (hr.mono (by decide)) (passes_call (takes_of rfl rfl rfl rfl) (fun _ _ _ _ h => h))) pa_nil)) pa_nil))))), ?_⟩)
  · obtain ⟨_, _, _, _, _, rfl, _⟩ := h; rfl
  obtain ⟨k, r, d, n, row, rfl, hK, wf, hR, hl, q1, q2⟩ := h
  obtain ⟨dx, v, hk, a, rfl, hh⟩ := id hK
  obtain ⟨dy, ra, ca, hD⟩ := id hh
  refine ⟨small2 (by show 1 ≤ 1000; decide), fun b0 h0 => ?_⟩
  have s1 : Same H (upd H b0 (.lst [.int 0])) := sUp h0
  have e1 : (upd H b0 (.lst [.int 0])) b0 = some (.lst [.int 0]) := upd_same
  generalize upd H b0 (.lst [.int 0]) = H1 at e1 s1 ⊢
  refine ⟨_, rfl, k, E, dx, _, _, rfl, s1 _ _ hk, T.clK, T.ed, kF_d, a, dy, _, rfl, s1 _ _ hD.at_, dF_no (by decide +kernel) (by decide +kernel) (by decide +kernel), a, d, rfl, hh.same s1, wf, fun z => ((q2 _ (by unfold dTr; rw [if_pos z])).same s1).nr, fun z H2 p s2 f2 => ⟨small2 (by show 1 ≤ 1000; decide), fun b1 h1 => ?_⟩⟩
  refine ⟨b1, [p], [traceF d.mat], rfl, IsFf.one upd_same (f2.same (sUp h1)), by show 1 ≤ 100; decide, fun H3 p3 s3 e3 => ?_⟩
  have s13 := s2.trans ((sUp (o := .lst [.ref p]) h1).trans s3)
  refine ⟨b0, p3, _, _, rfl, rfl, s13 _ _ e1, e3, small2 (by rw [List.length_map, toldF_len]; show 1 + 2 ≤ 1000; decide), fun q hq => ?_⟩
  exact q1 (0 :: toldF [traceF d.mat]) d (by unfold dTr; rw [if_neg z]) _ _ ((s1.trans s13).free hq) (Kept.of (s1.trans (s13.trans (sUp hq)))) (hK.same (s1.trans (s13.trans (sUp hq)))) upd_same
theorem rowOk_ev {n : Nat} {row : List Int} (h : rowOk n row = true) : row.length = n ∧ EV 10 [row] := by
  unfold rowOk at h
  obtain ⟨h1, h2⟩ := Bool.and_eq_true_iff.mp h
  refine ⟨of_decide_eq_true h1, fun r hr x hx => ?_⟩
  rw [List.mem_singleton] at hr
  subst hr
  have := of_decide_eq_true (List.all_eq_true.mp h2 x hx)
  omega
abbrev s_ask_variance : Stmt := top 74
abbrev sl_ask_variance : List Str := ["desk", "number", "row"]
theorem sc_ask_variance : FnScope sl_ask_variance ["desk", "number", "row"] (defScope s_ask_variance) := ⟨rfl, rfl, rfl, by decide +kernel, rfl, by decide +kernel, by decide +kernel⟩
theorem ok_ask_variance {f : Addr} {fd : FuncData} (F : Fun K "ask_variance" "ask_variance" s_ask_variance f fd) (T : Txt K mg D E R N L) (c_told : Cal P w K mg base CX0 1 "told" ["fractions"] (spTold K))
    (c_need_row : Mal P w K mg base (L2.CX P w) 4 E "need_row" ["self", "row"] (spNeedRow E D R)) (c_variances : Mal P w K mg base (L2.CX P w) 9 D "variances" ["self", "vectors"] (spVariances D N)) :
    FnOk P w K mg base (L2.CX P w) 14 f fd ["desk", "number", "row"] (spDeed E D R N L dVar) := by
  refine F.okX sc_ask_variance (fun vs H Q E h => ?_) (fun cdv A outer s H vs Q Ex hr h => ⟨_, (pss_cons (ps_expr (pe_mal (pv 0) T.clK c_need_row (hr.mono (by decide)) (passes_call (takes_of rfl rfl rfl rfl) (fun _ _ _ _ h => h)) (pa_cons (pv 2) pa_nil)))
      (pss_one (ps_ret (pe_op op_cat (pe_lst (pa_cons pe_int pa_nil)) (pe_cal c_told (hr.mono (by decide)) pass0 (pa_cons (pe_mal (pe_fld (pv 0) rfl) T.clD c_variances (hr.mono (by decide)) (passes_call (takes_of rfl rfl rfl rfl) (fun _ _ _ _ h => h)) (pa_cons (pe_lst (pa_cons (pv 2) pa_nil)) pa_nil)) pa_nil)))))), ?_⟩)
  · obtain ⟨_, _, _, _, _, rfl, _⟩ := h; rfl
  obtain ⟨k, r, d, n, row, rfl, hK, wf, hR, hl, q1, q2⟩ := h
  obtain ⟨dx, v, hk, a, rfl, hh⟩ := id hK
  obtain ⟨dy, ra, ca, hD⟩ := id hh
  refine ⟨_, rfl, k, dx, _, rfl, hk, kF_no (by decide +kernel), _, rfl, k, r, d, row, rfl, hK, hR, hl, fun zr H0 s0 => ⟨small2 (by show 1 ≤ 1000; decide), fun b0 h0 => ?_⟩, fun z => (q2 _ (by unfold dVar; rw [if_pos z])).ref⟩
  have s1 : Same H (upd H0 b0 (.lst [.int 0])) := s0.trans (sUp h0)
  have e1 : (upd H0 b0 (.lst [.int 0])) b0 = some (.lst [.int 0]) := upd_same
  generalize upd H0 b0 (.lst [.int 0]) = H1 at e1 s1 ⊢
  obtain ⟨r1, r2⟩ := rowOk_ev zr
  refine ⟨_, rfl, k, E, dx, _, _, rfl, s1 _ _ hk, T.clK, T.ed, kF_d, a, dy, _, rfl, s1 _ _ hD.at_, dF_no (by decide +kernel) (by decide +kernel) (by decide +kernel), _, rfl, small2 (by show 1 ≤ 1000; decide), fun b1 h1 => ?_⟩
  have s2 : Same H1 (upd H1 b1 (.lst [.ref r])) := sUp h1
  have e2 : (upd H1 b1 (.lst [.ref r])) b1 = some (.lst [.ref r]) := upd_same
  generalize upd H1 b1 (.lst [.ref r]) = H2 at e2 s2 ⊢
  have s02 := s1.trans s2
  refine ⟨a, b1, d, [row], rfl, hh.same s02, wf, ⟨[r], e2, s02 _ _ hR, trivial⟩, by show 1 ≤ 10; decide, fun y hy => by rw [List.mem_singleton] at hy; rw [hy]; exact r1, r2,
    fun z => ((q2 _ (by unfold dVar; rw [if_neg (by rw [zr]; decide), if_pos z])).same s02).nr, fun z H3 p s3 f3 => ?_⟩
  obtain ⟨as, ff⟩ := f3.ff (K := K)
  refine ⟨p, as, varsF d.mat [row], rfl, ff, by unfold varsF; rw [List.length_map]; show 1 ≤ 100; decide, fun H4 p4 s4 e4 => ?_⟩
  have s14 := s2.trans (s3.trans s4)
  refine ⟨b0, p4, _, _, rfl, rfl, s14 _ _ e1, e4, small2 (by rw [List.length_map, toldF_len]; unfold varsF; rw [List.length_map]; show 1 + 2 ≤ 1000; decide), fun q hq => ?_⟩
  exact q1 (0 :: toldF (varsF d.mat [row])) d (by unfold dVar; rw [if_neg (by rw [zr]; decide), if_neg z]) _ _ ((s1.trans s14).free hq) (Kept.of (s1.trans (s14.trans (sUp hq)))) (hK.same (s1.trans (s14.trans (sUp hq)))) upd_same
abbrev s_candidate_variances : Stmt := top 75
abbrev sl_candidate_variances : List Str := ["desk", "number", "row"]
theorem sc_candidate_variances : FnScope sl_candidate_variances ["desk", "number", "row"] (defScope s_candidate_variances) := ⟨rfl, rfl, rfl, by decide +kernel, rfl, by decide +kernel, by decide +kernel⟩
theorem ok_candidate_variances {f : Addr} {fd : FuncData} (F : Fun K "candidate_variances" "candidate_variances" s_candidate_variances f fd) (T : Txt K mg D E R N L) (c_told : Cal P w K mg base CX0 1 "told" ["fractions"] (spTold K))
    (c_variances : Mal P w K mg base (L2.CX P w) 9 D "variances" ["self", "vectors"] (spVariances D N)) : FnOk P w K mg base (L2.CX P w) 14 f fd ["desk", "number", "row"] (spDeed E D R N L dCV) := by
  refine F.okX sc_candidate_variances (fun vs H Q E h => ?_) (fun cdv A outer s H vs Q Ex hr h => ⟨_, (pss_one (ps_ret (pe_op op_cat (pe_lst (pa_cons (pe_callB call_len_seq (by rfl) T.n_len (by decide +kernel) (pa_cons (pe_fld (pe_fld (pv 0) rfl) rfl) pa_nil)) pa_nil)) (pe_cal c_told (hr.mono (by decide)) pass0 (pa_cons (pe_mal (pe_fld (pv 0) rfl) T.clD c_variances (hr.mono (by decide)) (passes_call (takes_of rfl rfl rfl rfl) (fun _ _ _ _ h => h)) (pa_cons (pe_fld (pe_fld (pv 0) rfl) rfl) pa_nil)) pa_nil))))), ?_⟩)
  · obtain ⟨_, _, _, _, _, rfl, _⟩ := h; rfl
  obtain ⟨k, r, d, n, row, rfl, hK, wf, hR, hl, q1, q2⟩ := h
  obtain ⟨dx, v, hk, a, rfl, hh⟩ := id hK
  obtain ⟨dy, ra, ca, hD⟩ := id hh
  obtain ⟨ras, hra, hrR⟩ := hD.rows
  have lr : (ras.map V.ref).length = d.rows.length := by rw [List.length_map, hrR.length]
  refine ⟨_, rfl, k, E, dx, _, _, rfl, hk, T.clK, T.ed, kF_d, a, D, dy, _, _, rfl, hD.at_, T.clD, T.dr, dF_r, ra, _, rfl, .inl (SqL.of hra), small2 (by show 1 ≤ 1000; decide), fun b0 h0 => ?_⟩
  rw [lr]
  have s1 : Same H (upd H b0 (.lst [.int (d.rows.length : Int)])) := sUp h0
  have e1 : (upd H b0 (.lst [.int (d.rows.length : Int)])) b0 = some (.lst [.int (d.rows.length : Int)]) := upd_same
  generalize upd H b0 (.lst [.int (d.rows.length : Int)]) = H1 at e1 s1 ⊢
  have i1 := hD.same s1
  refine ⟨_, rfl, k, E, dx, _, _, rfl, s1 _ _ hk, T.clK, T.ed, kF_d, a, dy, _, rfl, i1.at_, dF_no (by decide +kernel) (by decide +kernel) (by decide +kernel), _, rfl, k, E, dx, _, _, rfl, s1 _ _ hk, T.clK, T.ed, kF_d, a, D, dy, _, _, rfl, i1.at_, T.clD, T.dr, dF_r, a, ra, d, d.rows, rfl, hh.same s1, wf, i1.rows, wf.rk, wf.rl, wf.re,
    fun z => ((q2 _ (by unfold dCV; rw [if_pos z])).same s1).nr, fun z H3 p s3 f3 => ?_⟩
  obtain ⟨as, ff⟩ := f3.ff (K := K)
  have vl : (varsF d.mat d.rows).length ≤ 10 := by unfold varsF; rw [List.length_map]; exact wf.rk
  refine ⟨p, as, varsF d.mat d.rows, rfl, ff, by omega, fun H4 p4 s4 e4 => ?_⟩
  have s14 := s3.trans s4
  refine ⟨b0, p4, _, _, rfl, rfl, s14 _ _ e1, e4, small2 (by rw [List.length_map, toldF_len]; show 1 + _ ≤ 1000; omega), fun q hq => ?_⟩
  exact q1 ((d.rows.length : Int) :: toldF (varsF d.mat d.rows)) d (by unfold dCV; rw [if_neg z]) _ _ ((s1.trans s14).free hq) (Kept.of (s1.trans (s14.trans (sUp hq)))) (hK.same (s1.trans (s14.trans (sUp hq)))) upd_same
abbrev s_ask_bound : Stmt := top 77
abbrev sl_ask_bound : List Str := ["desk", "number", "row"]
theorem sc_ask_bound : FnScope sl_ask_bound ["desk", "number", "row"] (defScope s_ask_bound) := ⟨rfl, rfl, rfl, by decide +kernel, rfl, by decide +kernel, by decide +kernel⟩
theorem ok_ask_bound {f : Addr} {fd : FuncData} (F : Fun K "ask_bound" "ask_bound" s_ask_bound f fd) (T : Txt K mg D E R N L) (c_need_range : Cal P w K mg base (L2.CX P w) 4 "need_range" ["number", "least", "most"] (spNeedRange R))
    (c_bound : Mal P w K mg base (L2.CX P w) 13 D "bound" ["self", "size"] (spBound D N)) : FnOk P w K mg base (L2.CX P w) 14 f fd ["desk", "number", "row"] (spDeed E D R N L dBnd) := by
  refine F.okX sc_ask_bound (fun vs H Q E h => ?_) (fun cdv A outer s H vs Q Ex hr h => ⟨_, (pss_cons (ps_expr (pe_cal c_need_range (hr.mono (by decide)) (passes_call (takes_of rfl rfl rfl rfl) (fun _ _ _ _ h => h)) (pa_cons (pv 1) (pa_cons pe_int (pa_cons (pe_gi T.i_MOST_BOUND) pa_nil)))))
      (pss_one (ps_ret (pe_lst (pa_cons (pe_mal (pe_fld (pv 0) rfl) T.clD c_bound (hr.mono (by decide)) (passes_call (takes_of rfl rfl rfl rfl) (fun _ _ _ _ h => h)) (pa_cons (pv 1) pa_nil)) pa_nil))))), ?_⟩)
  · obtain ⟨_, _, _, _, _, rfl, _⟩ := h; rfl
  obtain ⟨k, r, d, n, row, rfl, hK, wf, hR, hl, q1, q2⟩ := h
  obtain ⟨dx, v, hk, a, rfl, hh⟩ := id hK
  obtain ⟨dy, ra, ca, hD⟩ := id hh
  refine ⟨_, rfl, n, 1, 100, rfl, fun hn => ?_, fun hn => (q2 _ (by unfold dBnd; rw [if_pos hn])).ref⟩
  obtain ⟨m, rfl⟩ : ∃ m : Nat, n = m := ⟨n.toNat, by omega⟩
  refine ⟨_, rfl, k, E, dx, _, _, rfl, hk, T.clK, T.ed, kF_d, a, dy, _, rfl, hD.at_, dF_no (by decide +kernel) (by decide +kernel) (by decide +kernel), _, rfl, a, d, m, rfl, hh, wf, by omega, fun z => (q2 _ (by unfold dBnd; rw [if_neg (fun y => y hn), if_pos z])).nr, fun z H1 s1 => ⟨small2 (by show 1 ≤ 1000; decide), fun p hp => ?_⟩⟩
  exact q1 [dBound d m] d (by unfold dBnd; rw [if_neg (fun y => y hn), if_neg z]; rfl) _ _ (s1.free hp) (Kept.of (s1.trans (sUp hp))) (hK.same (s1.trans (sUp hp))) upd_same
abbrev s_exchange : Stmt := top 78
abbrev sl_exchange : List Str := ["desk", "number", "row", "found"]
theorem sc_exchange : FnScope sl_exchange ["desk", "number", "row"] (defScope s_exchange) := ⟨rfl, rfl, rfl, by decide +kernel, rfl, by decide +kernel, by decide +kernel⟩
theorem ok_exchange {f : Addr} {fd : FuncData} (F : Fun K "exchange" "exchange" s_exchange f fd) (T : Txt K mg D E R N L) (c_need : Cal P w K mg base (L2.CX P w) 3 "need" ["is_so", "code"] (spNeed R))
    (c_best_exchange : Cal P w K mg base CX0 9 "best_exchange" ["design"] (spBestEx D)) (c_exchanged : Cal P w K mg base CX0 4 "exchanged" ["design", "exchange"] (spExchanged D)) :
    FnOk P w K mg base (L2.CX P w) 14 f fd ["desk", "number", "row"] (spDeed E D R N L dExch) := by
  refine F.okX sc_exchange (fun vs H Q E h => ?_) (fun cdv A outer s H vs Q Ex hr h => ⟨_, (pss_cons (ps_set (i := 3) sc_exchange.nd rfl (by first | exact Or.inl rfl | exact Or.inr rfl) (pe_cal c_best_exchange (hr.mono (by decide)) pass0 (pa_cons (pe_fld (pv 0) rfl) pa_nil)))
      (pss_cons (ps_expr (pe_cal c_need (hr.mono (by decide)) (passes_call (takes_of rfl rfl rfl rfl) (fun _ _ _ _ h => h)) (pa_cons (pe_cmpR op_notN (pv 3) pe_non (nomark _)) (pa_cons (pe_gi T.i_NOT_THERE) pa_nil))))
      (pss_cons (ps_fld (pv 0) (pe_cal c_exchanged (hr.mono (by decide)) pass0 (pa_cons (pe_fld (pv 0) rfl) (pa_cons (pv 3) pa_nil))) rfl)
      (pss_one (ps_ret (pe_callTy call_list_of (by rfl) T.n_list (by decide +kernel) (pa_cons (pv 3) pa_nil))))))), ?_⟩)
  · obtain ⟨_, _, _, _, _, rfl, _⟩ := h; rfl
  obtain ⟨k, r, d, n, row, rfl, hK, wf, hR, hl, q1, q2⟩ := h
  obtain ⟨dx, v, hk, a, rfl, hh⟩ := id hK
  obtain ⟨dy, ra, ca, hD⟩ := id hh
  refine ⟨_, rfl, k, E, dx, _, _, rfl, hk, T.clK, T.ed, kF_d, a, d, rfl, hh, wf, fun H1 v s1 fa => ?_⟩
  have hwf : ∀ i j x, (bx d).1 = some (i, j, x) → Wf (exC d i j) ∧ i < d.cs.length ∧ j < d.cs.length := fun i j x e => wf.bx e
  unfold dExch at q1 q2
  generalize hbx : (bx d).1 = o at fa hwf q1 q2
  cases o with
  | none =>
    obtain rfl : v = .non := fa
    exact ⟨_, rfl, rfl, _, (-33), rfl, fun z => absurd z (by simp), fun _ => ((q2 _ rfl).same s1).ref⟩
  | some o =>
    obtain ⟨i, j, x⟩ := o
    obtain ⟨t, rfl, ht⟩ := fa
    obtain ⟨w1, w2, w3⟩ := hwf i j x rfl
    refine ⟨_, rfl, rfl, _, (-33), rfl, fun _ => ?_, fun z => absurd z (by simp)⟩
    refine ⟨_, rfl, k, E, dx, _, _, rfl, s1 _ _ hk, T.clK, T.ed, kF_d, _, rfl, a, t, d, i, j, x, rfl, hh.same s1, wf, ht, w2, w3, fun H2 y s2 hy nD => ?_⟩
    refine ⟨_, rfl, k, E, dx, _, rfl, s2 _ _ (s1 _ _ hk), T.clK, T.ed, (by show 1 < 1000; decide), ?_⟩
    rw [kF_put]
    have hk2 := s2 _ _ (s1 _ _ hk)
    refine ⟨_, rfl, t, _, rfl, .inr (SqT.of ((Kept.upd (o := .ins E dx (kF (.ref y)))).tup hk2 (s2 _ _ ht))), fun p hp => ?_⟩
    obtain ⟨f1, f2⟩ := put_end (H2 := upd (upd H2 k (.ins E dx (kF (.ref y)))) p (.lst [.int (i : Int), .int (j : Int), .int x])) hk (s1.trans s2) nD (sUp hp)
    exact q1 [(i : Int), (j : Int), x] _ rfl _ _ (put_free (s1.trans s2) hp) f1 f2 upd_same
abbrev s_improve : Stmt := top 79
abbrev sl_improve : List Str := ["desk", "number", "row", "many", "found"]
theorem sc_improve : FnScope sl_improve ["desk", "number", "row"] (defScope s_improve) := ⟨rfl, rfl, rfl, by decide +kernel, rfl, by decide +kernel, by decide +kernel⟩
theorem ok_improve {f : Addr} {fd : FuncData} (F : Fun K "improve" "improve" s_improve f fd) (T : Txt K mg D E R N L) (c_need_range : Cal P w K mg base (L2.CX P w) 4 "need_range" ["number", "least", "most"] (spNeedRange R))
    (c_best_exchange : Cal P w K mg base CX0 9 "best_exchange" ["design"] (spBestEx D)) (c_exchanged : Cal P w K mg base CX0 4 "exchanged" ["design", "exchange"] (spExchanged D)) (c_worth : Mal P w K mg base CX0 7 D "worth" ["self"] (spWorth D)) :
    FnOk P w K mg base (L2.CX P w) 14 f fd ["desk", "number", "row"] (spDeed E D R N L dImp) := by
  refine F.okX sc_improve (fun vs H Q E h => ?_) (fun cdv A outer s H vs Q Ex hr h => ⟨_, (pss_cons (ps_expr (pe_cal c_need_range (hr.mono (by decide)) (passes_call (takes_of rfl rfl rfl rfl) (fun _ _ _ _ h => h)) (pa_cons (pv 1) (pa_cons pe_int (pa_cons (pe_gi T.i_MOST_LIMIT) pa_nil)))))
      (pss_cons (ps_par (i := 3) (j := 4) rfl sc_improve.nd rfl rfl (by decide) rfl rfl (pa_cons pe_int (pa_cons (pe_cal c_best_exchange (hr.mono (by decide)) pass0 (pa_cons (pe_fld (pv 0) rfl) pa_nil)) pa_nil)) (by rfl))
      (pss_cons (ps_while (passes_of rfl) (PW.pt (pw_and (pt_cmpR op_notN (pv 4) pe_non (nomark _)) (pw_and1 (pt_cmpR op_lt (pv 3) (pv 1) (nomark _))))) (pss_cons (ps_fld (pv 0) (pe_cal c_exchanged (hr.mono (by decide)) pass0 (pa_cons (pe_fld (pv 0) rfl) (pa_cons (pv 4) pa_nil))) rfl)
      (pss_one (ps_par (i := 3) (j := 4) rfl sc_improve.nd rfl rfl (by decide) rfl rfl (pa_cons (pe_op op_add (pv 3) pe_int) (pa_cons (pe_cal c_best_exchange (hr.mono (by decide)) pass0 (pa_cons (pe_fld (pv 0) rfl) pa_nil)) pa_nil)) (by rfl)))))
      (pss_one (ps_ret (pe_lst (pa_cons (pv 3) (pa_cons (pe_mal0 (pe_fld (pv 0) rfl) T.clD c_worth (hr.mono (by decide)) pass0) pa_nil)))))))), ?_⟩)
  · obtain ⟨_, _, _, _, _, rfl, _⟩ := h; rfl
  obtain ⟨k, r, d, n, row, rfl, hK, wf, hR, hl, q1, q2⟩ := h
  obtain ⟨dx, v, hk, a, rfl, hh⟩ := id hK
  obtain ⟨dy, ra, ca, hD⟩ := id hh
  refine ⟨_, rfl, n, 1, 20, rfl, fun hn => ?_, fun hn => (q2 _ (by unfold dImp; rw [if_pos hn])).ref⟩
  obtain ⟨m, rfl⟩ : ∃ m : Nat, n = m := ⟨n.toNat, by omega⟩
  refine ⟨_, rfl, k, E, dx, _, _, rfl, hk, T.clK, T.ed, kF_d, a, d, rfl, hh, wf, fun H1 v s1 fa => ?_⟩
  refine ⟨_, _, rfl, impW E D k r m d H, ⟨m, d, 0, v, rfl, wf, Kept.of s1, hK.same s1, fa, Nat.zero_le _, rfl, rfl⟩, ?_⟩
  rintro μ σ H2 ⟨e, c, v, rfl, wfe, kp, hKe, fa, hc, rfl, im⟩
  obtain ⟨dxe, ve, hke, ae, rfl, hhe⟩ := id hKe
  obtain ⟨dye, rae, cae, hDe⟩ := id hhe
  have hwf : ∀ i j x, (bx e).1 = some (i, j, x) → Wf (exC e i j) ∧ i < e.cs.length ∧ j < e.cs.length := fun i j x h => wfe.bx h
  have nonei : (bx e).1 = none → ∀ q, impF q e = (0, e) := fun h q => by
    cases q with
    | zero => rfl
    | succ q => show (match (bx e).1 with | none => (0, e) | some (i, j, _) => _) = _; rw [h]
  have somei : ∀ i j x, (bx e).1 = some (i, j, x) → ∀ q, impF (q + 1) e = ((impF q (exC e i j)).1 + 1, (impF q (exC e i j)).2) := fun i j x h q => by
    show (match (bx e).1 with | none => (0, e) | some (i, j, _) => ((impF q (exC e i j)).1 + 1, (impF q (exC e i j)).2)) = _
    rw [h]
  generalize hbx : (bx e).1 = o at fa hwf nonei somei
  cases o with
  | none =>
    obtain rfl : v = .non := fa
    refine ⟨_, rfl, rfl, _, rfl, ifN (by simp) (iteF ?_)⟩
    refine ⟨_, rfl, _, rfl, k, E, dxe, _, _, rfl, hke, T.clK, T.ed, kF_d, ae, dye, _, rfl, hDe.at_, dF_no (by decide +kernel) (by decide +kernel) (by decide +kernel), ae, e, rfl, hhe, wfe, fun H3 s3 => ⟨small2 (by show 2 ≤ 1000; decide), fun p hp => ?_⟩⟩
    refine q1 [(c : Int), det e.mat] e ?_ _ _ (kp.free hke (s3.free hp)) (kp.trans (Kept.of (s3.trans (sUp hp)))) (hKe.same (s3.trans (sUp hp))) upd_same
    unfold dImp
    rw [if_neg (fun y => y hn)]
    show Out.ok [((impF m d).1 : Int), det (impF m d).2.mat] (impF m d).2 = _
    rw [im, nonei rfl]
    simp
  | some o =>
    obtain ⟨i, j, x⟩ := o
    obtain ⟨t, rfl, ht⟩ := fa
    obtain ⟨w1, w2, w3⟩ := hwf i j x rfl
    refine ⟨_, rfl, rfl, _, rfl, ifE (by simp) ⟨_, rfl, _, rfl, c, m, rfl, rfl, _, rfl, ?_⟩⟩
    by_cases lt : c < m
    · refine ifT (show (c : Int) < m by omega) ⟨impW E D k r m d H (m - c - 1), fun σ' H' h => ⟨_, by omega, h⟩, ?_⟩
      refine ⟨_, rfl, k, E, dxe, _, _, rfl, hke, T.clK, T.ed, kF_d, _, rfl, ae, t, e, i, j, x, rfl, hhe, wfe, ht, w2, w3, fun H3 y s3 hy nD => ?_⟩
      refine ⟨_, rfl, k, E, dxe, _, rfl, s3 _ _ hke, T.clK, T.ed, (by show 1 < 1000; decide), ?_⟩
      rw [kF_put]
      obtain ⟨g1, g2⟩ := put_end hke s3 nD (Same.refl _)
      obtain ⟨dx', v', hk', a', rfl, g3⟩ := id g2
      refine ⟨_, rfl, c, 1, rfl, rfl, _, rfl, k, E, dx', _, _, rfl, hk', T.clK, T.ed, kF_d, a', exC e i j, rfl, g3, w1, fun H4 v4 s4 fa4 => ⟨_, _, rfl, ?_⟩⟩
      refine ⟨exC e i j, c + 1, v4, rfl, w1, (kp.trans g1).trans (Kept.of s4), g2.same s4, fa4, lt, by omega, ?_⟩
      rw [im, show m - c = (m - (c + 1)) + 1 by omega, somei i j x rfl]
      simp
      omega
    · refine ifF (show ¬ (c : Int) < m by omega) ?_
      have e0 : m - c = 0 := by omega
      refine ⟨_, rfl, _, rfl, k, E, dxe, _, _, rfl, hke, T.clK, T.ed, kF_d, ae, dye, _, rfl, hDe.at_, dF_no (by decide +kernel) (by decide +kernel) (by decide +kernel), ae, e, rfl, hhe, wfe, fun H3 s3 => ⟨small2 (by show 2 ≤ 1000; decide), fun p hp => ?_⟩⟩
      refine q1 [(c : Int), det e.mat] e ?_ _ _ (kp.free hke (s3.free hp)) (kp.trans (Kept.of (s3.trans (sUp hp)))) (hKe.same (s3.trans (sUp hp))) upd_same
      unfold dImp
      rw [if_neg (fun y => y hn)]
      show Out.ok [((impF m d).1 : Int), det (impF m d).2.mat] (impF m d).2 = _
      rw [im, e0]
      simp [impF]
abbrev s_is_optimal : Stmt := top 76
abbrev sl_is_optimal : List Str := ["desk", "number", "row", "design", "candidate", "worst", "here", "passes"]
theorem sc_is_optimal : FnScope sl_is_optimal ["desk", "number", "row"] (defScope s_is_optimal) := ⟨rfl, rfl, rfl, by decide +kernel, rfl, by decide +kernel, by decide +kernel⟩
theorem ok_is_optimal {f : Addr} {fd : FuncData} (F : Fun K "is_optimal" "is_optimal" s_is_optimal f fd) (T : Txt K mg D E R N L) (c_told : Cal P w K mg base CX0 1 "told" ["fractions"] (spTold K))
    (c_worst : Mal P w K mg base (L2.CX P w) 11 D "worst" ["self"] (spWorst D N)) (c_ratio : Cal P w K mg base CX0 2 "ratio" ["above", "below"] spRatio) (c_times : Cal P w K mg base CX0 3 "times" ["one", "other"] (spTimes K))
    (c_is_less : Cal P w K mg base CX0 1 "is_less" ["one", "other"] (spIsLess K)) (c_size : Mal P w K mg base CX0 1 D "size" ["self"] (spSize D)) :
    FnOk P w K mg base (L2.CX P w) 14 f fd ["desk", "number", "row"] (spDeed E D R N L dOpt) := by
  refine F.okX sc_is_optimal (fun vs H Q E h => ?_) (fun cdv A outer s H vs Q Ex hr h => ⟨_, (pss_cons (ps_set (i := 3) sc_is_optimal.nd rfl (by first | exact Or.inl rfl | exact Or.inr rfl) (pe_fld (pv 0) rfl))
      (pss_cons (ps_asg (pe_mal0 (pv 3) T.clD c_worst (hr.mono (by decide)) (passes_call (takes_of rfl rfl rfl rfl) (fun _ _ _ _ h => h))) (pg_tup (by rfl) (pgs_cons (pg_name (i := 4) sc_is_optimal.nd rfl (by first | exact Or.inl rfl | exact Or.inr rfl)) (pgs_cons (pg_name (i := 5) sc_is_optimal.nd rfl (by first | exact Or.inl rfl | exact Or.inr rfl)) pgs_nil))))
      (pss_cons (ps_set (i := 6) sc_is_optimal.nd rfl (by first | exact Or.inl rfl | exact Or.inr rfl) (pe_cal c_times (hr.mono (by decide)) pass0 (pa_cons (pv 5) (pa_cons (pe_cal c_ratio (hr.mono (by decide)) pass0 (pa_cons (pe_mal0 (pv 3) T.clD c_size (hr.mono (by decide)) pass0) (pa_cons pe_int pa_nil))) pa_nil))))
      (pss_cons (ps_set (i := 7) sc_is_optimal.nd rfl (by first | exact Or.inl rfl | exact Or.inr rfl) (pe_not (pe_cal c_is_less (hr.mono (by decide)) pass0 (pa_cons (pe_cal c_ratio (hr.mono (by decide)) pass0 (pa_cons (pe_fld (pv 3) rfl) (pa_cons pe_int pa_nil))) (pa_cons (pv 6) pa_nil)))))
      (pss_one (ps_ret (pe_op op_cat (pe_lst (pa_cons (pe_callTy call_int1 (by rfl) T.n_int (by decide +kernel) (pa_cons (pv 7) pa_nil)) (pa_cons (pv 4) pa_nil))) (pe_cal c_told (hr.mono (by decide)) pass0 (pa_cons (pe_lst (pa_cons (pv 6) pa_nil)) pa_nil))))))))), ?_⟩)
  · obtain ⟨_, _, _, _, _, rfl, _⟩ := h; rfl
  obtain ⟨k, r, d, n, row, rfl, hK, wf, hR, hl, q1, q2⟩ := h
  obtain ⟨dx, v, hk, a, rfl, hh⟩ := id hK
  obtain ⟨dy, ra, ca, hD⟩ := id hh
  refine ⟨_, rfl, k, E, dx, _, _, rfl, hk, T.clK, T.ed, kF_d, _, rfl, a, dy, _, rfl, hD.at_, dF_no (by decide +kernel) (by decide +kernel) (by decide +kernel), a, d, rfl, hh, wf, fun z => (q2 _ (by unfold dOpt; rw [if_pos z])).nr, fun z H1 p1 t1 s1 hp1 ht1 => ?_⟩
  obtain ⟨wp, wn, wd⟩ := wf.worst z
  refine ⟨p1, _, rfl, SqT.of hp1, rfl, _, _, rfl, _, _, rfl, rfl, ?_⟩
  have hh1 := hh.same s1
  have i1 := hD.same s1
  have sumB : Bn 8 d.cs.sum := by
    have key : ∀ l : List Int, (∀ c ∈ l, 0 ≤ c ∧ c ≤ 20) → l.sum.natAbs ≤ 20 * l.length := fun l h => by
      induction l with
      | nil => simp
      | cons c l ih =>
        have := h c List.mem_cons_self
        have := ih fun z hz => h z (List.mem_cons_of_mem _ hz)
        rw [List.sum_cons, List.length_cons]
        omega
    have := key d.cs wf.cb
    have := wf.rk
    have := wf.cl
    exact bn_of_le (k := 200) (by omega) (by decide)
  have o1 : (0 : Int) < 1 := by decide
  refine ⟨_, rfl, _, rfl, a, dy, _, rfl, i1.at_, dF_no (by decide +kernel) (by decide +kernel) (by decide +kernel), a, d, rfl, hh1, d.cs.sum, 1, rfl, o1, Bn.one, fun pr hpr => ?_⟩
  have er : IsT (upd H1 pr (.tup [.int (Kxd5.fraction d.cs.sum 1).numerator, .int ((Kxd5.fraction d.cs.sum 1).denominator : Int)])) pr (Kxd5.fraction d.cs.sum 1) := upd_same
  have s2 : Same H1 (upd H1 pr (.tup [.int (Kxd5.fraction d.cs.sum 1).numerator, .int ((Kxd5.fraction d.cs.sum 1).denominator : Int)])) := sUp hpr
  generalize upd H1 pr (.tup [.int (Kxd5.fraction d.cs.sum 1).numerator, .int ((Kxd5.fraction d.cs.sum 1).denominator : Int)]) = H2 at er s2 ⊢
  have rn : Bn 8 (Kxd5.fraction d.cs.sum 1).numerator := frac_num_bn o1 sumB
  have rd : Bn 8 ((Kxd5.fraction d.cs.sum 1).denominator : Int) := frac_den_bn o1 Bn.one
  have rp := (norm_fraction d.cs.sum 1).pos
  refine ⟨t1, pr, dWorstF d, Kxd5.fraction d.cs.sum 1, rfl, (ht1.same s2).f, er.f, wp, rp, wn.mono (by omega), wd.mono (by omega), rn.mono (by omega), rd.mono (by omega), fun pt hpt => ?_⟩
  have hn1 : Bn 108 (hereF d).numerator := by
    unfold hereF Kxd5.times
    exact frac_num_bn (Int.mul_pos (by omega) (by omega)) ((wn.mul rn).mono (by omega))
  have hd1 : Bn 108 ((hereF d).denominator : Int) := by
    unfold hereF Kxd5.times
    exact frac_den_bn (Int.mul_pos (by omega) (by omega)) ((wd.mul rd).mono (by omega))
  change H2 pt = none at hpt
  have eh : IsT (upd H2 pt (.tup [.int (hereF d).numerator, .int ((hereF d).denominator : Int)])) pt (hereF d) := upd_same
  have s3 : Same H2 (upd H2 pt (.tup [.int (hereF d).numerator, .int ((hereF d).denominator : Int)])) := sUp hpt
  unfold dOpt at q1
  rw [if_neg z] at q1
  change _ at q1
  generalize hhf : hereF d = hf at q1 hn1 hd1 eh s3
  unfold hereF at hhf
  rw [hhf]
  generalize upd H2 pt (.tup [.int hf.numerator, .int (hf.denominator : Int)]) = H3 at eh s3 ⊢
  have s13 := s2.trans s3
  have i3 := i1.same s13
  have nB : Bn 2 (d.n : Int) := bn_of_le (x := (d.n : Int)) (k := 4) (by have := wf.n4; omega) (by decide)
  refine ⟨_, rfl, a, D, dy, _, _, rfl, i3.at_, T.clD, T.dc, dF_c, d.n, 1, rfl, o1, Bn.one, fun pc hpc => ?_⟩
  have ec : IsT (upd H3 pc (.tup [.int (Kxd5.fraction d.n 1).numerator, .int ((Kxd5.fraction d.n 1).denominator : Int)])) pc (Kxd5.fraction d.n 1) := upd_same
  have s4 : Same H3 (upd H3 pc (.tup [.int (Kxd5.fraction d.n 1).numerator, .int ((Kxd5.fraction d.n 1).denominator : Int)])) := sUp hpc
  generalize upd H3 pc (.tup [.int (Kxd5.fraction d.n 1).numerator, .int ((Kxd5.fraction d.n 1).denominator : Int)]) = H4 at ec s4 ⊢
  refine ⟨_, rfl, pc, pt, _, hf, rfl, ec.f, (eh.same s4).f, (frac_num_bn o1 nB).mono (by omega), (frac_den_bn o1 Bn.one), hn1.mono (by omega), hd1.mono (by omega), ?_⟩
  refine ⟨_, rfl, _, rfl, .inr ⟨_, rfl, _, rfl, small2 (by show 2 ≤ 1000; decide), fun b0 h0 => ?_⟩⟩
  have s04 := s1.trans (s13.trans s4)
  refine ⟨_, rfl, small2 (by show 1 ≤ 1000; decide), fun b1 h1 => ⟨b1, [pt], [hf], rfl, IsFf.one upd_same ((eh.same s4).same ((sUp h0).trans (sUp h1))).f, by show 1 ≤ 100; decide, fun H5 p5 s5 e5 => ?_⟩⟩
  refine ⟨b0, p5, _, _, rfl, rfl, s5 _ _ ((sUp h1) _ _ upd_same), e5, small2 (by rw [List.length_map, toldF_len]; show 2 + 2 ≤ 1000; decide), fun p hp => ?_⟩
  have s05 := s04.trans (((sUp h0).trans (sUp h1)).trans s5)
  exact q1 _ d rfl _ _ (s05.free hp) (Kept.of (s05.trans (sUp hp))) (hK.same (s05.trans (sUp hp))) upd_same
end
end Bd
set_option maxRecDepth 100000
set_option maxHeartbeats 4000000
namespace Bd
open PySem PySem.Spec PyProof.Rows L2
/-! ## designs.py: steps, searches, comparisons -/
def stDo (d : Ds) (ps : List Nat) (t : Int) : Out := match st d t ps with
  | none => .no (-33)
  | some (j, x) => .ok [(j : Int), x] ⟨d.n, d.rows, stepC d.cs j t⟩
def upPl (d : Ds) : List Nat := (List.range d.cs.length).filter fun j => decide (d.cs.getD j 0 < 20)
def dnPl (d : Ds) : List Nat := (List.range d.cs.length).filter fun j => decide (d.cs.getD j 0 > 0)
def dAddR (d : Ds) (_ : Int) (_ : List Int) : Out := stDo d (upPl d) 1
def dRemR (d : Ds) (_ : Int) (_ : List Int) : Out := stDo d (dnPl d) (-1)
def dBest (d : Ds) (n : Int) (_ : List Int) : Out := if ¬ (1 ≤ n ∧ n ≤ 20) then .no (-22) else if 500 < lo d.rows.length n.toNat then .no (-28) else if rds d n.toNat = [] then .no (-33) else .ok ((bdF d n.toNat).2 :: (bdF d n.toNat).1.cs) d
def dBT (d : Ds) (n : Int) (_ : List Int) : Out := if ¬ (1 ≤ n ∧ n ≤ 20) then .no (-22) else if 500 < lo d.rows.length n.toNat then .no (-28) else if rds d n.toNat = [] then .no (-33) else match (btF d n.toNat).2 with
  | none => .no (-33)
  | some t => .ok (0 :: toldF [t] ++ (btF d n.toNat).1.cs) d
def dTake (d : Ds) (n : Int) (_ : List Int) : Out := if ¬ (1 ≤ n ∧ n ≤ 20) then .no (-22) else if 500 < lo d.rows.length n.toNat then .no (-28) else if rds d n.toNat = [] then .no (-33) else .ok [(bdF d n.toNat).2] (bdF d n.toNat).1
def dWts (d : Ds) (n : Int) (_ : List Int) : Out := if ¬ (0 ≤ n ∧ n ≤ 3) then .no (-22) else if det (ones d).mat = 0 then .no (-33) else .ok (((wbF d n.toNat).length : Int) :: toldF (wbF d n.toNat)) d
def sgB (b c : Bool) : Int := (if b then 1 else 0) - (if c then 1 else 0)
def dCmp (d : Ds) (_ : Int) (row : List Int) : Out := if cntOk d.rows.length row = false then .no (-22) else if det d.mat = 0 ∨ det (d.to row).mat = 0 then .no (-33) else
  .ok [sgB (decide (det d.mat > det (d.to row).mat)) (decide (det d.mat < det (d.to row).mat)), sgB (Kxd5.isLess (traceF d.mat) (traceF (d.to row).mat)) (Kxd5.isLess (traceF (d.to row).mat) (traceF d.mat))] d
def dGood (d : Ds) (_ : Int) (row : List Int) : Out := if cntOk d.rows.length row = false then .no (-22) else .ok [if noNeg (lessM d.mat (d.to row).mat) then 1 else 0] d
theorem st_some (d : Ds) (t : Int) : ∀ (ps : List Nat), ps ≠ [] → ∃ j x, j ∈ ps ∧ st d t ps = some (j, x) := by
  have key : ∀ (ps : List Nat) (b : Nat × Int), ∃ j x, (j ∈ ps ∨ j = b.1) ∧ ps.foldl (stStep d t) (some b) = some (j, x) := by
    intro ps
    induction ps with
    | nil => intro b; exact ⟨b.1, b.2, .inr rfl, rfl⟩
    | cons p ps ih =>
      intro b
      obtain ⟨q, m⟩ := b
      show ∃ j x, _ ∧ ps.foldl (stStep d t) (stStep d t (some (q, m)) p) = _
      unfold stStep
      by_cases h : oneV d t p > m
      · simp only [h, if_true]
        obtain ⟨j, x, h1, h2⟩ := ih (p, oneV d t p)
        refine ⟨j, x, ?_, h2⟩
        rcases h1 with h1 | h1
        · exact .inl (List.mem_cons_of_mem _ h1)
        · exact .inl (by rw [h1]; exact List.mem_cons_self)
      · simp only [h, if_false]
        obtain ⟨j, x, h1, h2⟩ := ih (q, m)
        refine ⟨j, x, ?_, h2⟩
        rcases h1 with h1 | h1
        · exact .inl (List.mem_cons_of_mem _ h1)
        · exact .inr h1
  intro ps h
  cases ps with
  | nil => exact absurd rfl h
  | cons p ps =>
    obtain ⟨j, x, h1, h2⟩ := key ps (p, oneV d t p)
    refine ⟨j, x, ?_, h2⟩
    rcases h1 with h1 | h1
    · exact List.mem_cons_of_mem _ h1
    · rw [h1]; exact List.mem_cons_self
def spTake (E D R N L : Addr) : Sp := fun vs H Q Ex => ∃ (k p : Addr) (d : Ds) (ps : List Nat) (t : Int), vs = [.ref k, .ref p, .int t] ∧ HasK E D H k (some d) ∧ Wf d ∧ H p = some (.lst (vI (nI ps))) ∧ (∀ j ∈ ps, j < d.rows.length) ∧ t.natAbs ≤ 1 ∧
  (∀ l d', stDo d ps t = .ok l d' → ∀ H' p, H p = none → Kept k H H' → HasK E D H' k (some d') → H' p = some (.lst (vI l)) → Q (.ref p) H') ∧ (∀ c, stDo d ps t = .no c → ENo R N L c H Ex)
theorem bdF_wf {d : Ds} (h : Wf d) {s : Nat} (hs : s ≤ 20) : Wf (bdF d s).1 := by
  unfold bdF
  refine fold_inv (fun (b : Ds × Int) => Wf b.1) _ _ _ h fun b e he hb => ?_
  unfold bdStep
  split
  · exact (rds_full h hs e he).1.wf
  · exact hb
theorem btF_wf {d : Ds} (h : Wf d) {s : Nat} (hs : s ≤ 20) : Wf (btF d s).1 := by
  unfold btF
  refine fold_inv (fun (b : Ds × Option Kxd5.Fraction) => Wf b.1) _ _ _ h fun b e he hb => ?_
  unfold btStep
  split
  · exact (rds_full h hs e he).1.wf
  · split
    · exact (rds_full h hs e he).1.wf
    · exact hb
theorem lessM_isMat {n : Nat} {a b : Mat} (ha : IsMat n a) (hb : IsMat n b) : IsMat n (lessM a b) := by
  refine ⟨?_, fun r hr => ?_⟩
  · unfold lessM
    rw [List.length_zipWith, ha.len, hb.len]
    omega
  · unfold lessM at hr
    obtain ⟨i, hi⟩ := List.getElem?_of_mem hr
    rw [List.getElem?_zipWith] at hi
    cases e1 : a[i]? with
    | none => rw [e1] at hi; cases hi
    | some x =>
      cases e2 : b[i]? with
      | none => rw [e1, e2] at hi; cases hi
      | some y =>
        rw [e1, e2] at hi
        obtain rfl := Option.some.inj hi
        rw [List.length_zipWith, ha.row _ (List.mem_of_getElem? e1), hb.row _ (List.mem_of_getElem? e2)]
        omega
theorem lessM_ev {k l : Nat} {a b : Mat} (ha : EV k a) (hb : EV l b) : EV (k + l) (lessM a b) := fun r hr z hz => by
  unfold lessM at hr
  obtain ⟨i, hi⟩ := List.getElem?_of_mem hr
  rw [List.getElem?_zipWith] at hi
  cases e1 : a[i]? with
  | none => rw [e1] at hi; cases hi
  | some x =>
    cases e2 : b[i]? with
    | none => rw [e1, e2] at hi; cases hi
    | some y =>
      rw [e1, e2] at hi
      obtain rfl := Option.some.inj hi
      obtain ⟨j, hj⟩ := List.getElem?_of_mem hz
      rw [List.getElem?_zipWith] at hj
      cases e3 : x[j]? with
      | none => rw [e3] at hj; cases hj
      | some p =>
        cases e4 : y[j]? with
        | none => rw [e3, e4] at hj; cases hj
        | some q =>
          rw [e3, e4] at hj
          obtain rfl := Option.some.inj hj
          have := ha x (List.mem_of_getElem? e1) p (List.mem_of_getElem? e3)
          have := hb y (List.mem_of_getElem? e2) q (List.mem_of_getElem? e4)
          omega
theorem cntOk_wf {d : Ds} (h : Wf d) {row : List Int} (z : cntOk d.rows.length row = true) : Wf (d.to row) := by
  unfold cntOk at z
  obtain ⟨h1, h2⟩ := Bool.and_eq_true_iff.mp z
  refine ⟨h.n1, h.n4, h.rl, h.re, h.rk, of_decide_eq_true h1, fun c hc => ?_⟩
  exact of_decide_eq_true (List.all_eq_true.mp h2 c hc)
section
variable {P : Program} {w : World} {K : PySem.W.Frag} {mg : Str → Option Value} {base : Heap} {D E R N L : Addr}
abbrev s_take_step : Stmt := top 80
abbrev sl_take_step : List Str := ["desk", "places", "by", "candidate", "worth"]
theorem sc_take_step : FnScope sl_take_step ["desk", "places", "by"] (defScope s_take_step) := ⟨rfl, rfl, rfl, by decide +kernel, rfl, by decide +kernel, by decide +kernel⟩
theorem ok_take_step {f : Addr} {fd : FuncData} (F : Fun K "take_step" "take_step" s_take_step f fd) (T : Txt K mg D E R N L) (c_need : Cal P w K mg base (L2.CX P w) 3 "need" ["is_so", "code"] (spNeed R))
    (c_best_step : Cal P w K mg base CX0 9 "best_step" ["design", "places", "by"] (spBestStep D)) (c_stepped : Cal P w K mg base CX0 1 "stepped" ["counts", "at", "by"] spStepped) (c_with_counts : Mal P w K mg base CX0 3 D "with_counts" ["self", "counts"] (spWith D)) :
    FnOk P w K mg base (L2.CX P w) 12 f fd ["desk", "places", "by"] (spTake E D R N L) := by
  refine F.okX sc_take_step (fun vs H Q E h => ?_) (fun cdv A outer s H vs Q Ex hr h => ⟨_, (pss_cons (ps_expr (pe_cal c_need (hr.mono (by decide)) (passes_call (takes_of rfl rfl rfl rfl) (fun _ _ _ _ h => h)) (pa_cons (pe_cmpR (op_neI hr.units) (pv 1) (pe_lst pa_nil) (nomark _)) (pa_cons (pe_gi T.i_NOT_THERE) pa_nil))))
      (pss_cons (ps_asg (pe_cal c_best_step (hr.mono (by decide)) pass0 (pa_cons (pe_fld (pv 0) rfl) (pa_cons (pv 1) (pa_cons (pv 2) pa_nil)))) (pg_tup (by rfl) (pgs_cons (pg_name (i := 3) sc_take_step.nd rfl (by first | exact Or.inl rfl | exact Or.inr rfl)) (pgs_cons (pg_name (i := 4) sc_take_step.nd rfl (by first | exact Or.inl rfl | exact Or.inr rfl)) pgs_nil))))
      (pss_cons (ps_fld (pv 0) (pe_mal (pe_fld (pv 0) rfl) T.clD c_with_counts (hr.mono (by decide)) pass0 (pa_cons (pe_cal c_stepped (hr.mono (by decide)) pass0 (pa_cons (pe_fld (pe_fld (pv 0) rfl) rfl) (pa_cons (pv 3) (pa_cons (pv 2) pa_nil)))) pa_nil)) rfl)
      (pss_one (ps_ret (pe_lst (pa_cons (pv 3) (pa_cons (pv 4) pa_nil)))))))), ?_⟩)
  · obtain ⟨_, _, _, _, _, rfl, _⟩ := h; rfl
  obtain ⟨k, pl, d, ps, t, rfl, hK, wf, hP, hps, ht, q1, q2⟩ := h
  obtain ⟨dx, v, hk, a, rfl, hh⟩ := id hK
  obtain ⟨dy, ra, ca, hD⟩ := id hh
  refine ⟨_, rfl, Nat.zero_le _, fun b0 h0 => ?_⟩
  have s1 : Same H (upd H b0 (.lst [])) := sUp h0
  have e1 : (upd H b0 (.lst [])) b0 = some (.lst []) := upd_same
  generalize upd H b0 (.lst []) = H1 at e1 s1 ⊢
  refine ⟨pl, b0, nI ps, rfl, rfl, SqL.of (s1 _ _ hP), SqL.of e1, _, (-33), rfl, fun z => ?_, fun z => ?_⟩
  · have ne : ps ≠ [] := fun e => by
      rw [e] at z
      exact absurd z (by decide)
    obtain ⟨j, x, hj, hst⟩ := st_some d t ps ne
    have hj' : j < d.rows.length := hps j hj
    unfold stDo at q1
    rw [hst] at q1
    refine ⟨_, rfl, k, E, dx, _, _, rfl, s1 _ _ hk, T.clK, T.ed, kF_d, _, rfl, _, rfl, a, pl, d, ps, t, rfl, hh.same s1, wf, s1 _ _ hP, hps, ht, fun H2 q s2 hq => ?_⟩
    have hq' := hq j x hst
    refine ⟨q, _, rfl, SqT.of hq', rfl, _, _, rfl, _, _, rfl, rfl, ?_⟩
    have s02 := s1.trans s2
    have i2 := hD.same s02
    refine ⟨_, rfl, k, E, dx, _, _, rfl, s02 _ _ hk, T.clK, T.ed, kF_d, a, dy, _, rfl, i2.at_, dF_no (by decide +kernel) (by decide +kernel) (by decide +kernel), _, rfl, k, E, dx, _, _, rfl, s02 _ _ hk, T.clK, T.ed, kF_d, a, D, dy, _, _, rfl, i2.at_, T.clD, T.dn, dF_n, _, rfl, _, rfl, ca, d.cs, j, t, rfl, i2.cs, by rw [wf.cl]; exact hj', by rw [wf.cl]; have := wf.rk; omega, fun H3 c3 s3 e3 => ?_⟩
    have s03 := s02.trans s3
    refine ⟨a, c3, d, stepC d.cs j t, rfl, hh.same s03, e3, fun H4 y s4 hy nD => ?_⟩
    have s04 := s03.trans s4
    refine ⟨_, rfl, k, E, dx, _, rfl, s04 _ _ hk, T.clK, T.ed, (by show 1 < 1000; decide), ?_⟩
    rw [kF_put]
    refine ⟨_, rfl, _, rfl, small2 (by show 2 ≤ 1000; decide), fun p hp => ?_⟩
    obtain ⟨f1, f2⟩ := put_end (H2 := upd (upd H4 k (.ins E dx (kF (.ref y)))) p (.lst [.int (j : Int), .int x])) hk s04 nD (sUp hp)
    exact q1 [(j : Int), x] _ rfl _ _ (put_free s04 hp) f1 f2 upd_same
  · have e0 : ps = [] := by
      cases ps with
      | nil => rfl
      | cons p ps => exact absurd z (by simp [nI])
    subst e0
    exact ((q2 _ rfl).same s1).ref
abbrev s_add : Stmt := top 81
abbrev sl_add : List Str := ["desk", "number", "row", "place", "count"]
theorem sc_add : FnScope sl_add ["desk", "number", "row"] (defScope s_add) := ⟨rfl, rfl, rfl, by decide +kernel, rfl, by decide +kernel, by decide +kernel⟩
theorem ok_add {f : Addr} {fd : FuncData} (F : Fun K "add" "add" s_add f fd) (T : Txt K mg D E R N L) (c_take_step : Cal P w K mg base (L2.CX P w) 12 "take_step" ["desk", "places", "by"] (spTake E D R N L)) :
    FnOk P w K mg base (L2.CX P w) 14 f fd ["desk", "number", "row"] (spDeed E D R N L dAddR) := by
  refine F.okX sc_add (fun vs H Q E h => ?_) (fun cdv A outer s H vs Q Ex hr h => ⟨_, (pss_one (ps_ret (pe_cal c_take_step (hr.mono (by decide)) (passes_call (takes_of rfl rfl rfl rfl) (fun _ _ _ _ h => h)) (pa_cons (pv 0) (pa_cons (pe_lc (own := [("place", 3), ("count", 4)]) (g := gTup K 2 (gCons (gName 3) (gCons (gName 4) gNil))) rfl sc_add.nd (pi_enum (by rfl) T.n_enumerate (pa_cons (pe_fld (pe_fld (pv 0) rfl) rfl) pa_nil)) (blkOk_by (N := sl_add) (sc := defScope s_add) (by decide +kernel)) (fun _ _ _ _ _ => (pg_tup (by rfl) (pgs_cons (pg_name (i := 3) sc_add.nd rfl (by first | exact Or.inl rfl | exact Or.inr rfl)) (pgs_cons (pg_name (i := 4) sc_add.nd rfl (by first | exact Or.inl rfl | exact Or.inr rfl)) pgs_nil)))) (fun _ _ _ _ _ => (pts_one (pt_cmpR op_lt (pv 4) (pe_gi T.i_MOST_COUNT) (nomark _)))) (fun _ _ _ _ _ => (pv 3))) (pa_cons pe_int pa_nil)))))), ?_⟩)
  · obtain ⟨_, _, _, _, _, rfl, _⟩ := h; rfl
  obtain ⟨k, r, d, n, row, rfl, hK, wf, hR, hl, q1, q2⟩ := h
  obtain ⟨dx, v, hk, a, rfl, hh⟩ := id hK
  obtain ⟨dy, ra, ca, hD⟩ := id hh
  refine ⟨_, rfl, _, rfl, k, E, dx, _, _, rfl, hk, T.clK, T.ed, kF_d, a, D, dy, _, _, rfl, hD.at_, T.clD, T.dn, dF_n, ca, vI d.cs, rfl, SqL.of hD.cs, ?_⟩
  refine fun D1 hD1 => lc_it (walk_enum (xs := vI d.cs)) (fun i H' => Same H H' ∧ H' D1 = some (.lst (vI (nI (((List.range d.cs.length).take i).filter fun j => decide (d.cs.getD j 0 < 20))))))
    ⟨sUp hD1, upd_same⟩ (fun i H' _ h => SqL.of (h.1 _ _ hD.cs)) ?_ ?_
  · rintro i x H2 H3 hi ⟨s2, hD2⟩ ⟨T0, x1, y1, rfl, hT, rfl, hx, hy⟩
    obtain ⟨c, hc, rfl⟩ := map_get hy
    obtain rfl := Option.some.inj hx
    have hi' : i < d.cs.length := (List.getElem?_eq_some_iff.mp hc).1
    have cd : d.cs.getD i 0 = c := by rw [List.getD_eq_getElem?_getD, hc]; rfl
    have ri : (List.range d.cs.length)[i]? = some i := by rw [List.getElem?_range hi']
    have s3 : Same H (upd H2 T0 (.tup [.int (i : Nat), .int c])) := sUps s2 (s2.free hT)
    have hD3 := (sUp (o := .tup [.int (i : Nat), .int c]) hT) _ _ hD2
    refine ⟨T0, _, rfl, SqT.of upd_same, rfl, _, _, rfl, _, _, rfl, rfl, rfl, _, rfl, c, 20, rfl, rfl, _, rfl, ?_⟩
    refine ifB (fun lt => ⟨_, rfl, _, hD3, small1000 ?_, sUps s3 hD1, ?_⟩) (fun lt => ⟨s3, ?_⟩)
    · rw [List.length_map]
      unfold nI
      rw [List.length_map]
      have := List.length_filter_le (fun j => decide (d.cs.getD j 0 < 20)) ((List.range d.cs.length).take i)
      rw [List.length_take, List.length_range] at this
      have := wf.rk
      have := wf.cl
      omega
    · rw [upd_same, take_next ri, List.filter_append, List.filter_cons_of_pos (by rw [cd]; exact decide_eq_true lt)]
      simp [vI, nI]
    · rw [take_next ri, List.filter_append, List.filter_cons_of_neg (by rw [cd]; exact fun z => lt (of_decide_eq_true z)), List.filter_nil, List.append_nil]
      exact hD3
  · rintro H2 ⟨s2, hD2⟩
    rw [List.take_of_length_le (by rw [List.length_map, List.length_range]; exact Nat.le_refl _)] at hD2
    refine ⟨k, D1, d, upPl d, 1, rfl, hK.same s2, wf, hD2, fun j hj => ?_, by decide, fun l d' e H3 p pn kp => q1 l d' e H3 p (s2.free pn) ((Kept.of s2).trans kp), fun c e => (q2 c e).same s2⟩
    have := List.mem_range.mp (List.mem_filter.mp hj).1
    rw [wf.cl] at this
    exact this
abbrev s_remove : Stmt := top 82
abbrev sl_remove : List Str := ["desk", "number", "row", "place", "count"]
theorem sc_remove : FnScope sl_remove ["desk", "number", "row"] (defScope s_remove) := ⟨rfl, rfl, rfl, by decide +kernel, rfl, by decide +kernel, by decide +kernel⟩
theorem ok_remove {f : Addr} {fd : FuncData} (F : Fun K "remove" "remove" s_remove f fd) (T : Txt K mg D E R N L) (c_take_step : Cal P w K mg base (L2.CX P w) 12 "take_step" ["desk", "places", "by"] (spTake E D R N L)) :
    FnOk P w K mg base (L2.CX P w) 14 f fd ["desk", "number", "row"] (spDeed E D R N L dRemR) := by
  refine F.okX sc_remove (fun vs H Q E h => ?_) (fun cdv A outer s H vs Q Ex hr h => ⟨_, (pss_one (ps_ret (pe_cal c_take_step (hr.mono (by decide)) (passes_call (takes_of rfl rfl rfl rfl) (fun _ _ _ _ h => h)) (pa_cons (pv 0) (pa_cons (pe_lc (own := [("place", 3), ("count", 4)]) (g := gTup K 2 (gCons (gName 3) (gCons (gName 4) gNil))) rfl sc_remove.nd (pi_enum (by rfl) T.n_enumerate (pa_cons (pe_fld (pe_fld (pv 0) rfl) rfl) pa_nil)) (blkOk_by (N := sl_remove) (sc := defScope s_remove) (by decide +kernel)) (fun _ _ _ _ _ => (pg_tup (by rfl) (pgs_cons (pg_name (i := 3) sc_remove.nd rfl (by first | exact Or.inl rfl | exact Or.inr rfl)) (pgs_cons (pg_name (i := 4) sc_remove.nd rfl (by first | exact Or.inl rfl | exact Or.inr rfl)) pgs_nil)))) (fun _ _ _ _ _ => (pts_one (pt_cmpR op_gt (pv 4) pe_int (nomark _)))) (fun _ _ _ _ _ => (pv 3))) (pa_cons (pe_un un_neg pe_int) pa_nil)))))), ?_⟩)
  · obtain ⟨_, _, _, _, _, rfl, _⟩ := h; rfl
  obtain ⟨k, r, d, n, row, rfl, hK, wf, hR, hl, q1, q2⟩ := h
  obtain ⟨dx, v, hk, a, rfl, hh⟩ := id hK
  obtain ⟨dy, ra, ca, hD⟩ := id hh
  refine ⟨_, rfl, _, rfl, k, E, dx, _, _, rfl, hk, T.clK, T.ed, kF_d, a, D, dy, _, _, rfl, hD.at_, T.clD, T.dn, dF_n, ca, vI d.cs, rfl, SqL.of hD.cs, ?_⟩
  refine fun D1 hD1 => lc_it (walk_enum (xs := vI d.cs)) (fun i H' => Same H H' ∧ H' D1 = some (.lst (vI (nI (((List.range d.cs.length).take i).filter fun j => decide (d.cs.getD j 0 > 0))))))
    ⟨sUp hD1, upd_same⟩ (fun i H' _ h => SqL.of (h.1 _ _ hD.cs)) ?_ ?_
  · rintro i x H2 H3 hi ⟨s2, hD2⟩ ⟨T0, x1, y1, rfl, hT, rfl, hx, hy⟩
    obtain ⟨c, hc, rfl⟩ := map_get hy
    obtain rfl := Option.some.inj hx
    have hi' : i < d.cs.length := (List.getElem?_eq_some_iff.mp hc).1
    have cd : d.cs.getD i 0 = c := by rw [List.getD_eq_getElem?_getD, hc]; rfl
    have ri : (List.range d.cs.length)[i]? = some i := by rw [List.getElem?_range hi']
    have s3 : Same H (upd H2 T0 (.tup [.int (i : Nat), .int c])) := sUps s2 (s2.free hT)
    have hD3 := (sUp (o := .tup [.int (i : Nat), .int c]) hT) _ _ hD2
    refine ⟨T0, _, rfl, SqT.of upd_same, rfl, _, _, rfl, _, _, rfl, rfl, rfl, _, rfl, c, 0, rfl, rfl, _, rfl, ?_⟩
    refine ifB (fun lt => ⟨_, rfl, _, hD3, small1000 ?_, sUps s3 hD1, ?_⟩) (fun lt => ⟨s3, ?_⟩)
    · rw [List.length_map]
      unfold nI
      rw [List.length_map]
      have := List.length_filter_le (fun j => decide (d.cs.getD j 0 > 0)) ((List.range d.cs.length).take i)
      rw [List.length_take, List.length_range] at this
      have := wf.rk
      have := wf.cl
      omega
    · rw [upd_same, take_next ri, List.filter_append, List.filter_cons_of_pos (by rw [cd]; exact decide_eq_true lt)]
      simp [vI, nI]
    · rw [take_next ri, List.filter_append, List.filter_cons_of_neg (by rw [cd]; exact fun z => lt (of_decide_eq_true z)), List.filter_nil, List.append_nil]
      exact hD3
  · rintro H2 ⟨s2, hD2⟩
    rw [List.take_of_length_le (by rw [List.length_map, List.length_range]; exact Nat.le_refl _)] at hD2
    refine ⟨1, rfl, k, D1, d, dnPl d, -1, rfl, hK.same s2, wf, hD2, fun j hj => ?_, by decide, fun l d' e H3 p pn kp => q1 l d' e H3 p (s2.free pn) ((Kept.of s2).trans kp), fun c e => (q2 c e).same s2⟩
    have := List.mem_range.mp (List.mem_filter.mp hj).1
    rw [wf.cl] at this
    exact this
abbrev s_best : Stmt := top 83
abbrev sl_best : List Str := ["desk", "number", "row", "found", "worth"]
theorem sc_best : FnScope sl_best ["desk", "number", "row"] (defScope s_best) := ⟨rfl, rfl, rfl, by decide +kernel, rfl, by decide +kernel, by decide +kernel⟩
theorem ok_best {f : Addr} {fd : FuncData} (F : Fun K "best" "best" s_best f fd) (T : Txt K mg D E R N L) (c_need_range : Cal P w K mg base (L2.CX P w) 4 "need_range" ["number", "least", "most"] (spNeedRange R)) (c_best_design : Cal P w K mg base (L2.CX P w) 10 "best_design" ["design", "size"] (spBestDesign D N L)) :
    FnOk P w K mg base (L2.CX P w) 14 f fd ["desk", "number", "row"] (spDeed E D R N L dBest) := by
  refine F.okX sc_best (fun vs H Q E h => ?_) (fun cdv A outer s H vs Q Ex hr h => ⟨_, (pss_cons (ps_expr (pe_cal c_need_range (hr.mono (by decide)) (passes_call (takes_of rfl rfl rfl rfl) (fun _ _ _ _ h => h)) (pa_cons (pv 1) (pa_cons pe_int (pa_cons (pe_gi T.i_MOST_SIZE) pa_nil)))))
      (pss_cons (ps_asg (pe_cal c_best_design (hr.mono (by decide)) (passes_call (takes_of rfl rfl rfl rfl) (fun _ _ _ _ h => h)) (pa_cons (pe_fld (pv 0) rfl) (pa_cons (pv 1) pa_nil))) (pg_tup (by rfl) (pgs_cons (pg_name (i := 3) sc_best.nd rfl (by first | exact Or.inl rfl | exact Or.inr rfl)) (pgs_cons (pg_name (i := 4) sc_best.nd rfl (by first | exact Or.inl rfl | exact Or.inr rfl)) pgs_nil))))
      (pss_one (ps_ret (pe_op op_cat (pe_lst (pa_cons (pv 4) pa_nil)) (pe_fld (pv 3) rfl)))))), ?_⟩)
  · obtain ⟨_, _, _, _, _, rfl, _⟩ := h; rfl
  obtain ⟨k, r, d, n, row, rfl, hK, wf, hR, hl, q1, q2⟩ := h
  obtain ⟨dx, v, hk, a, rfl, hh⟩ := id hK
  obtain ⟨dy, ra, ca, hD⟩ := id hh
  refine ⟨_, rfl, n, 1, 20, rfl, fun hn => ?_, fun hn => (q2 _ (by unfold dBest; rw [if_pos hn])).ref⟩
  obtain ⟨m, rfl⟩ : ∃ m : Nat, n = m := ⟨n.toNat, by omega⟩
  have u0 : ¬ ¬ (1 ≤ (m : Int) ∧ (m : Int) ≤ 20) := fun y => y hn
  refine ⟨_, rfl, k, E, dx, _, _, rfl, hk, T.clK, T.ed, kF_d, _, rfl, a, d, m, rfl, hh, wf, by omega, fun z => (q2 _ (by unfold dBest; rw [if_neg u0]; exact if_pos z)).tl, fun z => ⟨fun z2 => (q2 _ (by unfold dBest; rw [if_neg u0]; exact (if_neg (Int.not_lt.mpr z)).trans (if_pos z2))).nr, fun z2 H1 p1 t1 s1 hp1 hd1 => ?_⟩⟩
  refine ⟨p1, _, rfl, SqT.of hp1, rfl, _, _, rfl, _, _, rfl, rfl, ?_⟩
  obtain ⟨dz, rz, cz, hz⟩ := id hd1
  have zl : (bdF d m).1.cs.length ≤ 900 := by
    have w1 := bdF_wf wf (s := m) (by omega)
    have := w1.cl
    have := w1.rk
    omega
  refine ⟨_, rfl, small2 (by show 1 ≤ 1000; decide), fun b0 h0 => ⟨_, rfl, t1, D, dz, _, _, rfl, (sUp h0) _ _ hz.at_, T.clD, T.dn, dF_n, b0, cz, _, _, rfl, rfl, upd_same, (sUp h0) _ _ hz.cs, small2 (by rw [List.length_map]; show 1 + _ ≤ 1000; omega), fun p hp => ?_⟩⟩
  have s2 := s1.trans (sUp (o := .lst [.int (bdF d m).2]) h0)
  exact q1 ((bdF d m).2 :: (bdF d m).1.cs) d (by unfold dBest; rw [if_neg u0]; exact (if_neg (Int.not_lt.mpr z)).trans (if_neg z2)) _ _ (s2.free hp) (Kept.of (s2.trans (sUp hp))) (hK.same (s2.trans (sUp hp))) upd_same
abbrev s_take_best : Stmt := top 85
abbrev sl_take_best : List Str := ["desk", "number", "row", "found", "worth"]
theorem sc_take_best : FnScope sl_take_best ["desk", "number", "row"] (defScope s_take_best) := ⟨rfl, rfl, rfl, by decide +kernel, rfl, by decide +kernel, by decide +kernel⟩
theorem ok_take_best {f : Addr} {fd : FuncData} (F : Fun K "take_best" "take_best" s_take_best f fd) (T : Txt K mg D E R N L) (c_need_range : Cal P w K mg base (L2.CX P w) 4 "need_range" ["number", "least", "most"] (spNeedRange R)) (c_best_design : Cal P w K mg base (L2.CX P w) 10 "best_design" ["design", "size"] (spBestDesign D N L)) :
    FnOk P w K mg base (L2.CX P w) 14 f fd ["desk", "number", "row"] (spDeed E D R N L dTake) := by
  refine F.okX sc_take_best (fun vs H Q E h => ?_) (fun cdv A outer s H vs Q Ex hr h => ⟨_, (pss_cons (ps_expr (pe_cal c_need_range (hr.mono (by decide)) (passes_call (takes_of rfl rfl rfl rfl) (fun _ _ _ _ h => h)) (pa_cons (pv 1) (pa_cons pe_int (pa_cons (pe_gi T.i_MOST_SIZE) pa_nil)))))
      (pss_cons (ps_asg (pe_cal c_best_design (hr.mono (by decide)) (passes_call (takes_of rfl rfl rfl rfl) (fun _ _ _ _ h => h)) (pa_cons (pe_fld (pv 0) rfl) (pa_cons (pv 1) pa_nil))) (pg_tup (by rfl) (pgs_cons (pg_name (i := 3) sc_take_best.nd rfl (by first | exact Or.inl rfl | exact Or.inr rfl)) (pgs_cons (pg_name (i := 4) sc_take_best.nd rfl (by first | exact Or.inl rfl | exact Or.inr rfl)) pgs_nil))))
      (pss_cons (ps_fld (pv 0) (pv 3) rfl)
      (pss_one (ps_ret (pe_lst (pa_cons (pv 4) pa_nil))))))), ?_⟩)
  · obtain ⟨_, _, _, _, _, rfl, _⟩ := h; rfl
  obtain ⟨k, r, d, n, row, rfl, hK, wf, hR, hl, q1, q2⟩ := h
  obtain ⟨dx, v, hk, a, rfl, hh⟩ := id hK
  obtain ⟨dy, ra, ca, hD⟩ := id hh
  refine ⟨_, rfl, n, 1, 20, rfl, fun hn => ?_, fun hn => (q2 _ (by unfold dTake; rw [if_pos hn])).ref⟩
  obtain ⟨m, rfl⟩ : ∃ m : Nat, n = m := ⟨n.toNat, by omega⟩
  have u0 : ¬ ¬ (1 ≤ (m : Int) ∧ (m : Int) ≤ 20) := fun y => y hn
  refine ⟨_, rfl, k, E, dx, _, _, rfl, hk, T.clK, T.ed, kF_d, _, rfl, a, d, m, rfl, hh, wf, by omega, fun z => (q2 _ (by unfold dTake; rw [if_neg u0]; exact if_pos z)).tl, fun z => ⟨fun z2 => (q2 _ (by unfold dTake; rw [if_neg u0]; exact (if_neg (Int.not_lt.mpr z)).trans (if_pos z2))).nr, fun z2 H1 p1 t1 s1 hp1 hd1 => ?_⟩⟩
  refine ⟨p1, _, rfl, SqT.of hp1, rfl, _, _, rfl, _, _, rfl, rfl, ?_⟩
  refine ⟨_, rfl, _, rfl, k, E, dx, _, rfl, s1 _ _ hk, T.clK, T.ed, (by show 1 < 1000; decide), ?_⟩
  rw [kF_put]
  refine ⟨_, rfl, small2 (by show 1 ≤ 1000; decide), fun p hp => ?_⟩
  obtain ⟨f1, f2⟩ := put_end (H2 := upd (upd H1 k (.ins E dx (kF (.ref t1)))) p (.lst [.int (bdF d m).2])) hk s1 hd1 (sUp hp)
  exact q1 [(bdF d m).2] _ (by unfold dTake; rw [if_neg u0]; exact (if_neg (Int.not_lt.mpr z)).trans (if_neg z2)) _ _ (put_free s1 hp) f1 f2 upd_same
abbrev s_ask_best_by_trace : Stmt := top 84
abbrev sl_ask_best_by_trace : List Str := ["desk", "number", "row", "found", "own"]
theorem sc_ask_best_by_trace : FnScope sl_ask_best_by_trace ["desk", "number", "row"] (defScope s_ask_best_by_trace) := ⟨rfl, rfl, rfl, by decide +kernel, rfl, by decide +kernel, by decide +kernel⟩
theorem ok_ask_best_by_trace {f : Addr} {fd : FuncData} (F : Fun K "ask_best_by_trace" "ask_best_by_trace" s_ask_best_by_trace f fd) (T : Txt K mg D E R N L) (c_need_range : Cal P w K mg base (L2.CX P w) 4 "need_range" ["number", "least", "most"] (spNeedRange R)) (c_best_by_trace : Cal P w K mg base (L2.CX P w) 10 "best_by_trace" ["design", "size"] (spBestTrace K D N L)) (c_told : Cal P w K mg base CX0 1 "told" ["fractions"] (spTold K)) :
    FnOk P w K mg base (L2.CX P w) 14 f fd ["desk", "number", "row"] (spDeed E D R N L dBT) := by
  refine F.okX sc_ask_best_by_trace (fun vs H Q E h => ?_) (fun cdv A outer s H vs Q Ex hr h => ⟨_, (pss_cons (ps_expr (pe_cal c_need_range (hr.mono (by decide)) (passes_call (takes_of rfl rfl rfl rfl) (fun _ _ _ _ h => h)) (pa_cons (pv 1) (pa_cons pe_int (pa_cons (pe_gi T.i_MOST_SIZE) pa_nil)))))
      (pss_cons (ps_asg (pe_cal c_best_by_trace (hr.mono (by decide)) (passes_call (takes_of rfl rfl rfl rfl) (fun _ _ _ _ h => h)) (pa_cons (pe_fld (pv 0) rfl) (pa_cons (pv 1) pa_nil))) (pg_tup (by rfl) (pgs_cons (pg_name (i := 3) sc_ask_best_by_trace.nd rfl (by first | exact Or.inl rfl | exact Or.inr rfl)) (pgs_cons (pg_name (i := 4) sc_ask_best_by_trace.nd rfl (by first | exact Or.inl rfl | exact Or.inr rfl)) pgs_nil))))
      (pss_one (ps_ret (pe_op op_cat (pe_op op_cat (pe_lst (pa_cons pe_int pa_nil)) (pe_cal c_told (hr.mono (by decide)) pass0 (pa_cons (pe_lst (pa_cons (pv 4) pa_nil)) pa_nil))) (pe_fld (pv 3) rfl)))))), ?_⟩)
  · obtain ⟨_, _, _, _, _, rfl, _⟩ := h; rfl
  obtain ⟨k, r, d, n, row, rfl, hK, wf, hR, hl, q1, q2⟩ := h
  obtain ⟨dx, v, hk, a, rfl, hh⟩ := id hK
  obtain ⟨dy, ra, ca, hD⟩ := id hh
  refine ⟨_, rfl, n, 1, 20, rfl, fun hn => ?_, fun hn => (q2 _ (by unfold dBT; rw [if_pos hn])).ref⟩
  obtain ⟨m, rfl⟩ : ∃ m : Nat, n = m := ⟨n.toNat, by omega⟩
  have u0 : ¬ ¬ (1 ≤ (m : Int) ∧ (m : Int) ≤ 20) := fun y => y hn
  refine ⟨_, rfl, k, E, dx, _, _, rfl, hk, T.clK, T.ed, kF_d, _, rfl, a, d, m, rfl, hh, wf, by omega, fun z => (q2 _ (by unfold dBT; rw [if_neg u0]; exact if_pos z)).tl, fun z => ⟨fun z2 => (q2 _ (by unfold dBT; rw [if_neg u0]; exact (if_neg (Int.not_lt.mpr z)).trans (if_pos z2))).nr, fun z2 H1 p1 t1 r1 t s1 ht hp1 hd1 hf1 => ?_⟩⟩
  refine ⟨p1, _, rfl, SqT.of hp1, rfl, _, _, rfl, _, _, rfl, rfl, ?_⟩
  have zl : (btF d m).1.cs.length ≤ 900 := by
    have w1 := btF_wf wf (s := m) (by omega)
    have := w1.cl
    have := w1.rk
    omega
  refine ⟨small2 (by show 1 ≤ 1000; decide), fun b0 h0 => ?_⟩
  have s2 : Same H1 (upd H1 b0 (.lst [.int 0])) := sUp h0
  have e2 : (upd H1 b0 (.lst [.int 0])) b0 = some (.lst [.int 0]) := upd_same
  generalize upd H1 b0 (.lst [.int 0]) = H2 at e2 s2 ⊢
  refine ⟨_, rfl, small2 (by show 1 ≤ 1000; decide), fun b1 h1 => ⟨b1, [r1], [t], rfl, IsFf.one upd_same ((hf1.same s2).same (sUp h1)), by show 1 ≤ 100; decide, fun H3 p3 s3 e3 => ?_⟩⟩
  have s23 := (sUp (o := .lst [.ref r1]) h1).trans s3
  refine ⟨b0, p3, _, _, rfl, rfl, s23 _ _ e2, e3, small2 (by rw [List.length_map, toldF_len]; show 1 + 2 ≤ 1000; decide), fun c1 hc1 => ?_⟩
  have s24 := s23.trans (sUp (o := .lst ([.int 0] ++ vI (toldF [t]))) hc1)
  have e4 : (upd H3 c1 (.lst ([.int 0] ++ vI (toldF [t])))) c1 = some (.lst ([.int 0] ++ vI (toldF [t]))) := upd_same
  generalize upd H3 c1 (.lst ([.int 0] ++ vI (toldF [t]))) = H4 at e4 s24 ⊢
  have hd4 := (hd1.same s2).same s24
  obtain ⟨dz, rz, cz, hz⟩ := id hd4
  refine ⟨_, rfl, t1, D, dz, _, _, rfl, hz.at_, T.clD, T.dn, dF_n, c1, cz, _, _, rfl, rfl, e4, hz.cs, small2 (by rw [List.length_append, List.length_map, List.length_map, toldF_len]; show 1 + 2 + _ ≤ 1000; omega), fun p hp => ?_⟩
  have s04 := s1.trans (s2.trans s24)
  refine q1 (0 :: toldF [t] ++ (btF d m).1.cs) d (by unfold dBT; rw [if_neg u0]; refine (if_neg (Int.not_lt.mpr z)).trans ((if_neg z2).trans ?_); show (match (btF d m).2 with | none => _ | some t => _) = _; rw [ht]; rfl) _ _ (s04.free hp) (Kept.of (s04.trans (sUp hp))) (hK.same (s04.trans (sUp hp))) ?_
  rw [upd_same]
  simp [vI]
abbrev s_ask_weights : Stmt := top 86
abbrev sl_ask_weights : List Str := ["desk", "number", "row", "found"]
theorem sc_ask_weights : FnScope sl_ask_weights ["desk", "number", "row"] (defScope s_ask_weights) := ⟨rfl, rfl, rfl, by decide +kernel, rfl, by decide +kernel, by decide +kernel⟩
theorem ok_ask_weights {f : Addr} {fd : FuncData} (F : Fun K "ask_weights" "ask_weights" s_ask_weights f fd) (T : Txt K mg D E R N L) (c_need_range : Cal P w K mg base (L2.CX P w) 4 "need_range" ["number", "least", "most"] (spNeedRange R)) (c_weights_behind : Cal P w K mg base (L2.CX P w) 10 "weights_behind" ["design", "steps"] (spWeights D N)) (c_told : Cal P w K mg base CX0 1 "told" ["fractions"] (spTold K)) :
    FnOk P w K mg base (L2.CX P w) 14 f fd ["desk", "number", "row"] (spDeed E D R N L dWts) := by
  refine F.okX sc_ask_weights (fun vs H Q E h => ?_) (fun cdv A outer s H vs Q Ex hr h => ⟨_, (pss_cons (ps_expr (pe_cal c_need_range (hr.mono (by decide)) (passes_call (takes_of rfl rfl rfl rfl) (fun _ _ _ _ h => h)) (pa_cons (pv 1) (pa_cons pe_int (pa_cons (pe_gi T.i_MOST_STEPS) pa_nil)))))
      (pss_cons (ps_set (i := 3) sc_ask_weights.nd rfl (by first | exact Or.inl rfl | exact Or.inr rfl) (pe_cal c_weights_behind (hr.mono (by decide)) (passes_call (takes_of rfl rfl rfl rfl) (fun _ _ _ _ h => h)) (pa_cons (pe_fld (pv 0) rfl) (pa_cons (pv 1) pa_nil))))
      (pss_one (ps_ret (pe_op op_cat (pe_lst (pa_cons (pe_callB call_len_seq (by rfl) T.n_len (by decide +kernel) (pa_cons (pv 3) pa_nil)) pa_nil)) (pe_cal c_told (hr.mono (by decide)) pass0 (pa_cons (pv 3) pa_nil))))))), ?_⟩)
  · obtain ⟨_, _, _, _, _, rfl, _⟩ := h; rfl
  obtain ⟨k, r, d, n, row, rfl, hK, wf, hR, hl, q1, q2⟩ := h
  obtain ⟨dx, v, hk, a, rfl, hh⟩ := id hK
  obtain ⟨dy, ra, ca, hD⟩ := id hh
  refine ⟨_, rfl, n, 0, 3, rfl, fun hn => ?_, fun hn => (q2 _ (by unfold dWts; rw [if_pos hn])).ref⟩
  obtain ⟨m, rfl⟩ : ∃ m : Nat, n = m := ⟨n.toNat, by omega⟩
  have u0 : ¬ ¬ (0 ≤ (m : Int) ∧ (m : Int) ≤ 3) := fun y => y hn
  refine ⟨_, rfl, k, E, dx, _, _, rfl, hk, T.clK, T.ed, kF_d, _, rfl, a, d, m, rfl, hh, wf, by omega, fun z => (q2 _ (by unfold dWts; rw [if_neg u0, if_pos z])).nr, fun z H1 p1 s1 hf => ?_⟩
  have wl : (wbF d m).length ≤ 10 := by
    obtain ⟨a', D', g⟩ := wb_good wf z m
    rw [g.eq, List.length_map, g.len]
    exact wf.rk
  obtain ⟨as, ff⟩ := hf.ff (K := K)
  have la : (as.map V.ref).length = (wbF d m).length := by rw [List.length_map, ff.len]
  refine ⟨_, rfl, p1, _, rfl, .inl (SqL.of ff.at_), small2 (by show 1 ≤ 1000; decide), fun b0 h0 => ?_⟩
  rw [la]
  have s2 : Same H1 (upd H1 b0 (.lst [.int ((wbF d m).length : Int)])) := sUp h0
  have e2 : (upd H1 b0 (.lst [.int ((wbF d m).length : Int)])) b0 = some (.lst [.int ((wbF d m).length : Int)]) := upd_same
  generalize upd H1 b0 (.lst [.int ((wbF d m).length : Int)]) = H2 at e2 s2 ⊢
  obtain ⟨as2, ff2⟩ := (hf.same s2).ff (K := K)
  refine ⟨_, rfl, p1, as2, wbF d m, rfl, ff2, by omega, fun H3 p3 s3 e3 => ?_⟩
  refine ⟨b0, p3, _, _, rfl, rfl, s3 _ _ e2, e3, small2 (by rw [List.length_map, toldF_len]; show 1 + _ ≤ 1000; omega), fun p hp => ?_⟩
  have s03 := s1.trans (s2.trans s3)
  exact q1 (((wbF d m).length : Int) :: toldF (wbF d m)) d (by unfold dWts; rw [if_neg u0]; exact if_neg z) _ _ (s03.free hp) (Kept.of (s03.trans (sUp hp))) (hK.same (s03.trans (sUp hp))) upd_same
abbrev s_compare : Stmt := top 87
abbrev sl_compare : List Str := ["desk", "number", "row", "design", "other", "mine", "theirs", "worths", "found"]
theorem sc_compare : FnScope sl_compare ["desk", "number", "row"] (defScope s_compare) := ⟨rfl, rfl, rfl, by decide +kernel, rfl, by decide +kernel, by decide +kernel⟩
theorem ok_compare {f : Addr} {fd : FuncData} (F : Fun K "compare" "compare" s_compare f fd) (T : Txt K mg D E R N L) (c_need_counts : Mal P w K mg base (L2.CX P w) 4 E "need_counts" ["self", "counts"] (spNeedCounts E D R)) (c_with_counts : Mal P w K mg base CX0 3 D "with_counts" ["self", "counts"] (spWith D)) (c_own_trace : Mal P w K mg base (L2.CX P w) 9 D "own_trace" ["self"] (spOwnTrace K D N))
    (c_worth : Mal P w K mg base CX0 7 D "worth" ["self"] (spWorth D)) (c_sign_of : Cal P w K mg base CX0 1 "sign_of" ["is_more", "is_fewer"] spSignOf) (c_is_less : Cal P w K mg base CX0 1 "is_less" ["one", "other"] (spIsLess K)) :
    FnOk P w K mg base (L2.CX P w) 14 f fd ["desk", "number", "row"] (spDeed E D R N L dCmp) := by
  refine F.okX sc_compare (fun vs H Q E h => ?_) (fun cdv A outer s H vs Q Ex hr h => ⟨_, (pss_cons (ps_expr (pe_mal (pv 0) T.clK c_need_counts (hr.mono (by decide)) (passes_call (takes_of rfl rfl rfl rfl) (fun _ _ _ _ h => h)) (pa_cons (pv 2) pa_nil)))
      (pss_cons (ps_par (i := 3) (j := 4) rfl sc_compare.nd rfl rfl (by decide) rfl rfl (pa_cons (pe_fld (pv 0) rfl) (pa_cons (pe_mal (pe_fld (pv 0) rfl) T.clD c_with_counts (hr.mono (by decide)) pass0 (pa_cons (pv 2) pa_nil)) pa_nil)) (by rfl))
      (pss_cons (ps_par (i := 5) (j := 6) rfl sc_compare.nd rfl rfl (by decide) rfl rfl (pa_cons (pe_mal0 (pv 3) T.clD c_own_trace (hr.mono (by decide)) (passes_call (takes_of rfl rfl rfl rfl) (fun _ _ _ _ h => h))) (pa_cons (pe_mal0 (pv 4) T.clD c_own_trace (hr.mono (by decide)) (passes_call (takes_of rfl rfl rfl rfl) (fun _ _ _ _ h => h))) pa_nil)) (by rfl))
      (pss_cons (ps_set (i := 7) sc_compare.nd rfl (by first | exact Or.inl rfl | exact Or.inr rfl) (pe_lst (pa_cons (pe_mal0 (pv 3) T.clD c_worth (hr.mono (by decide)) pass0) (pa_cons (pe_mal0 (pv 4) T.clD c_worth (hr.mono (by decide)) pass0) pa_nil))))
      (pss_cons (ps_set (i := 8) sc_compare.nd rfl (by first | exact Or.inl rfl | exact Or.inr rfl) (pe_lst (pa_cons (pe_cal c_sign_of (hr.mono (by decide)) pass0 (pa_cons (pe_cmpR op_gt (pe_ix ix_list (pv 7) pe_int (fun _ _ => rfl)) (pe_ix ix_list (pv 7) pe_int (fun _ _ => rfl)) (nomark _)) (pa_cons (pe_cmpR op_lt (pe_ix ix_list (pv 7) pe_int (fun _ _ => rfl)) (pe_ix ix_list (pv 7) pe_int (fun _ _ => rfl)) (nomark _)) pa_nil))) pa_nil)))
      (pss_one (ps_ret (pe_op op_cat (pv 8) (pe_lst (pa_cons (pe_cal c_sign_of (hr.mono (by decide)) pass0 (pa_cons (pe_cal c_is_less (hr.mono (by decide)) pass0 (pa_cons (pv 5) (pa_cons (pv 6) pa_nil))) (pa_cons (pe_cal c_is_less (hr.mono (by decide)) pass0 (pa_cons (pv 6) (pa_cons (pv 5) pa_nil))) pa_nil))) pa_nil)))))))))), ?_⟩)
  · obtain ⟨_, _, _, _, _, rfl, _⟩ := h; rfl
  obtain ⟨k, r, d, n, row, rfl, hK, wf, hR, hl, q1, q2⟩ := h
  obtain ⟨dx, v, hk, a, rfl, hh⟩ := id hK
  obtain ⟨dy, ra, ca, hD⟩ := id hh
  refine ⟨_, rfl, k, dx, _, rfl, hk, kF_no (by decide +kernel), _, rfl, k, r, d, row, rfl, hK, hR, hl, fun zr H1 s1 => ?_, fun z => (q2 _ (by unfold dCmp; rw [if_pos z])).ref⟩
  have u0 : ¬ cntOk d.rows.length row = false := by rw [zr]; decide
  have wfo := cntOk_wf wf zr
  have h1 := hh.same s1
  refine ⟨_, rfl, k, E, dx, _, _, rfl, s1 _ _ hk, T.clK, T.ed, kF_d, _, rfl, k, E, dx, _, _, rfl, s1 _ _ hk, T.clK, T.ed, kF_d, a, dy, _, rfl, s1 _ _ hD.at_, dF_no (by decide +kernel) (by decide +kernel) (by decide +kernel), _, rfl, a, r, d, row, rfl, h1, s1 _ _ hR, fun H2 o s2 ho hO => ⟨_, _, rfl, ?_⟩⟩
  have s02 := s1.trans s2
  obtain ⟨dz, rz, cz, hz⟩ := id hO
  refine ⟨_, rfl, a, dy, _, rfl, s02 _ _ hD.at_, dF_no (by decide +kernel) (by decide +kernel) (by decide +kernel), a, d, rfl, hh.same s02, wf, fun z => ((q2 _ (by unfold dCmp; rw [if_neg u0, if_pos (.inl z)])).same s02).nr, fun z1 H3 t1 s3 f1 => ?_⟩
  refine ⟨_, rfl, o, dz, _, rfl, s3 _ _ hz.at_, dF_no (by decide +kernel) (by decide +kernel) (by decide +kernel), o, d.to row, rfl, hO.same s3, wfo, fun z => ((q2 _ (by unfold dCmp; rw [if_neg u0, if_pos (.inr z)])).same (s02.trans s3)).nr, fun z2 H4 t2 s4 f2 => ⟨_, _, rfl, ?_⟩⟩
  have s24 := s3.trans s4
  have s04 := s02.trans s24
  refine ⟨_, rfl, a, dy, _, rfl, s04 _ _ hD.at_, dF_no (by decide +kernel) (by decide +kernel) (by decide +kernel), a, d, rfl, hh.same s04, wf, fun H5 s5 => ?_⟩
  refine ⟨_, rfl, o, dz, _, rfl, s5 _ _ (s24 _ _ hz.at_), dF_no (by decide +kernel) (by decide +kernel) (by decide +kernel), o, d.to row, rfl, (hO.same s24).same s5, wfo, fun H6 s6 => ⟨small2 (by show 2 ≤ 1000; decide), fun b1 hb1 => ?_⟩⟩
  have s46 := s5.trans s6
  have e1 : (upd H6 b1 (.lst [.int (det d.mat), .int (det (d.to row).mat)])) b1 = some (.lst [.int (det d.mat), .int (det (d.to row).mat)]) := upd_same
  have s7 : Same H6 (upd H6 b1 (.lst [.int (det d.mat), .int (det (d.to row).mat)])) := sUp hb1
  generalize upd H6 b1 (.lst [.int (det d.mat), .int (det (d.to row).mat)]) = H7 at e1 s7 ⊢
  refine ⟨_, rfl, b1, _, 0, _, rfl, rfl, SqL.of e1, atI_nat (j := 0) rfl, _, rfl, b1, _, 1, _, rfl, rfl, SqL.of e1, atI_nat (j := 1) rfl, _, _, rfl, rfl, ?_⟩
  refine ⟨_, rfl, b1, _, 0, _, rfl, rfl, SqL.of e1, atI_nat (j := 0) rfl, _, rfl, b1, _, 1, _, rfl, rfl, SqL.of e1, atI_nat (j := 1) rfl, _, _, rfl, rfl, _, _, rfl, small2 (by show 1 ≤ 1000; decide), fun b2 hb2 => ?_⟩
  have nn1 := wf.nn
  have nn2 := wfo.nn
  obtain ⟨_, tn1, td1⟩ := traceF_ok wf (by omega)
  obtain ⟨_, tn2, td2⟩ := traceF_ok wfo (by omega)
  have s47 := s46.trans s7
  have g1 := ((f1.same s4).same s47)
  have g2 := f2.same s47
  have s07 := s04.trans s47
  refine ⟨_, rfl, _, rfl, _, rfl, t1, t2, _, _, rfl, g1.same (sUp hb2), g2.same (sUp hb2), tn1.mono (by omega), td1.mono (by omega), tn2.mono (by omega), td2.mono (by omega), ?_⟩
  refine ⟨_, rfl, _, rfl, t2, t1, _, _, rfl, g2.same (sUp hb2), g1.same (sUp hb2), tn2.mono (by omega), td2.mono (by omega), tn1.mono (by omega), td1.mono (by omega), _, _, rfl, small2 (by show 1 ≤ 1000; decide), fun b3 hb3 => ?_⟩
  refine ⟨b2, b3, _, _, rfl, rfl, (sUp hb3) _ _ upd_same, upd_same, small2 (by show 1 + 1 ≤ 1000; decide), fun p hp => ?_⟩
  refine q1 _ d (by unfold dCmp; rw [if_neg u0, if_neg (fun y => y.elim z1 z2)]) _ _ (((s07.trans (sUp hb2)).trans (sUp hb3)).free hp) (Kept.of (s07.trans ((sUp hb2).trans ((sUp hb3).trans (sUp hp))))) (hK.same (s07.trans ((sUp hb2).trans ((sUp hb3).trans (sUp hp))))) ?_
  rw [upd_same]
  rfl
abbrev s_is_at_least_as_good : Stmt := top 88
abbrev sl_is_at_least_as_good : List Str := ["desk", "number", "row", "other"]
theorem sc_is_at_least_as_good : FnScope sl_is_at_least_as_good ["desk", "number", "row"] (defScope s_is_at_least_as_good) := ⟨rfl, rfl, rfl, by decide +kernel, rfl, by decide +kernel, by decide +kernel⟩
theorem ok_is_at_least_as_good {f : Addr} {fd : FuncData} (F : Fun K "is_at_least_as_good" "is_at_least_as_good" s_is_at_least_as_good f fd) (T : Txt K mg D E R N L) (c_need_counts : Mal P w K mg base (L2.CX P w) 4 E "need_counts" ["self", "counts"] (spNeedCounts E D R)) (c_with_counts : Mal P w K mg base CX0 3 D "with_counts" ["self", "counts"] (spWith D)) (c_matrix : Mal P w K mg base CX0 3 D "matrix" ["self"] (spMatrix D)) (c_less : Cal P w K mg base CX0 1 "less" ["matrix", "other"] spLess)
    (c_has_no_negative_minor : Cal P w K mg base CX0 7 "has_no_negative_minor" ["matrix"] spNoNeg) :
    FnOk P w K mg base (L2.CX P w) 14 f fd ["desk", "number", "row"] (spDeed E D R N L dGood) := by
  refine F.okX sc_is_at_least_as_good (fun vs H Q E h => ?_) (fun cdv A outer s H vs Q Ex hr h => ⟨_, (pss_cons (ps_expr (pe_mal (pv 0) T.clK c_need_counts (hr.mono (by decide)) (passes_call (takes_of rfl rfl rfl rfl) (fun _ _ _ _ h => h)) (pa_cons (pv 2) pa_nil)))
      (pss_cons (ps_set (i := 3) sc_is_at_least_as_good.nd rfl (by first | exact Or.inl rfl | exact Or.inr rfl) (pe_mal (pe_fld (pv 0) rfl) T.clD c_with_counts (hr.mono (by decide)) pass0 (pa_cons (pv 2) pa_nil)))
      (pss_one (ps_ret (pe_lst (pa_cons (pe_callTy call_int1 (by rfl) T.n_int (by decide +kernel) (pa_cons (pe_cal c_has_no_negative_minor (hr.mono (by decide)) pass0 (pa_cons (pe_cal c_less (hr.mono (by decide)) pass0 (pa_cons (pe_mal0 (pe_fld (pv 0) rfl) T.clD c_matrix (hr.mono (by decide)) pass0) (pa_cons (pe_mal0 (pv 3) T.clD c_matrix (hr.mono (by decide)) pass0) pa_nil))) pa_nil)) pa_nil)) pa_nil)))))), ?_⟩)
  · obtain ⟨_, _, _, _, _, rfl, _⟩ := h; rfl
  obtain ⟨k, r, d, n, row, rfl, hK, wf, hR, hl, q1, q2⟩ := h
  obtain ⟨dx, v, hk, a, rfl, hh⟩ := id hK
  obtain ⟨dy, ra, ca, hD⟩ := id hh
  refine ⟨_, rfl, k, dx, _, rfl, hk, kF_no (by decide +kernel), _, rfl, k, r, d, row, rfl, hK, hR, hl, fun zr H1 s1 => ?_, fun z => (q2 _ (by unfold dGood; rw [if_pos z])).ref⟩
  have u0 : ¬ cntOk d.rows.length row = false := by rw [zr]; decide
  have wfo := cntOk_wf wf zr
  have h1 := hh.same s1
  refine ⟨_, rfl, k, E, dx, _, _, rfl, s1 _ _ hk, T.clK, T.ed, kF_d, a, dy, _, rfl, s1 _ _ hD.at_, dF_no (by decide +kernel) (by decide +kernel) (by decide +kernel), _, rfl, a, r, d, row, rfl, h1, s1 _ _ hR, fun H2 o s2 ho hO => ?_⟩
  have s02 := s1.trans s2
  obtain ⟨dz, rz, cz, hz⟩ := id hO
  refine ⟨_, rfl, k, E, dx, _, _, rfl, s02 _ _ hk, T.clK, T.ed, kF_d, a, dy, _, rfl, s02 _ _ hD.at_, dF_no (by decide +kernel) (by decide +kernel) (by decide +kernel), a, d, rfl, hh.same s02, wf, fun H3 m1 s3 f1 => ?_⟩
  refine ⟨_, rfl, o, dz, _, rfl, s3 _ _ hz.at_, dF_no (by decide +kernel) (by decide +kernel) (by decide +kernel), o, d.to row, rfl, hO.same s3, wfo, fun H4 m2 s4 f2 => ?_⟩
  refine ⟨d.n, m1, m2, d.mat, (d.to row).mat, rfl, f1.same s4, f2, wf.mat, wfo.mat, by have := wf.n4; omega, fun H5 m3 s5 f3 => ?_⟩
  refine ⟨d.n, m3, lessM d.mat (d.to row).mat, rfl, f3, lessM_isMat wf.mat wfo.mat, wf.n4, (lessM_ev wf.ev wfo.ev).eb (Nat.le_trans (by decide : 40000 ≤ 2 ^ 20) (Nat.pow_le_pow_right (by decide) (by decide))), fun H6 s6 => ?_⟩
  refine .inr ⟨_, rfl, small2 (by show 1 ≤ 1000; decide), fun p hp => ?_⟩
  have s06 := s02.trans (s3.trans (s4.trans (s5.trans s6)))
  exact q1 _ d (by unfold dGood; rw [if_neg u0]) _ _ (s06.free hp) (Kept.of (s06.trans (sUp hp))) (hK.same (s06.trans (sUp hp))) upd_same
end
end Bd
set_option maxRecDepth 100000
set_option maxHeartbeats 4000000
namespace Bd
open PySem PySem.Spec PyProof.Rows L2
/-! ## designs.py: answer -/
def theDeeds : List (Ds → Int → List Int → Out) := [dSum, dAdd, dRem, dGet, dSet, dCnt, dInf, dDet, dTr, dVar, dCV, dOpt, dBnd, dExch, dImp, dAddR, dRemR, dBest, dBT, dTake, dWts, dCmp, dGood, dSum]
def ofOut (d : Ds) : Out → List Int × Option Ds
  | .ok l d' => (l, some d')
  | .no c => ([c], some d)
/-- what the call i answers, and what becomes of the desk's design -/
def ansF : Nat → Option Ds → Int → List Int → List Int × Option Ds
  | 0, o, n, _ => if 1 ≤ n ∧ n ≤ 4 then ([0], some ⟨n.toNat, [], []⟩) else ([-22], o)
  | _ + 1, none, _, _ => ([-11], none)
  | i + 1, some d, n, row => ofOut d ((theDeeds.getD (i + 1) dSum) d n row)
structure Deeds (P : Program) (w : World) (K : PySem.W.Frag) (mg : Str → Option Value) (base : Heap) (E D R N L : Addr) (as : List Addr) : Prop where
  len : as.length = 24
  zero : ∀ f : Addr, as[0]? = some f → Fal P w K mg base (L2.CX P w) 14 f ["desk", "number", "row"] (spCreate E D R N L)
  nth : ∀ (i : Nat) (F : Ds → Int → List Int → Out) (f : Addr), 1 ≤ i → theDeeds[i]? = some F → as[i]? = some f → Fal P w K mg base (L2.CX P w) 14 f ["desk", "number", "row"] (spDeed E D R N L F)
def DS (E D R N L : Addr) (as : List Addr) (f : Addr) (sp : Sp) : Prop := (as[0]? = some f ∧ sp = spCreate E D R N L) ∨ ∃ (i : Nat) (F : Ds → Int → List Int → Out), 1 ≤ i ∧ theDeeds[i]? = some F ∧ as[i]? = some f ∧ sp = spDeed E D R N L F
theorem Deeds.all {P : Program} {w : World} {K : PySem.W.Frag} {mg : Str → Option Value} {base : Heap} {E D R N L : Addr} {as : List Addr} (Z : Deeds P w K mg base E D R N L as) : ∀ f sp, DS E D R N L as f sp → Fal P w K mg base (L2.CX P w) 14 f ["desk", "number", "row"] sp := by
  rintro f sp (⟨h, rfl⟩ | ⟨i, F, h1, h2, h3, rfl⟩)
  · exact Z.zero f h
  · exact Z.nth i F f h1 h2 h3
def spAnswer (E D : Addr) : Sp := fun vs H Q _ => ∃ (k r : Addr) (o : Option Ds) (i : Nat) (n : Int) (row : List Int), vs = [.ref k, .int (i : Int), .int n, .ref r] ∧ i < 24 ∧ HasK E D H k o ∧ (∀ d, o = some d → Wf d) ∧ H r = some (.lst (vI row)) ∧ row.length ≤ 100 ∧
  ∀ H' p, H p = none → Kept k H H' → HasK E D H' k (ansF i o n row).2 → H' p = some (.lst (vI (ansF i o n row).1)) → Q (.ref p) H'
def ansV (K : PySem.W.Frag) (R N L : Addr) (D' : Ends) : WX := orElse K (.ref R) (fun a cls d σ H => tRet (tLst (tCons (tXf a cls d R "code" (tVar 5)) tNil)) (dropped D' 5) (σ.set 5 (some (.ref a))) H)
  (orElse K (.ref N) (fun a cls d σ H => tRet (tLst (tCons (tC (.int (-33))) tNil)) D' σ H)
  (orElse K (.ref L) (fun a cls d σ H => tRet (tLst (tCons (tC (.int (-28))) tNil)) D' σ H) (fun _ _ _ _ => False)))
section
variable {P : Program} {w : World} {K : PySem.W.Frag} {mg : Str → Option Value} {base : Heap} {D E R N L : Addr}
abbrev s_answer : Stmt := top 91
abbrev sl_answer : List Str := ["desk", "call", "number", "row", "deed", "e"]
theorem sc_answer : FnScope sl_answer ["desk", "call", "number", "row"] (defScope s_answer) := ⟨rfl, rfl, rfl, by decide +kernel, rfl, by decide +kernel, by decide +kernel⟩
theorem ok_answer {f : Addr} {fd : FuncData} (F : Fun K "answer" "answer" s_answer f fd) (T : Txt K mg D E R N L) {as : List Addr} (Z : Deeds P w K mg base E D R N L as) (c_DEEDS : MR mg "DEEDS" fun a => ∀ H, SqT K H a (as.map V.ref))
    (c_need : Cal P w K mg base (L2.CX P w) 3 "need" ["is_so", "code"] (spNeed R)) : FnOk P w K mg base CX0 16 f fd ["desk", "call", "number", "row"] (spAnswer E D) := by
  have c_deeds := Z.all
  refine F.ok sc_answer (fun vs H Q E h => ?_) (fun cdv A outer s H vs Q Ex hr h => ⟨_, (pss_cons (ps_set (i := 4) sc_answer.nd rfl (by first | exact Or.inl rfl | exact Or.inr rfl) (pe_ix ix_tup (pe_gr c_DEEDS) (pv 1) (fun _ _ => rfl)))
      (pss_one (ps_try_borne (tb := fun W => tSeq (tDrop (tCallS (spNeed R) (WE W) (tCons (tOrV (tOp rEq (tVar 1) (tC (.int 0))) (tOp (fun x y H Q => y = V.non ∧ Q (V.bl !decide (x = V.non)) H) (tFld K (tVar 0) "design") (tC .non))) (tCons (tC (.int (-11))) tNil)))) (tRet (tHeld 4 (DS E D R N L as) (WE W) (tCons (tVar 0) (tCons (tVar 2) (tCons (tVar 3) tNil))))))
        (V := ansV K R N L) rfl rfl (fun W pn xe tk _ => (pss_cons (ps_expr (pe_calS c_need (hr.mono (by decide)) (fun σ => passAt tk σ) (by exact (pa_cons (pe_or (pe_cmpR op_eq (pv 1) (pe_gi T.i_CREATE) (nomark _)) (pe_one (pe_cmpR op_notN (pe_fld (pv 0) rfl) pe_non (nomark _)))) (pa_cons (pe_gi T.i_NO_DESIGN) pa_nil)))))
      (pss_one (ps_ret (pe_held (i := 4) c_deeds (hr.mono (by decide)) rfl (by first | exact Or.inl rfl | exact Or.inr rfl) (fun σ => passAt tk σ) (by exact (pa_cons (pv 0) (pa_cons (pv 2) (pa_cons (pv 3) pa_nil)))))))))
      (fun pins D' => (bears_as (i := 5) (ts := fun a cls d => tRet (tLst (tCons (tXf a cls d R "code" (tVar 5)) tNil))) rfl sc_answer.nd rfl rfl ⟨rfl, by decide, .inl T.gR⟩ (fun a oe cls d pn hz hf => pss_one (ps_ret (pe_lst (pa_cons (pe_xf T.fR T.rc hz hf (pv 5)) pa_nil))))
        (bears_cons (ts := fun a cls d => tRet (tLst (tCons (tC (.int (-33))) tNil))) rfl ⟨rfl, by decide, .inl T.gN⟩ (fun a oe cls d pn hz hf => pss_one (ps_ret (pe_lst (pa_cons (pe_gi T.i_NOT_THERE) pa_nil))))
        (bears_cons (ts := fun a cls d => tRet (tLst (tCons (tC (.int (-28))) tNil))) rfl ⟨rfl, by decide, .inl T.gL⟩ (fun a oe cls d pn hz hf => pss_one (ps_ret (pe_lst (pa_cons (pe_gi T.i_TOO_MANY) pa_nil))))
        bears_nil))))))), ?_⟩)
  · obtain ⟨_, _, _, _, _, _, rfl, _⟩ := h; rfl
  obtain ⟨k, r, o, i, n, row, rfl, hi, hK, hwf, hR, hl, q⟩ := h
  obtain ⟨dx, v, hk, hv⟩ := id hK
  have out : ∀ (H1 : Hp) (cls : Value) (dd : Option Addr) (c : Int) (σ : L2.St), 5 < σ.length → Same H H1 → ExC R N L H1 cls dd c → ansF i o n row = ([c], o) → ansV K R N L { nx := fun _ H' => Q .non H', rt := Q } cls dd σ H1 := by
    intro H1 cls dd c σ h5 s1 x e
    have fin : ∀ p, H1 p = none → Q (.ref p) (upd H1 p (.lst [.int c])) := fun p hp => by
      refine q _ _ (s1.free hp) (Kept.of (s1.trans (sUp hp))) ?_ ?_
      · rw [e]; exact hK.same (s1.trans (sUp hp))
      · rw [e]; exact upd_same
    rcases x with ⟨rfl, dd, rfl, hdd⟩ | ⟨rfl, rfl, rfl⟩ | ⟨rfl, rfl, rfl⟩
    · exact ⟨true, T.eR, fun _ a ha => ⟨_, List.getElem?_set_self h5, rfl, rfl, dd, _, _, rfl, hdd, lk_at, small2 (by show 1 ≤ 1000; decide), fin⟩, fun z => (by cases z)⟩
    · exact ⟨false, T.eNR, fun z => (by cases z), fun _ => ⟨true, T.eN, fun _ a ha => ⟨small2 (by show 1 ≤ 1000; decide), fin⟩, fun z => (by cases z)⟩⟩
    · exact ⟨false, T.eLR, fun z => (by cases z), fun _ => ⟨false, T.eLN, fun z => (by cases z), fun _ => ⟨true, T.eL, fun _ a ha => ⟨small2 (by show 1 ≤ 1000; decide), fin⟩, fun z => (by cases z)⟩⟩⟩
  have la := Z.len
  obtain ⟨fa, hfa⟩ : ∃ fa, as[i]? = some fa := ⟨_, List.getElem?_eq_getElem (by omega)⟩
  intro ad had
  refine ⟨_, rfl, ad, _, i, _, rfl, rfl, had H, atI_nat (j := i) (by rw [List.getElem?_map, hfa]; rfl), ?_⟩
  refine ⟨_, rfl, rfl, _, rfl, ?_⟩
  cases i with
  | zero =>
    refine ifE (by simp) ⟨true, (-11), rfl, fun _ => ?_, fun z => (by cases z)⟩
    refine ⟨fa, _, rfl, .inl ⟨hfa, rfl⟩, _, rfl, _, rfl, _, rfl, k, r, o, n, row, rfl, hK, fun hn H' p pn kp hk' hp => ?_, fun hn H' cls dd s1 x => ?_⟩
    · have e : ansF 0 o n row = ([0], some ⟨n.toNat, [], []⟩) := if_pos hn
      exact q H' p pn kp (by rw [e]; exact hk') (by rw [e]; exact hp)
    · exact out H' cls dd (-22) _ (by show 5 < 6; decide) s1 x (if_neg hn)
  | succ j =>
    refine ifN (by simp; omega) ?_
    refine ⟨_, rfl, k, E, dx, _, _, rfl, hk, T.clK, T.ed, kF_d, rfl, ?_⟩
    cases o with
    | none =>
      obtain rfl : v = .non := hv
      exact ⟨_, (-11), rfl, fun z => absurd z (by simp), fun _ H' dd s1 x => out H' _ _ (-11) _ (by show 5 < 6; decide) s1 (.inl ⟨rfl, dd, rfl, x⟩) rfl⟩
    | some d =>
      obtain ⟨a, rfl, hh⟩ := hv
      refine ⟨_, (-11), rfl, fun _ => ?_, fun z => absurd z (by simp)⟩
      obtain ⟨G, hG⟩ : ∃ G, theDeeds[j + 1]? = some G := ⟨_, List.getElem?_eq_getElem (by show j + 1 < 24; omega)⟩
      have eG : theDeeds.getD (j + 1) dSum = G := by rw [List.getD_eq_getElem?_getD, hG]; rfl
      refine ⟨fa, _, rfl, .inr ⟨j + 1, G, by omega, hG, hfa, rfl⟩, _, rfl, _, rfl, _, rfl, k, r, d, n, row, rfl, hK, hwf d rfl, hR, hl, fun l d' eo H' p pn kp hk' hp => ?_, fun c eo H' cls dd s1 x => ?_⟩
      · have e : ansF (j + 1) (some d) n row = (l, some d') := by
          show ofOut d ((theDeeds.getD (j + 1) dSum) d n row) = _
          rw [eG, eo]
          rfl
        exact q H' p pn kp (by rw [e]; exact hk') (by rw [e]; exact hp)
      · refine out H' cls dd c _ (by show 5 < 6; decide) s1 x ?_
        show ofOut d ((theDeeds.getD (j + 1) dSum) d n row) = _
        rw [eG, eo]
        rfl
end
end Bd
set_option maxRecDepth 100000
set_option maxHeartbeats 4000000
namespace Bd
open PySem PySem.Spec PyProof.Rows L2
/-! ## designs.py: answers -/
def withN : List Int := [0, 2, 3, 12, 14, 17, 18, 19, 20]
def withL : List Int := [1, 4, 9, 21, 22]
structure Cl where
  i : Nat
  n : Int
  row : List Int
def Cl.enc (c : Cl) : List Int := if (c.i : Int) ∈ withN then [(c.i : Int), c.n] else if (c.i : Int) ∈ withL then (c.i : Int) :: (c.row.length : Int) :: c.row else [(c.i : Int)]
structure Cl.Good (c : Cl) : Prop where
  lt : c.i < 24
  n0 : ¬ (c.i : Int) ∈ withN → c.n = 0
  r0 : ¬ (c.i : Int) ∈ withL → c.row = []
  rl : c.row.length ≤ 100
def encs (cs : List Cl) : List Int := cs.flatMap Cl.enc
def play : Option Ds → List Cl → List (List Int)
  | _, [] => []
  | o, c :: cs => (ansF c.i o c.n c.row).1 :: play (ansF c.i o c.n c.row).2 cs
theorem dSum_wf {d : Ds} {n : Int} {row l : List Int} {d' : Ds} (h : Wf d) (e : dSum d n row = .ok l d') : Wf d' := by cases e; exact h
theorem stDo_wf {d : Ds} {ps : List Nat} {t : Int} {l : List Int} {d' : Ds} (h : Wf d) (hp : ∀ j ∈ ps, j < d.cs.length ∧ 0 ≤ d.cs.getD j 0 + t ∧ d.cs.getD j 0 + t ≤ 20) (e : stDo d ps t = .ok l d') : Wf d' := by
  unfold stDo at e
  by_cases hn : ps = []
  · subst hn
    cases e
  · obtain ⟨j, x, hj, hs⟩ := st_some d t ps hn
    rw [hs] at e
    cases e
    obtain ⟨h1, h2⟩ := hp j hj
    exact ⟨h.n1, h.n4, h.rl, h.re, h.rk, by show (stepC d.cs j t).length = _; rw [stepC_len, h.cl], stepC_mem h.cb h2⟩
theorem deed_wf {d : Ds} {n : Int} {row l : List Int} {d' : Ds} (h : Wf d) : ∀ F ∈ theDeeds, F d n row = .ok l d' → Wf d' := by
  have same : ∀ {c : Prop} [Decidable c] {a b : Out}, (if c then a else b) = .ok l d' → (a = .ok l d' ∨ b = .ok l d') := fun {c} _ {a b} e => by
    by_cases hc : c
    · rw [if_pos hc] at e; exact .inl e
    · rw [if_neg hc] at e; exact .inr e
  intro F hF e
  unfold theDeeds at hF
  simp only [List.mem_cons, List.not_mem_nil, or_false] at hF
  have st : ∀ {x : List Int}, Out.ok x d = .ok l d' → Wf d' := fun e => by cases e; exact h
  have no : ∀ {c : Int}, Out.no c = .ok l d' → Wf d' := fun e => by cases e
  rcases hF with rfl | rfl | rfl | rfl | rfl | rfl | rfl | rfl | rfl | rfl | rfl | rfl | rfl | rfl | rfl | rfl | rfl | rfl | rfl | rfl | rfl | rfl | rfl | rfl
  · exact st e
  · unfold dAdd at e
    by_cases z : rowOk d.n row = false
    · rw [if_pos z] at e; exact no e
    rw [if_neg z] at e
    rcases same e with e | e
    · exact no e
    by_cases lt : d.rows.length < 10
    · rw [if_neg (fun y => y lt)] at e
      cases e
      have zr : rowOk d.n row = true := by simpa using z
      obtain ⟨r1, r2⟩ := rowOk_ev zr
      refine ⟨h.n1, h.n4, fun r hr => ?_, fun r hr => ?_, ?_, ?_, fun c hc => ?_⟩
      · rcases List.mem_append.mp hr with hr | hr
        · exact h.rl r hr
        · rw [List.mem_singleton.mp hr]; exact r1
      · rcases List.mem_append.mp hr with hr | hr
        · exact h.re r hr
        · exact r2 r hr
      · show (d.rows ++ [row]).length ≤ 10
        rw [List.length_append]
        show _ + 1 ≤ 10
        omega
      · show (d.cs ++ [0]).length = (d.rows ++ [row]).length
        rw [List.length_append, List.length_append, h.cl]
        rfl
      · rcases List.mem_append.mp hc with hc | hc
        · exact h.cb c hc
        · rw [List.mem_singleton.mp hc]; decide
    · rw [if_pos lt] at e; exact no e
  · unfold dRem at e
    by_cases hn : 0 ≤ n ∧ n < d.rows.length
    · rw [if_pos hn] at e
      cases e
      have mm : ∀ {α : Type} {l : List α} {k : Nat} {x : α}, x ∈ l.take k ++ l.drop (k + 1) → x ∈ l := fun hx => by
        rcases List.mem_append.mp hx with hx | hx
        · exact List.mem_of_mem_take hx
        · exact List.mem_of_mem_drop hx
      have hc := h.cl
      have hk := h.rk
      refine ⟨h.n1, h.n4, fun r hr => h.rl r (mm hr), fun r hr => h.re r (mm hr), ?_, ?_, fun c hc => h.cb c (mm hc)⟩
      · simp only [List.length_append, List.length_take, List.length_drop]
        omega
      · simp only [List.length_append, List.length_take, List.length_drop]
        omega
    · rw [if_neg hn] at e; exact no e
  · unfold dGet at e
    rcases same e with e | e
    · exact st e
    · exact no e
  · unfold dSet at e
    by_cases z : cntOk d.rows.length row = true
    · rw [if_pos z] at e
      cases e
      exact cntOk_wf h z
    · rw [if_neg z] at e; exact no e
  · exact st e
  · exact st e
  · exact st e
  · unfold dTr at e
    rcases same e with e | e
    · exact no e
    · exact st e
  · unfold dVar at e
    rcases same e with e | e
    · exact no e
    rcases same e with e | e
    · exact no e
    · exact st e
  · unfold dCV at e
    rcases same e with e | e
    · exact no e
    · exact st e
  · unfold dOpt at e
    rcases same e with e | e
    · exact no e
    · exact st e
  · unfold dBnd at e
    rcases same e with e | e
    · exact no e
    rcases same e with e | e
    · exact no e
    · exact st e
  · unfold dExch at e
    have hb : ∀ i j x, (bx d).1 = some (i, j, x) → Wf (exC d i j) := fun i j x z => (h.bx z).1
    generalize (bx d).1 = o at e hb
    cases o with
    | none => exact no e
    | some o =>
      obtain ⟨i, j, x⟩ := o
      cases e
      exact hb i j x rfl
  · unfold dImp at e
    rcases same e with e | e
    · exact no e
    · cases e
      exact impF_wf _ h
  · refine stDo_wf h (fun j hj => ?_) e
    obtain ⟨h1, h2⟩ := List.mem_filter.mp hj
    have h3 := List.mem_range.mp h1
    have h4 := of_decide_eq_true h2
    have h5 := h.cb _ (getD_at h3)
    exact ⟨h3, by omega, by omega⟩
  · refine stDo_wf h (fun j hj => ?_) e
    obtain ⟨h1, h2⟩ := List.mem_filter.mp hj
    have h3 := List.mem_range.mp h1
    have h4 := of_decide_eq_true h2
    have h5 := h.cb _ (getD_at h3)
    exact ⟨h3, by omega, by omega⟩
  · unfold dBest at e
    rcases same e with e | e
    · exact no e
    rcases same e with e | e
    · exact no e
    rcases same e with e | e
    · exact no e
    · exact st e
  · unfold dBT at e
    rcases same e with e | e
    · exact no e
    rcases same e with e | e
    · exact no e
    rcases same e with e | e
    · exact no e
    · generalize (btF d n.toNat).2 = o at e
      cases o with
      | none => exact no e
      | some t => exact st e
  · unfold dTake at e
    by_cases hn : ¬ (1 ≤ n ∧ n ≤ 20)
    · rw [if_pos hn] at e; exact no e
    rw [if_neg hn] at e
    rcases same e with e | e
    · exact no e
    rcases same e with e | e
    · exact no e
    · cases e
      exact bdF_wf h (by omega)
  · unfold dWts at e
    rcases same e with e | e
    · exact no e
    rcases same e with e | e
    · exact no e
    · exact st e
  · unfold dCmp at e
    rcases same e with e | e
    · exact no e
    rcases same e with e | e
    · exact no e
    · exact st e
  · unfold dGood at e
    rcases same e with e | e
    · exact no e
    · exact st e
  · exact st e
def WfO (o : Option Ds) : Prop := ∀ d, o = some d → Wf d
theorem ansF_wf {o : Option Ds} (h : WfO o) {i : Nat} {n : Int} {row : List Int} : WfO (ansF i o n row).2 := by
  intro d hd
  cases i with
  | zero =>
    change (if 1 ≤ n ∧ n ≤ 4 then (([0] : List Int), some (⟨n.toNat, [], []⟩ : Ds)) else ([-22], o)).2 = some d at hd
    by_cases hn : 1 ≤ n ∧ n ≤ 4
    · rw [if_pos hn] at hd
      cases hd
      exact ⟨by show 1 ≤ n.toNat; omega, by show n.toNat ≤ 4; omega, fun r hr => (by cases hr), fun r hr => (by cases hr), Nat.zero_le _, rfl, fun c hc => (by cases hc)⟩
    · rw [if_neg hn] at hd
      exact h d hd
  | succ j =>
    cases o with
    | none => cases hd
    | some e =>
      change (ofOut e ((theDeeds.getD (j + 1) dSum) e n row)).2 = some d at hd
      have he := h e rfl
      cases g : (theDeeds.getD (j + 1) dSum) e n row with
      | ok l d' =>
        rw [g] at hd
        obtain rfl : d' = d := Option.some.inj hd
        by_cases hj : j + 1 < 24
        · have hm : theDeeds.getD (j + 1) dSum ∈ theDeeds := by
            rw [List.getD_eq_getElem?_getD, List.getElem?_eq_getElem (show j + 1 < theDeeds.length from hj)]
            exact List.getElem_mem _
          exact deed_wf he _ hm g
        · rw [List.getD_eq_getElem?_getD, List.getElem?_eq_none (show theDeeds.length ≤ j + 1 from Nat.le_of_not_lt hj)] at g
          exact dSum_wf (n := n) (row := row) he g
      | no c =>
        rw [g] at hd
        obtain rfl : e = d := Option.some.inj hd
        exact he
/-! ### a list that a call must not touch -/
def lstφ (fl : Addr) (xs : List V) : Heap → Prop := fun h => xs.length ≤ sizeLine ∧ ∃ (its : List Value) (n : Nat), Vals xs its ∧ h.get? fl = some { cls := .type "list", data := .seq its.toArray n }
/-- within e the list at fl is out of sight -/
def tHide (te : TE) : TE := fun σ H Q => ∃ fl xs, H fl = some (.lst xs) ∧ te σ (upd H fl (.ext (lstφ fl xs))) fun x H1 => H1 fl = some (.ext (lstφ fl xs)) ∧ Q x (upd H1 fl (.lst xs))
theorem pe_hide {X : Cx} {e : Expr} {te : TE} (he : PE X e te) : PE X e (tHide te) := by
  refine ⟨fun pins s σ H Q I ⟨fl, xs, hfl, h⟩ => ?_⟩
  have x0 : ObjOk X.prog X.w H s.heap fl (.lst xs) := I.hok fl _ hfl
  have I2 : Inv X pins σ (upd H fl (.ext (lstφ fl xs))) s := by
    obtain ⟨hl, its, n, r, g⟩ := x0
    have J := I.write (t' := s.toks) (h' := s.heap) (x := fl) (e := fl) (o := .ext (lstφ fl xs)) (by rw [hfl]; exact True.intro) (.inl rfl) (fun _ _ _ z => z) ⟨_, g⟩
      ⟨⟨hl, its, n, r, g⟩, ⟨_, g⟩, fun h1 h2 ⟨y, its', n', r', g'⟩ k => ⟨y, its', n', r', k _ g'⟩⟩
    exact J
  refine wpAny_mono (he.run pins s σ _ _ I2 h) (fun v s1 ⟨x, H1, I1, rx, hx, q⟩ => ?_) (fun _ _ z => z)
  have x1 : ObjOk X.prog X.w H1 s1.heap fl (.ext (lstφ fl xs)) := I1.hok fl _ hx
  obtain ⟨⟨hl, its, n, r, g⟩, _, _⟩ := x1
  have J := I1.write (t' := s1.toks) (h' := s1.heap) (x := fl) (e := fl) (o := .lst xs) (by rw [hx]; exact True.intro) (.inl rfl) (fun _ _ _ z => z) ⟨_, g⟩ ⟨hl, its, n, r, g⟩
  exact ⟨x, _, J, rx, q⟩
/-- lists and instances are there in H', too -/
structure Sees (H H' : Hp) : Prop where
  lst : ∀ b xs, H b = some (.lst xs) → H' b = some (.lst xs)
  ins : ∀ b C dx fs, H b = some (.ins C dx fs) → H' b = some (.ins C dx fs)
theorem Sees.rows {H H' : Hp} (s : Sees H H') : ∀ {as : List Addr} {m : List (List Int)}, RowsAt H as m → RowsAt H' as m
  | [], [], _ => trivial
  | _ :: _, _ :: _, h => ⟨s.lst _ _ h.1, Sees.rows s h.2⟩
theorem Sees.hasD {D a : Addr} {H H' : Hp} {d : Ds} (s : Sees H H') (h : HasD D H a d) : HasD D H' a d := by
  obtain ⟨dx, r, c, z⟩ := h
  obtain ⟨as, e, q⟩ := z.rows
  exact ⟨dx, r, c, s.ins _ _ _ _ z.at_, ⟨as, s.lst _ _ e, s.rows q⟩, s.lst _ _ z.cs⟩
theorem Sees.hasK {E D k : Addr} {H H' : Hp} {o : Option Ds} (s : Sees H H') (h : HasK E D H k o) : HasK E D H' k o := by
  obtain ⟨dx, v, e, q⟩ := h
  refine ⟨dx, v, s.ins _ _ _ _ e, ?_⟩
  cases o with
  | none => exact q
  | some d => exact let ⟨a, e, q⟩ := q; ⟨a, e, s.hasD q⟩
theorem sees_ext {H : Hp} {fl : Addr} {φ : Heap → Prop} (h : H fl = some (.ext φ)) : Sees H (del H fl) :=
  ⟨fun b xs e => by rw [del_ne (fun z => by rw [z, h] at e; cases e)]; exact e, fun b C dx fs e => by rw [del_ne (fun z => by rw [z, h] at e; cases e)]; exact e⟩
theorem del_upd {H : Hp} {fl : Addr} {o : HO} : Same (del H fl) (upd H fl o) := fun b u e => by
  by_cases h : b = fl
  · rw [h, del_same] at e; cases e
  · rw [upd_ne h]; rw [del_ne h] at e; exact e
theorem del_of_upd {H : Hp} {fl : Addr} {o : HO} : del (upd H fl o) fl = del H fl := by
  funext b
  by_cases h : b = fl
  · rw [h, del_same, del_same]
  · rw [del_ne h, del_ne h, upd_ne h]
theorem del_mono {H H' : Hp} {fl : Addr} (s : Same H H') : Same (del H fl) (del H' fl) := fun b u e => by
  by_cases h : b = fl
  · rw [h, del_same] at e; cases e
  · rw [del_ne h]; rw [del_ne h] at e; exact s _ _ e
theorem sSql {K : PySem.W.Frag} {H H' : Hp} {a : Addr} {xs : List V} (e : Same H H') (h : SqL K H a xs) : SqL K H' a xs := by
  rcases h with (h | ⟨o, h⟩) | h
  · exact .inl (.inl (e _ _ h))
  · exact .inl (.inr ⟨o, e _ _ h⟩)
  · exact .inr h
def spAnswers (K : PySem.W.Frag) : Sp := fun vs H Q _ => ∃ (a : Addr) (cs : List Cl), vs = [.ref a] ∧ SqL K H a (vI (encs cs)) ∧ (∀ c ∈ cs, c.Good) ∧ (PyFlat.told (play none cs)).length ≤ 10000000 ∧
  ∀ H' p, Same H H' → H' p = some (.lst (vI (PyFlat.told (play none cs)))) → Q (.ref p) H'
def ansW (E D a k f : Addr) (cs : List Cl) (H : Hp) (μ : Nat) (σ : L2.St) (H' : Hp) : Prop :=
  ∃ (pre post : List Cl) (o : Option Ds) (done : List (List Int)) (v4 v5 v6 v7 : Option V), σ = [some (.ref a), some (.ref k), some (.ref f), some (.int ((encs pre).length : Nat)), v4, v5, v6, v7] ∧ cs = pre ++ post ∧ Same H H' ∧ HasK E D (del H' f) k o ∧ WfO o ∧
    H' f = some (.lst (vI (PyFlat.told done))) ∧ done ++ play o post = play none cs ∧ μ = post.length
theorem encs_app (x y : List Cl) : encs (x ++ y) = encs x ++ encs y := List.flatMap_append
theorem enc_pos (c : Cl) : ∃ r, c.enc = (c.i : Int) :: r := by
  unfold Cl.enc
  split
  · exact ⟨_, rfl⟩
  · split
    · exact ⟨_, rfl⟩
    · exact ⟨_, rfl⟩
theorem inV_int (i : Int) (l : List Int) : inV (.int i) (vI l) = decide (i ∈ l) := by
  induction l with
  | nil => rfl
  | cons x l ih =>
    show (eqV (.int x) (.int i) || inV (.int i) (vI l)) = _
    rw [ih]
    have e : eqV (.int x) (.int i) = decide (x = i) := by
      rw [Bool.eq_iff_iff]
      show (x == i) = true ↔ _
      rw [beq_iff_eq, decide_eq_true_iff]
    rw [e]
    by_cases h1 : x = i
    · rw [decide_eq_true h1, Bool.true_or, decide_eq_true (by rw [h1]; exact List.mem_cons_self)]
    · rw [decide_eq_false h1, Bool.false_or]
      by_cases h2 : i ∈ l
      · rw [decide_eq_true h2, decide_eq_true (List.mem_cons_of_mem _ h2)]
      · rw [decide_eq_false h2, decide_eq_false]
        intro h3
        rcases List.mem_cons.mp h3 with h3 | h3
        · exact h1 h3.symm
        · exact h2 h3
theorem cut_mid {xs : List V} {i j : Nat} (h : i ≤ j) (hj : j ≤ xs.length) : cutV xs (some (i : Int)) (some (j : Int)) = (xs.drop i).take (j - i) := by
  unfold cutV
  rw [HT.sIx_nat, HT.sIx_nat, Nat.min_eq_left hj, Nat.min_eq_left (Nat.le_trans h hj)]
theorem drop2 : ∀ (A : List Int) {x y : Int} {R : List Int}, (A ++ x :: y :: R).drop (A.length + 2) = R
  | [], _, _, _ => rfl
  | _ :: A, _, _, _ => drop2 A
theorem told_app (x y : List (List Int)) : PyFlat.told (x ++ y) = PyFlat.told x ++ PyFlat.told y := List.flatMap_append
theorem told_one (x : List Int) : PyFlat.told [x] = (x.length : Int) :: x := by
  show ((x.length : Int) :: x) ++ [] = _
  rw [List.append_nil]
theorem all_flat (l : List Int) : (vI l).all flatV = true := by
  rw [List.all_eq_true]
  intro x hx
  obtain ⟨i, _, rfl⟩ := List.mem_map.mp hx
  rfl
section
variable {P : Program} {w : World} {K : PySem.W.Frag} {mg : Str → Option Value} {base : Heap} {D E R N L : Addr}
abbrev s_answers : Stmt := top 92
abbrev sl_answers : List Str := ["calls", "desk", "found", "at", "call", "number", "row", "one"]
theorem sc_answers : FnScope sl_answers ["calls"] (defScope s_answers) := ⟨rfl, rfl, rfl, by decide +kernel, rfl, by decide +kernel, by decide +kernel⟩
theorem ok_answers {f : Addr} {fd : FuncData} (F : Fun K "answers" "answers" s_answers f fd) (T : Txt K mg D E R N L) (c_Desk : Kal P w K mg base 1 "Desk" E ["self"] (spKInit E))
    (c_answer : Cal P w K mg base CX0 16 "answer" ["desk", "call", "number", "row"] (spAnswer E D)) : FnOk P w K mg base CX0 18 f fd ["calls"] (spAnswers K) := by
  refine F.ok sc_answers (fun vs H Q E h => ?_) (fun cdv A outer s H vs Q Ex hr h => ⟨_, (pss_cons (ps_par3 (i := 1) (j := 2) (l := 3) rfl sc_answers.nd rfl rfl rfl (by decide) (by decide) (by decide) rfl rfl rfl (pa_cons (pe_mk0 c_Desk (hr.mono (by decide))) (pa_cons (pe_lst pa_nil) (pa_cons pe_int pa_nil))) (by rfl))
      (pss_cons (ps_while PassesOwn.never (pt_cmpR op_lt (pv 3) (pe_callB call_len_seq (by rfl) T.n_len (by decide +kernel) (pa_cons (pv 0) pa_nil)) (nomark _)) (pss_cons (ps_par3 (i := 4) (j := 5) (l := 6) rfl sc_answers.nd rfl rfl rfl (by decide) (by decide) (by decide) rfl rfl rfl (pa_cons (pe_ix ix_list (pv 0) (pv 3) (fun _ _ => rfl)) (pa_cons pe_int (pa_cons (pe_lst pa_nil) pa_nil))) (by rfl))
      (pss_cons (ps_set (i := 3) sc_answers.nd rfl (by first | exact Or.inl rfl | exact Or.inr rfl) (pe_op op_add (pv 3) pe_int))
      (pss_cons (ps_if (pt_cmpR op_in_seq (pv 4) (pe_gr T.r_WITH_NUMBER) (by rfl)) (pss_one (ps_par (i := 5) (j := 3) rfl sc_answers.nd rfl rfl (by decide) rfl rfl (pa_cons (pe_ix ix_list (pv 0) (pv 3) (fun _ _ => rfl)) (pa_cons (pe_op op_add (pv 3) pe_int) pa_nil)) (by rfl))) (pss_one (ps_if (pt_cmpR op_in_seq (pv 4) (pe_gr T.r_WITH_LIST) (by rfl)) (pss_cons (ps_set (i := 6) sc_answers.nd rfl (by first | exact Or.inl rfl | exact Or.inr rfl) (pe_slice sl_list (pv 0) (po_some (pe_op op_add (pv 3) pe_int)) (po_some (pe_op op_add (pe_op op_add (pv 3) pe_int) (pe_ix ix_list (pv 0) (pv 3) (fun _ _ => rfl))))))
      (pss_one (ps_set (i := 3) sc_answers.nd rfl (by first | exact Or.inl rfl | exact Or.inr rfl) (pe_op op_add (pe_op op_add (pv 3) pe_int) (pe_callB call_len_seq (by rfl) T.n_len (by decide +kernel) (pa_cons (pv 6) pa_nil)))))) pss_nil)))
      (pss_cons (ps_set (i := 7) sc_answers.nd rfl (by first | exact Or.inl rfl | exact Or.inr rfl) (pe_hide (pe_cal c_answer (hr.mono (by decide)) pass0 (pa_cons (pv 1) (pa_cons (pv 4) (pa_cons (pv 5) (pa_cons (pv 6) pa_nil)))))))
      (pss_cons (ps_expr (pe_bm PySem.F.plainAttrs_list PySem.F.slot_list_append PySem.F.type_list_append mt_append (pv 2) (pa_cons (pe_callB call_len_seq (by rfl) T.n_len (by decide +kernel) (pa_cons (pv 7) pa_nil)) pa_nil)))
      (pss_one (ps_expr (pe_bm PySem.F.plainAttrs_list PySem.F.slot_list_extend PySem.F.type_list_extend mt_extend (pv 2) (pa_cons (pv 7) pa_nil))))))))))
      (pss_one (ps_ret (pv 2))))), ?_⟩)
  · obtain ⟨_, _, rfl, _⟩ := h; rfl
  obtain ⟨a, cs, rfl, ha, hg, hlen, q⟩ := h
  intro k dx hk hdx ne
  refine ⟨k, dx, rfl, upd_same, fun H1 hk1 kp => ⟨rfl, Nat.zero_le _, fun fl hfl => ⟨_, _, _, rfl, ?_⟩⟩⟩
  have s1 : Same H H1 := Same.made hk hdx kp
  have s2 : Same H (upd H1 fl (.lst [])) := s1.trans (sUp hfl)
  have hk2 : (upd H1 fl (.lst [])) k = some (.ins E dx (kF .non)) := (sUp hfl) _ _ hk1
  have hf2 : (upd H1 fl (.lst [])) fl = some (.lst []) := upd_same
  have hfl0 : H fl = none := by
    cases z : H fl with
    | none => rfl
    | some u => rw [s1 _ _ z] at hfl; cases hfl
  generalize upd H1 fl (.lst []) = H2 at s2 hk2 hf2 ⊢
  refine ⟨ansW E D a k fl cs H, ⟨cs.length, [], cs, none, [], none, none, none, none, rfl, rfl, s2, ⟨dx, .non, (del_ne fun e => by rw [← e, hk1] at hfl; cases hfl).trans hk2, rfl⟩, fun d e => (by cases e), hf2, rfl, rfl⟩, ?_⟩
  rintro μ σ H3 ⟨pre, post, o, done, v4, v5, v6, v7, rfl, hcs, s3, hK, wo, hf3, hpl, rfl⟩
  have ha3 := sSql s3 ha
  obtain ⟨dx3, v3, hk3, hv3⟩ := id hK
  refine ⟨_, rfl, _, rfl, a, _, rfl, .inl ha3, _, _, rfl, rfl, _, rfl, ?_⟩
  cases post with
  | nil =>
    have e1 : cs = pre := by rw [hcs, List.append_nil]
    refine ifF (by rw [List.length_map, e1]; omega) ⟨_, rfl, ?_⟩
    have e2 : done = play none cs := by rw [← hpl]; exact (List.append_nil _).symm
    rw [e2] at hf3
    exact q _ _ s3 hf3
  | cons c post =>
    have gc := hg c (by rw [hcs]; simp)
    obtain ⟨er, hec⟩ := enc_pos c
    have fl0 : encs cs = encs pre ++ (c.enc ++ encs post) := by
      rw [hcs, encs_app]
      rfl
    have at0 : (vI (encs cs))[(encs pre).length]? = some (.int (c.i : Int)) := by
      rw [List.getElem?_map, fl0, List.getElem?_append_right (Nat.le_refl _), Nat.sub_self, hec]
      rfl
    refine ifT (by rw [List.length_map, fl0, hec, List.length_append, List.length_append, List.length_cons]; omega) ⟨ansW E D a k fl cs H post.length, fun σ' H' h => ⟨_, by rw [List.length_cons]; omega, h⟩, ?_⟩
    refine ⟨_, rfl, _, rfl, a, _, (encs pre).length, _, rfl, rfl, ha3, atI_nat (j := (encs pre).length) at0, Nat.zero_le _, fun b0 hb0 => ⟨_, _, _, rfl, ?_⟩⟩
    have s4 : Same H3 (upd H3 b0 (.lst [])) := sUp hb0
    have e4 : (upd H3 b0 (.lst [])) b0 = some (.lst []) := upd_same
    generalize upd H3 b0 (.lst []) = H4 at s4 e4 ⊢
    have ha4 := sSql s4 ha3
    refine ⟨_, rfl, _, 1, rfl, rfl, _, rfl, fun aN hN => ⟨aN, _, rfl, .inr (hN _), rfl, all_flat _, _, rfl, ?_⟩⟩
    have hf4 := s4 _ _ hf3
    have hK4 : HasK E D (del H4 fl) k o := hK.same (del_mono s4)
    have s04 := s3.trans s4
    have enc2 : encs (pre ++ [c]) = encs pre ++ c.enc := by rw [encs_app]; show _ ++ (c.enc ++ []) = _; rw [List.append_nil]
    -- what has been answered so far fits
    have room : (PyFlat.told done).length + 1 + (ansF c.i o c.n c.row).1.length ≤ 10000000 := by
      have e : PyFlat.told (play none cs) = PyFlat.told done ++ (((ansF c.i o c.n c.row).1.length : Int) :: (ansF c.i o c.n c.row).1 ++ PyFlat.told (play (ansF c.i o c.n c.row).2 post)) := by
        rw [← hpl, told_app]
        rfl
      rw [e, List.length_append, List.length_append, List.length_cons] at hlen
      omega
    have big : sizeLine = 16777216 := sizeLine_eq
    have hk4 : H4 k = some (.ins E dx3 (kF v3)) := by
      have nkf : k ≠ fl := fun e => by rw [e, del_same] at hk3; cases hk3
      exact s4 _ _ ((del_ne nkf).symm.trans hk3)
    have nb0 : b0 ≠ fl := fun e => by rw [e, hf3] at hb0; cases hb0
    by_cases hN1 : (c.i : Int) ∈ withN
    · have ee : c.enc = [(c.i : Int), c.n] := if_pos hN1
      have at1 : (vI (encs cs))[(encs pre).length + 1]? = some (.int c.n) := by
        rw [List.getElem?_map, fl0, List.getElem?_append_right (by omega), ee, show (encs pre).length + 1 - (encs pre).length = 1 by omega]
        rfl
      have hrow : c.row = [] := gc.r0 fun h => by
        have dj : ∀ x ∈ withN, ¬ x ∈ withL := by decide
        exact dj _ hN1 h
      have eat : ((encs pre).length : Int) + 1 + 1 = ((encs (pre ++ [c])).length : Nat) := by rw [enc2, List.length_append, ee]; rfl
      refine ifE (by show inV (.int (c.i : Int)) (vI withN) = true; rw [inV_int]; exact decide_eq_true hN1) ⟨_, rfl, _, rfl, a, _, (encs pre).length + 1, _, rfl, rfl, ha4, atI_nat (j := (encs pre).length + 1) at1, _, rfl, _, 1, rfl, rfl, _, _, rfl, ?_⟩
      have er4 : H4 b0 = some (.lst (vI c.row)) := by rw [hrow]; exact e4
      refine ⟨fl, _, hf4, _, rfl, _, rfl, _, rfl, _, rfl, k, b0, o, c.i, c.n, c.row, rfl, gc.lt, (hK4).same del_upd, wo, (upd_ne nb0).trans er4, gc.rl, fun H5 p pn kp5 hk5 hp5 => ?_⟩
      have nfk : fl ≠ k := fun e => by
        have h5 := hf4
        rw [e, (hk4)] at h5
        cases h5
      have hx5 : H5 fl = some (.ext (lstφ fl (vI (PyFlat.told done)))) := kp5 _ _ upd_same nfk
      have hpf : p ≠ fl := fun e => by rw [e, upd_same] at pn; cases pn
      refine ⟨hx5, ?_⟩
      refine ⟨_, rfl, ty_list upd_same, _, rfl, p, _, rfl, .inl (SqL.of ((upd_ne hpf).trans hp5)), fl, _, _, rfl, rfl, upd_same, by rw [List.length_map, big]; omega, ?_⟩
      refine ⟨_, rfl, ty_list upd_same, _, rfl, fl, p, _, _, rfl, rfl, upd_same, (upd_ne hpf).trans ((upd_ne hpf).trans hp5), by rw [List.length_append, List.length_map, List.length_map, big]; show _ + 1 + _ ≤ _; omega, ?_⟩
      refine ⟨pre ++ [c], post, (ansF c.i o c.n c.row).2, done ++ [(ansF c.i o c.n c.row).1], some (.int (c.i : Int)), some (.int c.n), some (.ref b0), some (.ref p), by rw [← eat]; rfl, by rw [hcs, List.append_assoc]; rfl, ?_, ?_, ansF_wf wo, ?_, ?_, rfl⟩
      · intro b u hb
        have nk : b ≠ k := fun e => by rw [e, hk] at hb; cases hb
        have nf : b ≠ fl := fun e => by rw [e, hfl0] at hb; cases hb
        rw [upd_ne nf, upd_ne nf, upd_ne nf]
        exact kp5 _ _ ((upd_ne nf).trans (s04 _ _ hb)) nk
      · rw [del_of_upd, del_of_upd, del_of_upd]
        exact (sees_ext hx5).hasK hk5
      · rw [upd_same, told_app, told_one]
        simp [vI]
      · rw [← hpl, List.append_assoc]
        rfl
    · refine ifN (by show inV (.int (c.i : Int)) (vI withN) = false; rw [inV_int]; exact decide_eq_false hN1) ?_
      have n0 := gc.n0 hN1
      refine ⟨_, rfl, fun aL hL => ⟨aL, _, rfl, .inr (hL _), rfl, all_flat _, _, rfl, ?_⟩⟩
      by_cases hL1 : (c.i : Int) ∈ withL
      · have ee : c.enc = (c.i : Int) :: (c.row.length : Int) :: c.row := (if_neg hN1).trans (if_pos hL1)
        have at1 : (vI (encs cs))[(encs pre).length + 1]? = some (.int (c.row.length : Nat)) := by
          rw [List.getElem?_map, fl0, List.getElem?_append_right (by omega), ee, show (encs pre).length + 1 - (encs pre).length = 1 by omega]
          rfl
        refine ifE (by show inV (.int (c.i : Int)) (vI withL) = true; rw [inV_int]; exact decide_eq_true hL1) ?_
        have cut : cutV (vI (encs cs)) (some (((encs pre).length : Int) + 1 + 1)) (some (((encs pre).length : Int) + 1 + 1 + (c.row.length : Nat))) = vI c.row := by
          have e1 : ((encs pre).length : Int) + 1 + 1 = (((encs pre).length + 2 : Nat) : Int) := rfl
          have e2 : ((encs pre).length : Int) + 1 + 1 + (c.row.length : Nat) = (((encs pre).length + 2 + c.row.length : Nat) : Int) := by omega
          rw [e2, e1, cut_mid (by omega) (by rw [List.length_map, fl0, ee]; simp; omega), fl0, ee, vI, ← List.map_drop, ← List.map_take]
          rw [show (encs pre).length + 2 + c.row.length - ((encs pre).length + 2) = c.row.length by omega, List.cons_append, List.cons_append, drop2, List.take_left]
        refine ⟨_, rfl, _, rfl, _, 1, rfl, rfl, ((encs pre).length : Int) + 1 + 1, rfl, _, rfl, _, 1, rfl, rfl, _, rfl, _, rfl, a, _, (encs pre).length + 1, _, rfl, rfl, ha4, atI_nat (j := (encs pre).length + 1) at1, _, _, rfl, rfl, ((encs pre).length : Int) + 1 + 1 + (c.row.length : Nat), rfl, a, _, rfl, ha4, fun b1 hb1 => ?_⟩
        rw [cut]
        have s5 : Same H4 (upd H4 b1 (.lst (vI c.row))) := sUp hb1
        have e5 : (upd H4 b1 (.lst (vI c.row))) b1 = some (.lst (vI c.row)) := upd_same
        have nb1 : b1 ≠ fl := fun e => by rw [e, hf4] at hb1; cases hb1
        generalize upd H4 b1 (.lst (vI c.row)) = H6 at s5 e5 ⊢
        have hk6 := s5 _ _ hk4
        have hf6 := s5 _ _ hf4
        have s06 := s04.trans s5
        have hK6 : HasK E D (del H6 fl) k o := hK4.same (del_mono s5)
        have eat : ((encs pre).length : Int) + 1 + 1 + ((vI c.row).length : Nat) = ((encs (pre ++ [c])).length : Nat) := by
          rw [enc2, List.length_append, ee, List.length_map]
          simp
          omega
        refine ⟨_, rfl, _, 1, rfl, rfl, _, rfl, b1, _, rfl, .inl (SqL.of e5), _, _, rfl, rfl, ?_⟩
        refine ⟨fl, _, hf6, _, rfl, _, rfl, _, rfl, _, rfl, k, b1, o, c.i, c.n, c.row, by rw [n0], gc.lt, (hK6).same del_upd, wo, (upd_ne nb1).trans e5, gc.rl, fun H5 p pn kp5 hk5 hp5 => ?_⟩
        have nfk : fl ≠ k := fun e => by
          have h5 := hf6
          rw [e, (hk6)] at h5
          cases h5
        have hx5 : H5 fl = some (.ext (lstφ fl (vI (PyFlat.told done)))) := kp5 _ _ upd_same nfk
        have hpf : p ≠ fl := fun e => by rw [e, upd_same] at pn; cases pn
        refine ⟨hx5, ?_⟩
        refine ⟨_, rfl, ty_list upd_same, _, rfl, p, _, rfl, .inl (SqL.of ((upd_ne hpf).trans hp5)), fl, _, _, rfl, rfl, upd_same, by rw [List.length_map, big]; omega, ?_⟩
        refine ⟨_, rfl, ty_list upd_same, _, rfl, fl, p, _, _, rfl, rfl, upd_same, (upd_ne hpf).trans ((upd_ne hpf).trans hp5), by rw [List.length_append, List.length_map, List.length_map, big]; show _ + 1 + _ ≤ _; omega, ?_⟩
        refine ⟨pre ++ [c], post, (ansF c.i o c.n c.row).2, done ++ [(ansF c.i o c.n c.row).1], some (.int (c.i : Int)), some (.int 0), some (.ref b1), some (.ref p), by rw [← eat]; rfl, by rw [hcs, List.append_assoc]; rfl, ?_, ?_, ansF_wf wo, ?_, ?_, rfl⟩
        · intro b u hb
          have nk : b ≠ k := fun e => by rw [e, hk] at hb; cases hb
          have nf : b ≠ fl := fun e => by rw [e, hfl0] at hb; cases hb
          rw [upd_ne nf, upd_ne nf, upd_ne nf]
          exact kp5 _ _ ((upd_ne nf).trans (s06 _ _ hb)) nk
        · rw [del_of_upd, del_of_upd, del_of_upd]
          exact (sees_ext hx5).hasK hk5
        · rw [upd_same, told_app, told_one]
          simp [vI]
        · rw [← hpl, List.append_assoc]
          rfl
      · have ee : c.enc = [(c.i : Int)] := (if_neg hN1).trans (if_neg hL1)
        refine ifN (by show inV (.int (c.i : Int)) (vI withL) = false; rw [inV_int]; exact decide_eq_false hL1) ?_
        have hrow : c.row = [] := gc.r0 hL1
        have er4 : H4 b0 = some (.lst (vI c.row)) := by rw [hrow]; exact e4
        have eat : ((encs pre).length : Int) + 1 = ((encs (pre ++ [c])).length : Nat) := by rw [enc2, List.length_append, ee]; rfl
        refine ⟨fl, _, hf4, _, rfl, _, rfl, _, rfl, _, rfl, k, b0, o, c.i, c.n, c.row, by rw [n0], gc.lt, (hK4).same del_upd, wo, (upd_ne nb0).trans er4, gc.rl, fun H5 p pn kp5 hk5 hp5 => ?_⟩
        have nfk : fl ≠ k := fun e => by
          have h5 := hf4
          rw [e, (hk4)] at h5
          cases h5
        have hx5 : H5 fl = some (.ext (lstφ fl (vI (PyFlat.told done)))) := kp5 _ _ upd_same nfk
        have hpf : p ≠ fl := fun e => by rw [e, upd_same] at pn; cases pn
        refine ⟨hx5, ?_⟩
        refine ⟨_, rfl, ty_list upd_same, _, rfl, p, _, rfl, .inl (SqL.of ((upd_ne hpf).trans hp5)), fl, _, _, rfl, rfl, upd_same, by rw [List.length_map, big]; omega, ?_⟩
        refine ⟨_, rfl, ty_list upd_same, _, rfl, fl, p, _, _, rfl, rfl, upd_same, (upd_ne hpf).trans ((upd_ne hpf).trans hp5), by rw [List.length_append, List.length_map, List.length_map, big]; show _ + 1 + _ ≤ _; omega, ?_⟩
        refine ⟨pre ++ [c], post, (ansF c.i o c.n c.row).2, done ++ [(ansF c.i o c.n c.row).1], some (.int (c.i : Int)), some (.int 0), some (.ref b0), some (.ref p), by rw [← eat]; rfl, by rw [hcs, List.append_assoc]; rfl, ?_, ?_, ansF_wf wo, ?_, ?_, rfl⟩
        · intro b u hb
          have nk : b ≠ k := fun e => by rw [e, hk] at hb; cases hb
          have nf : b ≠ fl := fun e => by rw [e, hfl0] at hb; cases hb
          rw [upd_ne nf, upd_ne nf, upd_ne nf]
          exact kp5 _ _ ((upd_ne nf).trans (s04 _ _ hb)) nk
        · rw [del_of_upd, del_of_upd, del_of_upd]
          exact (sees_ext hx5).hasK hk5
        · rw [upd_same, told_app, told_one]
          simp [vI]
        · rw [← hpl, List.append_assoc]
          rfl
end
end Bd
set_option maxRecDepth 100000
set_option maxHeartbeats 8000000
namespace Bd
open PySem PySem.Spec PyProof.Rows L2
/-! # The end: what the top has written -/
theorem exm_is {K : PySem.W.Frag} {S C : Addr} {b : Bool} (h1 : PySem.W.subIn K (.ref C) (.type "BaseException") = some true) (h2 : PySem.W.isClsIn K C = true) (h3 : PySem.W.typeIn K (.ref C) = some (.type "type")) (h4 : PySem.W.subIn K (.ref S) (.ref C) = some b) :
    PySem.W.exmOne K (.ref S) (.ref C) = some b := by
  have g1 : (PySem.W.subIn K (.ref C) (.type "BaseException") == some true) = true := by rw [h1]; rfl
  have g2 : ((PySem.W.clsIn K C).isSome && PySem.W.typeIn K (.ref C) == some (.type "type")) = true := by rw [show (PySem.W.clsIn K C).isSome = true from h2, h3]; rfl
  unfold PySem.W.exmOne
  rw [if_pos g1]
  show (if ((PySem.W.clsIn K C).isSome && PySem.W.typeIn K (.ref C) == some (.type "type")) = true then PySem.W.subIn K (.ref S) (.ref C) else none) = some b
  rw [if_pos g2]
  exact h4
theorem tup_at {K : PySem.W.Frag} {a : Addr} {xs : List V} {d : Option Addr} {its : Array Value} {n : Nat} {sl : Array (Option Value)} (h : K.lookup a = some ⟨.type "tuple", d, .seq its n, sl⟩) (hz : its.size ≤ 100) (r : Vals xs its.toList) : ∀ H, SqT K H a xs :=
  fun H => .inr ⟨_, its, n, h, rfl, rfl, Nat.le_trans hz (by rw [sizeLine_eq]; decide), r⟩
theorem val_int {i : Int} {t : Tok} : RelV (.int i) (.int i t) := ⟨t, rfl⟩
theorem deeds_of {P : Program} {w : World} {K : PySem.W.Frag} {mg : Str → Option Value} {base : Heap} {E D R N L : Addr} {f0 f1 f2 f3 f4 f5 f6 f7 f8 f9 f10 f11 f12 f13 f14 f15 f16 f17 f18 f19 f20 f21 f22 f23 : Addr}
    (h0 : Fal P w K mg base (L2.CX P w) 14 f0 ["desk", "number", "row"] (spCreate E D R N L))
    (h1 : Fal P w K mg base (L2.CX P w) 14 f1 ["desk", "number", "row"] (spDeed E D R N L dAdd))
    (h2 : Fal P w K mg base (L2.CX P w) 14 f2 ["desk", "number", "row"] (spDeed E D R N L dRem))
    (h3 : Fal P w K mg base (L2.CX P w) 14 f3 ["desk", "number", "row"] (spDeed E D R N L dGet))
    (h4 : Fal P w K mg base (L2.CX P w) 14 f4 ["desk", "number", "row"] (spDeed E D R N L dSet))
    (h5 : Fal P w K mg base (L2.CX P w) 14 f5 ["desk", "number", "row"] (spDeed E D R N L dCnt))
    (h6 : Fal P w K mg base (L2.CX P w) 14 f6 ["desk", "number", "row"] (spDeed E D R N L dInf))
    (h7 : Fal P w K mg base (L2.CX P w) 14 f7 ["desk", "number", "row"] (spDeed E D R N L dDet))
    (h8 : Fal P w K mg base (L2.CX P w) 14 f8 ["desk", "number", "row"] (spDeed E D R N L dTr))
    (h9 : Fal P w K mg base (L2.CX P w) 14 f9 ["desk", "number", "row"] (spDeed E D R N L dVar))
    (h10 : Fal P w K mg base (L2.CX P w) 14 f10 ["desk", "number", "row"] (spDeed E D R N L dCV))
    (h11 : Fal P w K mg base (L2.CX P w) 14 f11 ["desk", "number", "row"] (spDeed E D R N L dOpt))
    (h12 : Fal P w K mg base (L2.CX P w) 14 f12 ["desk", "number", "row"] (spDeed E D R N L dBnd))
    (h13 : Fal P w K mg base (L2.CX P w) 14 f13 ["desk", "number", "row"] (spDeed E D R N L dExch))
    (h14 : Fal P w K mg base (L2.CX P w) 14 f14 ["desk", "number", "row"] (spDeed E D R N L dImp))
    (h15 : Fal P w K mg base (L2.CX P w) 14 f15 ["desk", "number", "row"] (spDeed E D R N L dAddR))
    (h16 : Fal P w K mg base (L2.CX P w) 14 f16 ["desk", "number", "row"] (spDeed E D R N L dRemR))
    (h17 : Fal P w K mg base (L2.CX P w) 14 f17 ["desk", "number", "row"] (spDeed E D R N L dBest))
    (h18 : Fal P w K mg base (L2.CX P w) 14 f18 ["desk", "number", "row"] (spDeed E D R N L dBT))
    (h19 : Fal P w K mg base (L2.CX P w) 14 f19 ["desk", "number", "row"] (spDeed E D R N L dTake))
    (h20 : Fal P w K mg base (L2.CX P w) 14 f20 ["desk", "number", "row"] (spDeed E D R N L dWts))
    (h21 : Fal P w K mg base (L2.CX P w) 14 f21 ["desk", "number", "row"] (spDeed E D R N L dCmp))
    (h22 : Fal P w K mg base (L2.CX P w) 14 f22 ["desk", "number", "row"] (spDeed E D R N L dGood))
    (h23 : Fal P w K mg base (L2.CX P w) 14 f23 ["desk", "number", "row"] (spDeed E D R N L dSum))
    : Deeds P w K mg base E D R N L [f0, f1, f2, f3, f4, f5, f6, f7, f8, f9, f10, f11, f12, f13, f14, f15, f16, f17, f18, f19, f20, f21, f22, f23] := by
  refine ⟨rfl, fun f e => (by cases e; exact h0), fun i F f g1 g2 g3 => ?_⟩
  match i, g1, g2, g3 with
  | 0, g1, _, _ => exact absurd g1 (by decide)
  | 1, _, g2, g3 => cases g2; cases g3; exact h1
  | 2, _, g2, g3 => cases g2; cases g3; exact h2
  | 3, _, g2, g3 => cases g2; cases g3; exact h3
  | 4, _, g2, g3 => cases g2; cases g3; exact h4
  | 5, _, g2, g3 => cases g2; cases g3; exact h5
  | 6, _, g2, g3 => cases g2; cases g3; exact h6
  | 7, _, g2, g3 => cases g2; cases g3; exact h7
  | 8, _, g2, g3 => cases g2; cases g3; exact h8
  | 9, _, g2, g3 => cases g2; cases g3; exact h9
  | 10, _, g2, g3 => cases g2; cases g3; exact h10
  | 11, _, g2, g3 => cases g2; cases g3; exact h11
  | 12, _, g2, g3 => cases g2; cases g3; exact h12
  | 13, _, g2, g3 => cases g2; cases g3; exact h13
  | 14, _, g2, g3 => cases g2; cases g3; exact h14
  | 15, _, g2, g3 => cases g2; cases g3; exact h15
  | 16, _, g2, g3 => cases g2; cases g3; exact h16
  | 17, _, g2, g3 => cases g2; cases g3; exact h17
  | 18, _, g2, g3 => cases g2; cases g3; exact h18
  | 19, _, g2, g3 => cases g2; cases g3; exact h19
  | 20, _, g2, g3 => cases g2; cases g3; exact h20
  | 21, _, g2, g3 => cases g2; cases g3; exact h21
  | 22, _, g2, g3 => cases g2; cases g3; exact h22
  | 23, _, g2, g3 => cases g2; cases g3; exact h23
  | n + 24, _, g2, _ => cases g2
theorem all_mk {P : Program} {w : World} {K : PySem.W.Frag} {h : Heap} {mg : Str → Option Value} {fa D E R N L : Addr} (X : K.In h) (G : h.Ns mainGlobals mg) (hfa : mg "answers" = some (.ref fa))
    {f_common f_ratio f_plus f_times f_is_less f_moved f_nothing f_information f_less f_without f_determinant f_cofactor f_cofactors f_weighed f_variance f_trace f_chosen f_all_places f_has_no_negative_minor f_Design_init f_Design_size f_Design_with_counts f_Design_matrix f_Design_worth f_Design_regular_matrix f_Design_own_trace f_Design_variances f_Design_worst f_power f_Design_bound f_stepped f_exchanged f_best_exchange f_best_step f_lists_of f_all_counts f_regular_designs f_best_design f_best_by_trace f_shared_below f_stepped_on f_weights_behind f_Refused_init f_need f_need_range f_told f_sign_of f_Desk_init f_Desk_need_row f_Desk_need_counts f_Desk_need_candidate f_create f_add_candidate f_remove_candidate f_get_candidate f_set_counts f_ask_counts f_ask_determinant f_summary f_ask_information f_ask_trace f_ask_variance f_candidate_variances f_ask_bound f_exchange f_improve f_is_optimal f_take_step f_add f_remove f_best f_take_best f_ask_best_by_trace f_ask_weights f_compare f_is_at_least_as_good f_answer f_answers : Addr} {od_common od_ratio od_plus od_times od_is_less od_moved od_nothing od_information od_less od_without od_determinant od_cofactor od_cofactors od_weighed od_variance od_trace od_chosen od_all_places od_has_no_negative_minor od_Design_init od_Design_size od_Design_with_counts od_Design_matrix od_Design_worth od_Design_regular_matrix od_Design_own_trace od_Design_variances od_Design_worst od_power od_Design_bound od_stepped od_exchanged od_best_exchange od_best_step od_lists_of od_all_counts od_regular_designs od_best_design od_best_by_trace od_shared_below od_stepped_on od_weights_behind od_Refused_init od_need od_need_range od_told od_sign_of od_Desk_init od_Desk_need_row od_Desk_need_counts od_Desk_need_candidate od_create od_add_candidate od_remove_candidate od_get_candidate od_set_counts od_ask_counts od_ask_determinant od_summary od_ask_information od_ask_trace od_ask_variance od_candidate_variances od_ask_bound od_exchange od_improve od_is_optimal od_take_step od_add od_remove od_best od_take_best od_ask_best_by_trace od_ask_weights od_compare od_is_at_least_as_good od_answer od_answers an_common an_ratio an_plus an_times an_is_less an_moved an_nothing an_information an_less an_without an_determinant an_cofactor an_cofactors an_weighed an_variance an_trace an_chosen an_all_places an_has_no_negative_minor an_Design_init an_Design_size an_Design_with_counts an_Design_matrix an_Design_worth an_Design_regular_matrix an_Design_own_trace an_Design_variances an_Design_worst an_power an_Design_bound an_stepped an_exchanged an_best_exchange an_best_step an_lists_of an_all_counts an_regular_designs an_best_design an_best_by_trace an_shared_below an_stepped_on an_weights_behind an_Refused_init an_need an_need_range an_told an_sign_of an_Desk_init an_Desk_need_row an_Desk_need_counts an_Desk_need_candidate an_create an_add_candidate an_remove_candidate an_get_candidate an_set_counts an_ask_counts an_ask_determinant an_summary an_ask_information an_ask_trace an_ask_variance an_candidate_variances an_ask_bound an_exchange an_improve an_is_optimal an_take_step an_add an_remove an_best an_take_best an_ask_best_by_trace an_ask_weights an_compare an_is_at_least_as_good an_answer an_answers : Option Addr} {sl_ot_common sl_ot_ratio sl_ot_plus sl_ot_times sl_ot_is_less sl_ot_moved sl_ot_nothing sl_ot_information sl_ot_less sl_ot_without sl_ot_determinant sl_ot_cofactor sl_ot_cofactors sl_ot_weighed sl_ot_variance sl_ot_trace sl_ot_chosen sl_ot_all_places sl_ot_has_no_negative_minor sl_ot_Design_init sl_ot_Design_size sl_ot_Design_with_counts sl_ot_Design_matrix sl_ot_Design_worth sl_ot_Design_regular_matrix sl_ot_Design_own_trace sl_ot_Design_variances sl_ot_Design_worst sl_ot_power sl_ot_Design_bound sl_ot_stepped sl_ot_exchanged sl_ot_best_exchange sl_ot_best_step sl_ot_lists_of sl_ot_all_counts sl_ot_regular_designs sl_ot_best_design sl_ot_best_by_trace sl_ot_shared_below sl_ot_stepped_on sl_ot_weights_behind sl_ot_Refused_init sl_ot_need sl_ot_need_range sl_ot_told sl_ot_sign_of sl_ot_Desk_init sl_ot_Desk_need_row sl_ot_Desk_need_counts sl_ot_Desk_need_candidate sl_ot_create sl_ot_add_candidate sl_ot_remove_candidate sl_ot_get_candidate sl_ot_set_counts sl_ot_ask_counts sl_ot_ask_determinant sl_ot_summary sl_ot_ask_information sl_ot_ask_trace sl_ot_ask_variance sl_ot_candidate_variances sl_ot_ask_bound sl_ot_exchange sl_ot_improve sl_ot_is_optimal sl_ot_take_step sl_ot_add sl_ot_remove sl_ot_best sl_ot_take_best sl_ot_ask_best_by_trace sl_ot_ask_weights sl_ot_compare sl_ot_is_at_least_as_good sl_ot_answer sl_ot_answers : Array (Option Value)} {oc_common oc_ratio oc_plus oc_times oc_is_less oc_moved oc_nothing oc_information oc_less oc_without oc_determinant oc_cofactor oc_cofactors oc_weighed oc_variance oc_trace oc_chosen oc_all_places oc_has_no_negative_minor oc_Design_init oc_Design_size oc_Design_with_counts oc_Design_matrix oc_Design_worth oc_Design_regular_matrix oc_Design_own_trace oc_Design_variances oc_Design_worst oc_power oc_Design_bound oc_stepped oc_exchanged oc_best_exchange oc_best_step oc_lists_of oc_all_counts oc_regular_designs oc_best_design oc_best_by_trace oc_shared_below oc_stepped_on oc_weights_behind oc_Refused_init oc_need oc_need_range oc_told oc_sign_of oc_Desk_init oc_Desk_need_row oc_Desk_need_counts oc_Desk_need_candidate oc_create oc_add_candidate oc_remove_candidate oc_get_candidate oc_set_counts oc_ask_counts oc_ask_determinant oc_summary oc_ask_information oc_ask_trace oc_ask_variance oc_candidate_variances oc_ask_bound oc_exchange oc_improve oc_is_optimal oc_take_step oc_add oc_remove oc_best oc_take_best oc_ask_best_by_trace oc_ask_weights oc_compare oc_is_at_least_as_good oc_answer oc_answers kv_common kv_ratio kv_plus kv_times kv_is_less kv_moved kv_nothing kv_information kv_less kv_without kv_determinant kv_cofactor kv_cofactors kv_weighed kv_variance kv_trace kv_chosen kv_all_places kv_has_no_negative_minor kv_Design_init kv_Design_size kv_Design_with_counts kv_Design_matrix kv_Design_worth kv_Design_regular_matrix kv_Design_own_trace kv_Design_variances kv_Design_worst kv_power kv_Design_bound kv_stepped kv_exchanged kv_best_exchange kv_best_step kv_lists_of kv_all_counts kv_regular_designs kv_best_design kv_best_by_trace kv_shared_below kv_stepped_on kv_weights_behind kv_Refused_init kv_need kv_need_range kv_told kv_sign_of kv_Desk_init kv_Desk_need_row kv_Desk_need_counts kv_Desk_need_candidate kv_create kv_add_candidate kv_remove_candidate kv_get_candidate kv_set_counts kv_ask_counts kv_ask_determinant kv_summary kv_ask_information kv_ask_trace kv_ask_variance kv_candidate_variances kv_ask_bound kv_exchange kv_improve kv_is_optimal kv_take_step kv_add kv_remove kv_best kv_take_best kv_ask_best_by_trace kv_ask_weights kv_compare kv_is_at_least_as_good kv_answer kv_answers dc_common dc_ratio dc_plus dc_times dc_is_less dc_moved dc_nothing dc_information dc_less dc_without dc_determinant dc_cofactor dc_cofactors dc_weighed dc_variance dc_trace dc_chosen dc_all_places dc_has_no_negative_minor dc_Design_init dc_Design_size dc_Design_with_counts dc_Design_matrix dc_Design_worth dc_Design_regular_matrix dc_Design_own_trace dc_Design_variances dc_Design_worst dc_power dc_Design_bound dc_stepped dc_exchanged dc_best_exchange dc_best_step dc_lists_of dc_all_counts dc_regular_designs dc_best_design dc_best_by_trace dc_shared_below dc_stepped_on dc_weights_behind dc_Refused_init dc_need dc_need_range dc_told dc_sign_of dc_Desk_init dc_Desk_need_row dc_Desk_need_counts dc_Desk_need_candidate dc_create dc_add_candidate dc_remove_candidate dc_get_candidate dc_set_counts dc_ask_counts dc_ask_determinant dc_summary dc_ask_information dc_ask_trace dc_ask_variance dc_candidate_variances dc_ask_bound dc_exchange dc_improve dc_is_optimal dc_take_step dc_add dc_remove dc_best dc_take_best dc_ask_best_by_trace dc_ask_weights dc_compare dc_is_at_least_as_good dc_answer dc_answers pm_common pm_ratio pm_plus pm_times pm_is_less pm_moved pm_nothing pm_information pm_less pm_without pm_determinant pm_cofactor pm_cofactors pm_weighed pm_variance pm_trace pm_chosen pm_all_places pm_has_no_negative_minor pm_Design_init pm_Design_size pm_Design_with_counts pm_Design_matrix pm_Design_worth pm_Design_regular_matrix pm_Design_own_trace pm_Design_variances pm_Design_worst pm_power pm_Design_bound pm_stepped pm_exchanged pm_best_exchange pm_best_step pm_lists_of pm_all_counts pm_regular_designs pm_best_design pm_best_by_trace pm_shared_below pm_stepped_on pm_weights_behind pm_Refused_init pm_need pm_need_range pm_told pm_sign_of pm_Desk_init pm_Desk_need_row pm_Desk_need_counts pm_Desk_need_candidate pm_create pm_add_candidate pm_remove_candidate pm_get_candidate pm_set_counts pm_ask_counts pm_ask_determinant pm_summary pm_ask_information pm_ask_trace pm_ask_variance pm_candidate_variances pm_ask_bound pm_exchange pm_improve pm_is_optimal pm_take_step pm_add pm_remove pm_best pm_take_best pm_ask_best_by_trace pm_ask_weights pm_compare pm_is_at_least_as_good pm_answer pm_answers cd_common cd_ratio cd_plus cd_times cd_is_less cd_moved cd_nothing cd_information cd_less cd_without cd_determinant cd_cofactor cd_cofactors cd_weighed cd_variance cd_trace cd_chosen cd_all_places cd_has_no_negative_minor cd_Design_init cd_Design_size cd_Design_with_counts cd_Design_matrix cd_Design_worth cd_Design_regular_matrix cd_Design_own_trace cd_Design_variances cd_Design_worst cd_power cd_Design_bound cd_stepped cd_exchanged cd_best_exchange cd_best_step cd_lists_of cd_all_counts cd_regular_designs cd_best_design cd_best_by_trace cd_shared_below cd_stepped_on cd_weights_behind cd_Refused_init cd_need cd_need_range cd_told cd_sign_of cd_Desk_init cd_Desk_need_row cd_Desk_need_counts cd_Desk_need_candidate cd_create cd_add_candidate cd_remove_candidate cd_get_candidate cd_set_counts cd_ask_counts cd_ask_determinant cd_summary cd_ask_information cd_ask_trace cd_ask_variance cd_candidate_variances cd_ask_bound cd_exchange cd_improve cd_is_optimal cd_take_step cd_add cd_remove cd_best cd_take_best cd_ask_best_by_trace cd_ask_weights cd_compare cd_is_at_least_as_good cd_answer cd_answers ct_common ct_ratio ct_plus ct_times ct_is_less ct_moved ct_nothing ct_information ct_less ct_without ct_determinant ct_cofactor ct_cofactors ct_weighed ct_variance ct_trace ct_chosen ct_all_places ct_has_no_negative_minor ct_Design_init ct_Design_size ct_Design_with_counts ct_Design_matrix ct_Design_worth ct_Design_regular_matrix ct_Design_own_trace ct_Design_variances ct_Design_worst ct_power ct_Design_bound ct_stepped ct_exchanged ct_best_exchange ct_best_step ct_lists_of ct_all_counts ct_regular_designs ct_best_design ct_best_by_trace ct_shared_below ct_stepped_on ct_weights_behind ct_Refused_init ct_need ct_need_range ct_told ct_sign_of ct_Desk_init ct_Desk_need_row ct_Desk_need_counts ct_Desk_need_candidate ct_create ct_add_candidate ct_remove_candidate ct_get_candidate ct_set_counts ct_ask_counts ct_ask_determinant ct_summary ct_ask_information ct_ask_trace ct_ask_variance ct_candidate_variances ct_ask_bound ct_exchange ct_improve ct_is_optimal ct_take_step ct_add ct_remove ct_best ct_take_best ct_ask_best_by_trace ct_ask_weights ct_compare ct_is_at_least_as_good ct_answer ct_answers : Value}
    {nmR qnR : Str} {nsR : Addr} {bsR : List Value} {snR : List Str} {subR : List Value} {abR : Bool} {colR : Option Bool} {ddR : Option Addr} {m0 m1 m2 m3 m5 : Option Value}
    {u_MOST_COUNT u_MOST_LISTS u_NO_DESIGN u_NO_CANDIDATE u_THERE_ALREADY u_OUT_OF_RANGE u_TOO_MANY u_NOT_THERE u_CREATE u_MOST_COLUMNS u_MOST_ENTRY u_MOST_CANDIDATES u_MOST_SIZE u_MOST_BOUND u_MOST_LIMIT u_MOST_STEPS w_NOUGHT0 w_NOUGHT1 w_WITH_NUMBER0 w_WITH_NUMBER1 w_WITH_NUMBER2 w_WITH_NUMBER3 w_WITH_NUMBER4 w_WITH_NUMBER5 w_WITH_NUMBER6 w_WITH_NUMBER7 w_WITH_NUMBER8 w_WITH_LIST0 w_WITH_LIST1 w_WITH_LIST2 w_WITH_LIST3 w_WITH_LIST4 : Tok} {p_NOUGHT p_WITH_NUMBER p_WITH_LIST p_DEEDS : Addr} {e_NOUGHT e_WITH_NUMBER e_WITH_LIST e_DEEDS : Option Addr} {z_NOUGHT z_WITH_NUMBER z_WITH_LIST z_DEEDS : Nat} {l_NOUGHT l_WITH_NUMBER l_WITH_LIST l_DEEDS : Array (Option Value)}
    (aD : PySem.W.nsIn K mainGlobals "Design" = some (some (.ref D)))
    (aE : PySem.W.nsIn K mainGlobals "Desk" = some (some (.ref E)))
    (aR : PySem.W.nsIn K mainGlobals "Refused" = some (some (.ref R)))
    (aN : PySem.W.nsIn K mainGlobals "NotRegular" = some (some (.ref N)))
    (aL : PySem.W.nsIn K mainGlobals "TooLarge" = some (some (.ref L)))
    (pgD : PySem.W.plainGet K D Str.empty = true)
    (hdD : PySem.W.hasDictIn K D = true)
    (poD : PySem.W.plainOver K D = true)
    (saD : PySem.W.findIn K (.ref D) "__setattr__" = some (some (.builtin "object.__setattr__")))
    (mkD : PySem.W.makesIn K D = true)
    (kcD : PySem.W.keepIn K (.ref D) = true)
    (pgE : PySem.W.plainGet K E Str.empty = true)
    (hdE : PySem.W.hasDictIn K E = true)
    (poE : PySem.W.plainOver K E = true)
    (saE : PySem.W.findIn K (.ref E) "__setattr__" = some (some (.builtin "object.__setattr__")))
    (mkE : PySem.W.makesIn K E = true)
    (kcE : PySem.W.keepIn K (.ref E) = true)
    (dc : PySem.W.findIn K (.ref D) "columns" = some none)
    (dr : PySem.W.findIn K (.ref D) "rows" = some none)
    (dn : PySem.W.findIn K (.ref D) "counts" = some none)
    (ed : PySem.W.findIn K (.ref E) "design" = some none)
    (rc : PySem.W.findIn K (.ref R) "code" = some none)
    (xR : K.lookup R = some (excClassObj nmR qnR R nsR bsR [.type "ValueError", .type "Exception", .type "BaseException", .type "object"] true snR subR abR colR ddR m0 m1 m2 m3 m5 "ValueError.__new__"))
    (saR : PySem.W.findIn K (.ref R) "__setattr__" = some (some (.builtin "object.__setattr__")))
    (gaR : PySem.W.findIn K (.ref R) "__getattribute__" = some (some (.builtin "BaseException.__getattribute__")))
    (ggR : PySem.W.findIn K (.ref R) "__getattr__" = some none)
    (hdR : PySem.W.hasDictIn K R = true)
    (kR : PySem.W.keepIn K (.ref R) = true)
    (bR : PySem.W.subIn K (.ref R) (.type "BaseException") = some true)
    (tR : PySem.W.typeIn K (.ref R) = some (.type "type"))
    (iR : PySem.W.isClsIn K R = true)
    (xN : PySem.W.excIn K N [.type "ValueError", .type "Exception", .type "BaseException", .type "object"] "ValueError.__new__" = true)
    (kN : PySem.W.keepIn K (.ref N) = true)
    (bN : PySem.W.subIn K (.ref N) (.type "BaseException") = some true)
    (tN : PySem.W.typeIn K (.ref N) = some (.type "type"))
    (iN : PySem.W.isClsIn K N = true)
    (xL : PySem.W.excIn K L [.type "ValueError", .type "Exception", .type "BaseException", .type "object"] "ValueError.__new__" = true)
    (kL : PySem.W.keepIn K (.ref L) = true)
    (bL : PySem.W.subIn K (.ref L) (.type "BaseException") = some true)
    (tL : PySem.W.typeIn K (.ref L) = some (.type "type"))
    (iL : PySem.W.isClsIn K L = true)
    (sRR : PySem.W.subIn K (.ref R) (.ref R) = some true)
    (sNR : PySem.W.subIn K (.ref N) (.ref R) = some false)
    (sNN : PySem.W.subIn K (.ref N) (.ref N) = some true)
    (sLR : PySem.W.subIn K (.ref L) (.ref R) = some false)
    (sLN : PySem.W.subIn K (.ref L) (.ref N) = some false)
    (sLL : PySem.W.subIn K (.ref L) (.ref L) = some true)
    (vV : PySem.W.findCls K (.type "ValueError") (.type "type") "__init__" = some (.val (.builtin "ValueError.__init__")))
    (n_len : PySem.W.nsIn K mainGlobals "len" = some none)
    (n_abs : PySem.W.nsIn K mainGlobals "abs" = some none)
    (n_sum : PySem.W.nsIn K mainGlobals "sum" = some none)
    (n_all : PySem.W.nsIn K mainGlobals "all" = some none)
    (n_int : PySem.W.nsIn K mainGlobals "int" = some none)
    (n_list : PySem.W.nsIn K mainGlobals "list" = some none)
    (n_range : PySem.W.nsIn K mainGlobals "range" = some none)
    (n_zip : PySem.W.nsIn K mainGlobals "zip" = some none)
    (n_enumerate : PySem.W.nsIn K mainGlobals "enumerate" = some none)
    (n_ValueError : PySem.W.nsIn K mainGlobals "ValueError" = some none)
    (i_MOST_COUNT : PySem.W.nsIn K mainGlobals "MOST_COUNT" = some (some (.int 20 u_MOST_COUNT)))
    (i_MOST_LISTS : PySem.W.nsIn K mainGlobals "MOST_LISTS" = some (some (.int 500 u_MOST_LISTS)))
    (i_NO_DESIGN : PySem.W.nsIn K mainGlobals "NO_DESIGN" = some (some (.int (-11) u_NO_DESIGN)))
    (i_NO_CANDIDATE : PySem.W.nsIn K mainGlobals "NO_CANDIDATE" = some (some (.int (-2) u_NO_CANDIDATE)))
    (i_THERE_ALREADY : PySem.W.nsIn K mainGlobals "THERE_ALREADY" = some (some (.int (-17) u_THERE_ALREADY)))
    (i_OUT_OF_RANGE : PySem.W.nsIn K mainGlobals "OUT_OF_RANGE" = some (some (.int (-22) u_OUT_OF_RANGE)))
    (i_TOO_MANY : PySem.W.nsIn K mainGlobals "TOO_MANY" = some (some (.int (-28) u_TOO_MANY)))
    (i_NOT_THERE : PySem.W.nsIn K mainGlobals "NOT_THERE" = some (some (.int (-33) u_NOT_THERE)))
    (i_CREATE : PySem.W.nsIn K mainGlobals "CREATE" = some (some (.int 0 u_CREATE)))
    (i_MOST_COLUMNS : PySem.W.nsIn K mainGlobals "MOST_COLUMNS" = some (some (.int 4 u_MOST_COLUMNS)))
    (i_MOST_ENTRY : PySem.W.nsIn K mainGlobals "MOST_ENTRY" = some (some (.int 10 u_MOST_ENTRY)))
    (i_MOST_CANDIDATES : PySem.W.nsIn K mainGlobals "MOST_CANDIDATES" = some (some (.int 10 u_MOST_CANDIDATES)))
    (i_MOST_SIZE : PySem.W.nsIn K mainGlobals "MOST_SIZE" = some (some (.int 20 u_MOST_SIZE)))
    (i_MOST_BOUND : PySem.W.nsIn K mainGlobals "MOST_BOUND" = some (some (.int 100 u_MOST_BOUND)))
    (i_MOST_LIMIT : PySem.W.nsIn K mainGlobals "MOST_LIMIT" = some (some (.int 20 u_MOST_LIMIT)))
    (i_MOST_STEPS : PySem.W.nsIn K mainGlobals "MOST_STEPS" = some (some (.int 3 u_MOST_STEPS)))
    (g_NOUGHT : PySem.W.nsIn K mainGlobals "NOUGHT" = some (some (.ref p_NOUGHT)))
    (r_NOUGHT : K.lookup p_NOUGHT = some ⟨.type "tuple", e_NOUGHT, .seq #[.int 0 w_NOUGHT0, .int 1 w_NOUGHT1] z_NOUGHT, l_NOUGHT⟩)
    (g_WITH_NUMBER : PySem.W.nsIn K mainGlobals "WITH_NUMBER" = some (some (.ref p_WITH_NUMBER)))
    (r_WITH_NUMBER : K.lookup p_WITH_NUMBER = some ⟨.type "tuple", e_WITH_NUMBER, .seq #[.int 0 w_WITH_NUMBER0, .int 2 w_WITH_NUMBER1, .int 3 w_WITH_NUMBER2, .int 12 w_WITH_NUMBER3, .int 14 w_WITH_NUMBER4, .int 17 w_WITH_NUMBER5, .int 18 w_WITH_NUMBER6, .int 19 w_WITH_NUMBER7, .int 20 w_WITH_NUMBER8] z_WITH_NUMBER, l_WITH_NUMBER⟩)
    (g_WITH_LIST : PySem.W.nsIn K mainGlobals "WITH_LIST" = some (some (.ref p_WITH_LIST)))
    (r_WITH_LIST : K.lookup p_WITH_LIST = some ⟨.type "tuple", e_WITH_LIST, .seq #[.int 1 w_WITH_LIST0, .int 4 w_WITH_LIST1, .int 9 w_WITH_LIST2, .int 21 w_WITH_LIST3, .int 22 w_WITH_LIST4] z_WITH_LIST, l_WITH_LIST⟩)
    (g_DEEDS : PySem.W.nsIn K mainGlobals "DEEDS" = some (some (.ref p_DEEDS)))
    (r_DEEDS : K.lookup p_DEEDS = some ⟨.type "tuple", e_DEEDS, .seq #[.ref f_create, .ref f_add_candidate, .ref f_remove_candidate, .ref f_get_candidate, .ref f_set_counts, .ref f_ask_counts, .ref f_ask_information, .ref f_ask_determinant, .ref f_ask_trace, .ref f_ask_variance, .ref f_candidate_variances, .ref f_is_optimal, .ref f_ask_bound, .ref f_exchange, .ref f_improve, .ref f_add, .ref f_remove, .ref f_best, .ref f_ask_best_by_trace, .ref f_take_best, .ref f_ask_weights, .ref f_compare, .ref f_is_at_least_as_good, .ref f_summary] z_DEEDS, l_DEEDS⟩)
    (a_common : PySem.W.nsIn K mainGlobals "common" = some (some (.ref f_common)))
    (l_common : K.lookup f_common = some ⟨oc_common, od_common, .func (PySem.W.fnOf "common" "common" (defArgs s_common) (defBody s_common) (defScope s_common) .none kv_common dc_common pm_common an_common cd_common ct_common), sl_ot_common⟩)
    (c_common : PySem.W.codeIn K cd_common "common" = true)
    (k_common : PySem.W.keepIn K (.ref f_common) = true)
    (a_ratio : PySem.W.nsIn K mainGlobals "ratio" = some (some (.ref f_ratio)))
    (l_ratio : K.lookup f_ratio = some ⟨oc_ratio, od_ratio, .func (PySem.W.fnOf "ratio" "ratio" (defArgs s_ratio) (defBody s_ratio) (defScope s_ratio) .none kv_ratio dc_ratio pm_ratio an_ratio cd_ratio ct_ratio), sl_ot_ratio⟩)
    (c_ratio : PySem.W.codeIn K cd_ratio "ratio" = true)
    (k_ratio : PySem.W.keepIn K (.ref f_ratio) = true)
    (a_plus : PySem.W.nsIn K mainGlobals "plus" = some (some (.ref f_plus)))
    (l_plus : K.lookup f_plus = some ⟨oc_plus, od_plus, .func (PySem.W.fnOf "plus" "plus" (defArgs s_plus) (defBody s_plus) (defScope s_plus) .none kv_plus dc_plus pm_plus an_plus cd_plus ct_plus), sl_ot_plus⟩)
    (c_plus : PySem.W.codeIn K cd_plus "plus" = true)
    (k_plus : PySem.W.keepIn K (.ref f_plus) = true)
    (a_times : PySem.W.nsIn K mainGlobals "times" = some (some (.ref f_times)))
    (l_times : K.lookup f_times = some ⟨oc_times, od_times, .func (PySem.W.fnOf "times" "times" (defArgs s_times) (defBody s_times) (defScope s_times) .none kv_times dc_times pm_times an_times cd_times ct_times), sl_ot_times⟩)
    (c_times : PySem.W.codeIn K cd_times "times" = true)
    (k_times : PySem.W.keepIn K (.ref f_times) = true)
    (a_is_less : PySem.W.nsIn K mainGlobals "is_less" = some (some (.ref f_is_less)))
    (l_is_less : K.lookup f_is_less = some ⟨oc_is_less, od_is_less, .func (PySem.W.fnOf "is_less" "is_less" (defArgs s_is_less) (defBody s_is_less) (defScope s_is_less) .none kv_is_less dc_is_less pm_is_less an_is_less cd_is_less ct_is_less), sl_ot_is_less⟩)
    (c_is_less : PySem.W.codeIn K cd_is_less "is_less" = true)
    (k_is_less : PySem.W.keepIn K (.ref f_is_less) = true)
    (a_moved : PySem.W.nsIn K mainGlobals "moved" = some (some (.ref f_moved)))
    (l_moved : K.lookup f_moved = some ⟨oc_moved, od_moved, .func (PySem.W.fnOf "moved" "moved" (defArgs s_moved) (defBody s_moved) (defScope s_moved) .none kv_moved dc_moved pm_moved an_moved cd_moved ct_moved), sl_ot_moved⟩)
    (c_moved : PySem.W.codeIn K cd_moved "moved" = true)
    (k_moved : PySem.W.keepIn K (.ref f_moved) = true)
    (a_nothing : PySem.W.nsIn K mainGlobals "nothing" = some (some (.ref f_nothing)))
    (l_nothing : K.lookup f_nothing = some ⟨oc_nothing, od_nothing, .func (PySem.W.fnOf "nothing" "nothing" (defArgs s_nothing) (defBody s_nothing) (defScope s_nothing) .none kv_nothing dc_nothing pm_nothing an_nothing cd_nothing ct_nothing), sl_ot_nothing⟩)
    (c_nothing : PySem.W.codeIn K cd_nothing "nothing" = true)
    (k_nothing : PySem.W.keepIn K (.ref f_nothing) = true)
    (a_information : PySem.W.nsIn K mainGlobals "information" = some (some (.ref f_information)))
    (l_information : K.lookup f_information = some ⟨oc_information, od_information, .func (PySem.W.fnOf "information" "information" (defArgs s_information) (defBody s_information) (defScope s_information) .none kv_information dc_information pm_information an_information cd_information ct_information), sl_ot_information⟩)
    (c_information : PySem.W.codeIn K cd_information "information" = true)
    (k_information : PySem.W.keepIn K (.ref f_information) = true)
    (a_less : PySem.W.nsIn K mainGlobals "less" = some (some (.ref f_less)))
    (l_less : K.lookup f_less = some ⟨oc_less, od_less, .func (PySem.W.fnOf "less" "less" (defArgs s_less) (defBody s_less) (defScope s_less) .none kv_less dc_less pm_less an_less cd_less ct_less), sl_ot_less⟩)
    (c_less : PySem.W.codeIn K cd_less "less" = true)
    (k_less : PySem.W.keepIn K (.ref f_less) = true)
    (a_without : PySem.W.nsIn K mainGlobals "without" = some (some (.ref f_without)))
    (l_without : K.lookup f_without = some ⟨oc_without, od_without, .func (PySem.W.fnOf "without" "without" (defArgs s_without) (defBody s_without) (defScope s_without) .none kv_without dc_without pm_without an_without cd_without ct_without), sl_ot_without⟩)
    (c_without : PySem.W.codeIn K cd_without "without" = true)
    (k_without : PySem.W.keepIn K (.ref f_without) = true)
    (a_determinant : PySem.W.nsIn K mainGlobals "determinant" = some (some (.ref f_determinant)))
    (l_determinant : K.lookup f_determinant = some ⟨oc_determinant, od_determinant, .func (PySem.W.fnOf "determinant" "determinant" (defArgs s_determinant) (defBody s_determinant) (defScope s_determinant) .none kv_determinant dc_determinant pm_determinant an_determinant cd_determinant ct_determinant), sl_ot_determinant⟩)
    (c_determinant : PySem.W.codeIn K cd_determinant "determinant" = true)
    (k_determinant : PySem.W.keepIn K (.ref f_determinant) = true)
    (a_cofactor : PySem.W.nsIn K mainGlobals "cofactor" = some (some (.ref f_cofactor)))
    (l_cofactor : K.lookup f_cofactor = some ⟨oc_cofactor, od_cofactor, .func (PySem.W.fnOf "cofactor" "cofactor" (defArgs s_cofactor) (defBody s_cofactor) (defScope s_cofactor) .none kv_cofactor dc_cofactor pm_cofactor an_cofactor cd_cofactor ct_cofactor), sl_ot_cofactor⟩)
    (c_cofactor : PySem.W.codeIn K cd_cofactor "cofactor" = true)
    (k_cofactor : PySem.W.keepIn K (.ref f_cofactor) = true)
    (a_cofactors : PySem.W.nsIn K mainGlobals "cofactors" = some (some (.ref f_cofactors)))
    (l_cofactors : K.lookup f_cofactors = some ⟨oc_cofactors, od_cofactors, .func (PySem.W.fnOf "cofactors" "cofactors" (defArgs s_cofactors) (defBody s_cofactors) (defScope s_cofactors) .none kv_cofactors dc_cofactors pm_cofactors an_cofactors cd_cofactors ct_cofactors), sl_ot_cofactors⟩)
    (c_cofactors : PySem.W.codeIn K cd_cofactors "cofactors" = true)
    (k_cofactors : PySem.W.keepIn K (.ref f_cofactors) = true)
    (a_weighed : PySem.W.nsIn K mainGlobals "weighed" = some (some (.ref f_weighed)))
    (l_weighed : K.lookup f_weighed = some ⟨oc_weighed, od_weighed, .func (PySem.W.fnOf "weighed" "weighed" (defArgs s_weighed) (defBody s_weighed) (defScope s_weighed) .none kv_weighed dc_weighed pm_weighed an_weighed cd_weighed ct_weighed), sl_ot_weighed⟩)
    (c_weighed : PySem.W.codeIn K cd_weighed "weighed" = true)
    (k_weighed : PySem.W.keepIn K (.ref f_weighed) = true)
    (a_variance : PySem.W.nsIn K mainGlobals "variance" = some (some (.ref f_variance)))
    (l_variance : K.lookup f_variance = some ⟨oc_variance, od_variance, .func (PySem.W.fnOf "variance" "variance" (defArgs s_variance) (defBody s_variance) (defScope s_variance) .none kv_variance dc_variance pm_variance an_variance cd_variance ct_variance), sl_ot_variance⟩)
    (c_variance : PySem.W.codeIn K cd_variance "variance" = true)
    (k_variance : PySem.W.keepIn K (.ref f_variance) = true)
    (a_trace : PySem.W.nsIn K mainGlobals "trace" = some (some (.ref f_trace)))
    (l_trace : K.lookup f_trace = some ⟨oc_trace, od_trace, .func (PySem.W.fnOf "trace" "trace" (defArgs s_trace) (defBody s_trace) (defScope s_trace) .none kv_trace dc_trace pm_trace an_trace cd_trace ct_trace), sl_ot_trace⟩)
    (c_trace : PySem.W.codeIn K cd_trace "trace" = true)
    (k_trace : PySem.W.keepIn K (.ref f_trace) = true)
    (a_chosen : PySem.W.nsIn K mainGlobals "chosen" = some (some (.ref f_chosen)))
    (l_chosen : K.lookup f_chosen = some ⟨oc_chosen, od_chosen, .func (PySem.W.fnOf "chosen" "chosen" (defArgs s_chosen) (defBody s_chosen) (defScope s_chosen) .none kv_chosen dc_chosen pm_chosen an_chosen cd_chosen ct_chosen), sl_ot_chosen⟩)
    (c_chosen : PySem.W.codeIn K cd_chosen "chosen" = true)
    (k_chosen : PySem.W.keepIn K (.ref f_chosen) = true)
    (a_all_places : PySem.W.nsIn K mainGlobals "all_places" = some (some (.ref f_all_places)))
    (l_all_places : K.lookup f_all_places = some ⟨oc_all_places, od_all_places, .func (PySem.W.fnOf "all_places" "all_places" (defArgs s_all_places) (defBody s_all_places) (defScope s_all_places) .none kv_all_places dc_all_places pm_all_places an_all_places cd_all_places ct_all_places), sl_ot_all_places⟩)
    (c_all_places : PySem.W.codeIn K cd_all_places "all_places" = true)
    (k_all_places : PySem.W.keepIn K (.ref f_all_places) = true)
    (a_has_no_negative_minor : PySem.W.nsIn K mainGlobals "has_no_negative_minor" = some (some (.ref f_has_no_negative_minor)))
    (l_has_no_negative_minor : K.lookup f_has_no_negative_minor = some ⟨oc_has_no_negative_minor, od_has_no_negative_minor, .func (PySem.W.fnOf "has_no_negative_minor" "has_no_negative_minor" (defArgs s_has_no_negative_minor) (defBody s_has_no_negative_minor) (defScope s_has_no_negative_minor) .none kv_has_no_negative_minor dc_has_no_negative_minor pm_has_no_negative_minor an_has_no_negative_minor cd_has_no_negative_minor ct_has_no_negative_minor), sl_ot_has_no_negative_minor⟩)
    (c_has_no_negative_minor : PySem.W.codeIn K cd_has_no_negative_minor "has_no_negative_minor" = true)
    (k_has_no_negative_minor : PySem.W.keepIn K (.ref f_has_no_negative_minor) = true)
    (a_Design_init : PySem.W.findIn K (.ref D) "__init__" = some (some (.ref f_Design_init)))
    (y_Design_init : PySem.W.isFn K (.ref f_Design_init) = true)
    (l_Design_init : K.lookup f_Design_init = some ⟨oc_Design_init, od_Design_init, .func (PySem.W.fnOf "__init__" "Design.__init__" (defArgs s_Design___init__) (defBody s_Design___init__) (defScope s_Design___init__) .none kv_Design_init dc_Design_init pm_Design_init an_Design_init cd_Design_init ct_Design_init), sl_ot_Design_init⟩)
    (c_Design_init : PySem.W.codeIn K cd_Design_init "Design.__init__" = true)
    (k_Design_init : PySem.W.keepIn K (.ref f_Design_init) = true)
    (a_Design_size : PySem.W.findIn K (.ref D) "size" = some (some (.ref f_Design_size)))
    (y_Design_size : PySem.W.isFn K (.ref f_Design_size) = true)
    (l_Design_size : K.lookup f_Design_size = some ⟨oc_Design_size, od_Design_size, .func (PySem.W.fnOf "size" "Design.size" (defArgs s_Design_size) (defBody s_Design_size) (defScope s_Design_size) .none kv_Design_size dc_Design_size pm_Design_size an_Design_size cd_Design_size ct_Design_size), sl_ot_Design_size⟩)
    (c_Design_size : PySem.W.codeIn K cd_Design_size "Design.size" = true)
    (k_Design_size : PySem.W.keepIn K (.ref f_Design_size) = true)
    (a_Design_with_counts : PySem.W.findIn K (.ref D) "with_counts" = some (some (.ref f_Design_with_counts)))
    (y_Design_with_counts : PySem.W.isFn K (.ref f_Design_with_counts) = true)
    (l_Design_with_counts : K.lookup f_Design_with_counts = some ⟨oc_Design_with_counts, od_Design_with_counts, .func (PySem.W.fnOf "with_counts" "Design.with_counts" (defArgs s_Design_with_counts) (defBody s_Design_with_counts) (defScope s_Design_with_counts) .none kv_Design_with_counts dc_Design_with_counts pm_Design_with_counts an_Design_with_counts cd_Design_with_counts ct_Design_with_counts), sl_ot_Design_with_counts⟩)
    (c_Design_with_counts : PySem.W.codeIn K cd_Design_with_counts "Design.with_counts" = true)
    (k_Design_with_counts : PySem.W.keepIn K (.ref f_Design_with_counts) = true)
    (a_Design_matrix : PySem.W.findIn K (.ref D) "matrix" = some (some (.ref f_Design_matrix)))
    (y_Design_matrix : PySem.W.isFn K (.ref f_Design_matrix) = true)
    (l_Design_matrix : K.lookup f_Design_matrix = some ⟨oc_Design_matrix, od_Design_matrix, .func (PySem.W.fnOf "matrix" "Design.matrix" (defArgs s_Design_matrix) (defBody s_Design_matrix) (defScope s_Design_matrix) .none kv_Design_matrix dc_Design_matrix pm_Design_matrix an_Design_matrix cd_Design_matrix ct_Design_matrix), sl_ot_Design_matrix⟩)
    (c_Design_matrix : PySem.W.codeIn K cd_Design_matrix "Design.matrix" = true)
    (k_Design_matrix : PySem.W.keepIn K (.ref f_Design_matrix) = true)
    (a_Design_worth : PySem.W.findIn K (.ref D) "worth" = some (some (.ref f_Design_worth)))
    (y_Design_worth : PySem.W.isFn K (.ref f_Design_worth) = true)
    (l_Design_worth : K.lookup f_Design_worth = some ⟨oc_Design_worth, od_Design_worth, .func (PySem.W.fnOf "worth" "Design.worth" (defArgs s_Design_worth) (defBody s_Design_worth) (defScope s_Design_worth) .none kv_Design_worth dc_Design_worth pm_Design_worth an_Design_worth cd_Design_worth ct_Design_worth), sl_ot_Design_worth⟩)
    (c_Design_worth : PySem.W.codeIn K cd_Design_worth "Design.worth" = true)
    (k_Design_worth : PySem.W.keepIn K (.ref f_Design_worth) = true)
    (a_Design_regular_matrix : PySem.W.findIn K (.ref D) "regular_matrix" = some (some (.ref f_Design_regular_matrix)))
    (y_Design_regular_matrix : PySem.W.isFn K (.ref f_Design_regular_matrix) = true)
    (l_Design_regular_matrix : K.lookup f_Design_regular_matrix = some ⟨oc_Design_regular_matrix, od_Design_regular_matrix, .func (PySem.W.fnOf "regular_matrix" "Design.regular_matrix" (defArgs s_Design_regular_matrix) (defBody s_Design_regular_matrix) (defScope s_Design_regular_matrix) .none kv_Design_regular_matrix dc_Design_regular_matrix pm_Design_regular_matrix an_Design_regular_matrix cd_Design_regular_matrix ct_Design_regular_matrix), sl_ot_Design_regular_matrix⟩)
    (c_Design_regular_matrix : PySem.W.codeIn K cd_Design_regular_matrix "Design.regular_matrix" = true)
    (k_Design_regular_matrix : PySem.W.keepIn K (.ref f_Design_regular_matrix) = true)
    (a_Design_own_trace : PySem.W.findIn K (.ref D) "own_trace" = some (some (.ref f_Design_own_trace)))
    (y_Design_own_trace : PySem.W.isFn K (.ref f_Design_own_trace) = true)
    (l_Design_own_trace : K.lookup f_Design_own_trace = some ⟨oc_Design_own_trace, od_Design_own_trace, .func (PySem.W.fnOf "own_trace" "Design.own_trace" (defArgs s_Design_own_trace) (defBody s_Design_own_trace) (defScope s_Design_own_trace) .none kv_Design_own_trace dc_Design_own_trace pm_Design_own_trace an_Design_own_trace cd_Design_own_trace ct_Design_own_trace), sl_ot_Design_own_trace⟩)
    (c_Design_own_trace : PySem.W.codeIn K cd_Design_own_trace "Design.own_trace" = true)
    (k_Design_own_trace : PySem.W.keepIn K (.ref f_Design_own_trace) = true)
    (a_Design_variances : PySem.W.findIn K (.ref D) "variances" = some (some (.ref f_Design_variances)))
    (y_Design_variances : PySem.W.isFn K (.ref f_Design_variances) = true)
    (l_Design_variances : K.lookup f_Design_variances = some ⟨oc_Design_variances, od_Design_variances, .func (PySem.W.fnOf "variances" "Design.variances" (defArgs s_Design_variances) (defBody s_Design_variances) (defScope s_Design_variances) .none kv_Design_variances dc_Design_variances pm_Design_variances an_Design_variances cd_Design_variances ct_Design_variances), sl_ot_Design_variances⟩)
    (c_Design_variances : PySem.W.codeIn K cd_Design_variances "Design.variances" = true)
    (k_Design_variances : PySem.W.keepIn K (.ref f_Design_variances) = true)
    (a_Design_worst : PySem.W.findIn K (.ref D) "worst" = some (some (.ref f_Design_worst)))
    (y_Design_worst : PySem.W.isFn K (.ref f_Design_worst) = true)
    (l_Design_worst : K.lookup f_Design_worst = some ⟨oc_Design_worst, od_Design_worst, .func (PySem.W.fnOf "worst" "Design.worst" (defArgs s_Design_worst) (defBody s_Design_worst) (defScope s_Design_worst) .none kv_Design_worst dc_Design_worst pm_Design_worst an_Design_worst cd_Design_worst ct_Design_worst), sl_ot_Design_worst⟩)
    (c_Design_worst : PySem.W.codeIn K cd_Design_worst "Design.worst" = true)
    (k_Design_worst : PySem.W.keepIn K (.ref f_Design_worst) = true)
    (a_power : PySem.W.nsIn K mainGlobals "power" = some (some (.ref f_power)))
    (l_power : K.lookup f_power = some ⟨oc_power, od_power, .func (PySem.W.fnOf "power" "power" (defArgs s_power) (defBody s_power) (defScope s_power) .none kv_power dc_power pm_power an_power cd_power ct_power), sl_ot_power⟩)
    (c_power : PySem.W.codeIn K cd_power "power" = true)
    (k_power : PySem.W.keepIn K (.ref f_power) = true)
    (a_Design_bound : PySem.W.findIn K (.ref D) "bound" = some (some (.ref f_Design_bound)))
    (y_Design_bound : PySem.W.isFn K (.ref f_Design_bound) = true)
    (l_Design_bound : K.lookup f_Design_bound = some ⟨oc_Design_bound, od_Design_bound, .func (PySem.W.fnOf "bound" "Design.bound" (defArgs s_Design_bound) (defBody s_Design_bound) (defScope s_Design_bound) .none kv_Design_bound dc_Design_bound pm_Design_bound an_Design_bound cd_Design_bound ct_Design_bound), sl_ot_Design_bound⟩)
    (c_Design_bound : PySem.W.codeIn K cd_Design_bound "Design.bound" = true)
    (k_Design_bound : PySem.W.keepIn K (.ref f_Design_bound) = true)
    (a_stepped : PySem.W.nsIn K mainGlobals "stepped" = some (some (.ref f_stepped)))
    (l_stepped : K.lookup f_stepped = some ⟨oc_stepped, od_stepped, .func (PySem.W.fnOf "stepped" "stepped" (defArgs s_stepped) (defBody s_stepped) (defScope s_stepped) .none kv_stepped dc_stepped pm_stepped an_stepped cd_stepped ct_stepped), sl_ot_stepped⟩)
    (c_stepped : PySem.W.codeIn K cd_stepped "stepped" = true)
    (k_stepped : PySem.W.keepIn K (.ref f_stepped) = true)
    (a_exchanged : PySem.W.nsIn K mainGlobals "exchanged" = some (some (.ref f_exchanged)))
    (l_exchanged : K.lookup f_exchanged = some ⟨oc_exchanged, od_exchanged, .func (PySem.W.fnOf "exchanged" "exchanged" (defArgs s_exchanged) (defBody s_exchanged) (defScope s_exchanged) .none kv_exchanged dc_exchanged pm_exchanged an_exchanged cd_exchanged ct_exchanged), sl_ot_exchanged⟩)
    (c_exchanged : PySem.W.codeIn K cd_exchanged "exchanged" = true)
    (k_exchanged : PySem.W.keepIn K (.ref f_exchanged) = true)
    (a_best_exchange : PySem.W.nsIn K mainGlobals "best_exchange" = some (some (.ref f_best_exchange)))
    (l_best_exchange : K.lookup f_best_exchange = some ⟨oc_best_exchange, od_best_exchange, .func (PySem.W.fnOf "best_exchange" "best_exchange" (defArgs s_best_exchange) (defBody s_best_exchange) (defScope s_best_exchange) .none kv_best_exchange dc_best_exchange pm_best_exchange an_best_exchange cd_best_exchange ct_best_exchange), sl_ot_best_exchange⟩)
    (c_best_exchange : PySem.W.codeIn K cd_best_exchange "best_exchange" = true)
    (k_best_exchange : PySem.W.keepIn K (.ref f_best_exchange) = true)
    (a_best_step : PySem.W.nsIn K mainGlobals "best_step" = some (some (.ref f_best_step)))
    (l_best_step : K.lookup f_best_step = some ⟨oc_best_step, od_best_step, .func (PySem.W.fnOf "best_step" "best_step" (defArgs s_best_step) (defBody s_best_step) (defScope s_best_step) .none kv_best_step dc_best_step pm_best_step an_best_step cd_best_step ct_best_step), sl_ot_best_step⟩)
    (c_best_step : PySem.W.codeIn K cd_best_step "best_step" = true)
    (k_best_step : PySem.W.keepIn K (.ref f_best_step) = true)
    (a_lists_of : PySem.W.nsIn K mainGlobals "lists_of" = some (some (.ref f_lists_of)))
    (l_lists_of : K.lookup f_lists_of = some ⟨oc_lists_of, od_lists_of, .func (PySem.W.fnOf "lists_of" "lists_of" (defArgs s_lists_of) (defBody s_lists_of) (defScope s_lists_of) .none kv_lists_of dc_lists_of pm_lists_of an_lists_of cd_lists_of ct_lists_of), sl_ot_lists_of⟩)
    (c_lists_of : PySem.W.codeIn K cd_lists_of "lists_of" = true)
    (k_lists_of : PySem.W.keepIn K (.ref f_lists_of) = true)
    (a_all_counts : PySem.W.nsIn K mainGlobals "all_counts" = some (some (.ref f_all_counts)))
    (l_all_counts : K.lookup f_all_counts = some ⟨oc_all_counts, od_all_counts, .func (PySem.W.fnOf "all_counts" "all_counts" (defArgs s_all_counts) (defBody s_all_counts) (defScope s_all_counts) .none kv_all_counts dc_all_counts pm_all_counts an_all_counts cd_all_counts ct_all_counts), sl_ot_all_counts⟩)
    (c_all_counts : PySem.W.codeIn K cd_all_counts "all_counts" = true)
    (k_all_counts : PySem.W.keepIn K (.ref f_all_counts) = true)
    (a_regular_designs : PySem.W.nsIn K mainGlobals "regular_designs" = some (some (.ref f_regular_designs)))
    (l_regular_designs : K.lookup f_regular_designs = some ⟨oc_regular_designs, od_regular_designs, .func (PySem.W.fnOf "regular_designs" "regular_designs" (defArgs s_regular_designs) (defBody s_regular_designs) (defScope s_regular_designs) .none kv_regular_designs dc_regular_designs pm_regular_designs an_regular_designs cd_regular_designs ct_regular_designs), sl_ot_regular_designs⟩)
    (c_regular_designs : PySem.W.codeIn K cd_regular_designs "regular_designs" = true)
    (k_regular_designs : PySem.W.keepIn K (.ref f_regular_designs) = true)
    (a_best_design : PySem.W.nsIn K mainGlobals "best_design" = some (some (.ref f_best_design)))
    (l_best_design : K.lookup f_best_design = some ⟨oc_best_design, od_best_design, .func (PySem.W.fnOf "best_design" "best_design" (defArgs s_best_design) (defBody s_best_design) (defScope s_best_design) .none kv_best_design dc_best_design pm_best_design an_best_design cd_best_design ct_best_design), sl_ot_best_design⟩)
    (c_best_design : PySem.W.codeIn K cd_best_design "best_design" = true)
    (k_best_design : PySem.W.keepIn K (.ref f_best_design) = true)
    (a_best_by_trace : PySem.W.nsIn K mainGlobals "best_by_trace" = some (some (.ref f_best_by_trace)))
    (l_best_by_trace : K.lookup f_best_by_trace = some ⟨oc_best_by_trace, od_best_by_trace, .func (PySem.W.fnOf "best_by_trace" "best_by_trace" (defArgs s_best_by_trace) (defBody s_best_by_trace) (defScope s_best_by_trace) .none kv_best_by_trace dc_best_by_trace pm_best_by_trace an_best_by_trace cd_best_by_trace ct_best_by_trace), sl_ot_best_by_trace⟩)
    (c_best_by_trace : PySem.W.codeIn K cd_best_by_trace "best_by_trace" = true)
    (k_best_by_trace : PySem.W.keepIn K (.ref f_best_by_trace) = true)
    (a_shared_below : PySem.W.nsIn K mainGlobals "shared_below" = some (some (.ref f_shared_below)))
    (l_shared_below : K.lookup f_shared_below = some ⟨oc_shared_below, od_shared_below, .func (PySem.W.fnOf "shared_below" "shared_below" (defArgs s_shared_below) (defBody s_shared_below) (defScope s_shared_below) .none kv_shared_below dc_shared_below pm_shared_below an_shared_below cd_shared_below ct_shared_below), sl_ot_shared_below⟩)
    (c_shared_below : PySem.W.codeIn K cd_shared_below "shared_below" = true)
    (k_shared_below : PySem.W.keepIn K (.ref f_shared_below) = true)
    (a_stepped_on : PySem.W.nsIn K mainGlobals "stepped_on" = some (some (.ref f_stepped_on)))
    (l_stepped_on : K.lookup f_stepped_on = some ⟨oc_stepped_on, od_stepped_on, .func (PySem.W.fnOf "stepped_on" "stepped_on" (defArgs s_stepped_on) (defBody s_stepped_on) (defScope s_stepped_on) .none kv_stepped_on dc_stepped_on pm_stepped_on an_stepped_on cd_stepped_on ct_stepped_on), sl_ot_stepped_on⟩)
    (c_stepped_on : PySem.W.codeIn K cd_stepped_on "stepped_on" = true)
    (k_stepped_on : PySem.W.keepIn K (.ref f_stepped_on) = true)
    (a_weights_behind : PySem.W.nsIn K mainGlobals "weights_behind" = some (some (.ref f_weights_behind)))
    (l_weights_behind : K.lookup f_weights_behind = some ⟨oc_weights_behind, od_weights_behind, .func (PySem.W.fnOf "weights_behind" "weights_behind" (defArgs s_weights_behind) (defBody s_weights_behind) (defScope s_weights_behind) .none kv_weights_behind dc_weights_behind pm_weights_behind an_weights_behind cd_weights_behind ct_weights_behind), sl_ot_weights_behind⟩)
    (c_weights_behind : PySem.W.codeIn K cd_weights_behind "weights_behind" = true)
    (k_weights_behind : PySem.W.keepIn K (.ref f_weights_behind) = true)
    (a_Refused_init : PySem.W.findIn K (.ref R) "__init__" = some (some (.ref f_Refused_init)))
    (l_Refused_init : K.lookup f_Refused_init = some ⟨oc_Refused_init, od_Refused_init, .func (PySem.W.fnOf "__init__" "Refused.__init__" (defArgs s_Refused___init__) (defBody s_Refused___init__) (defScope s_Refused___init__) .none kv_Refused_init dc_Refused_init pm_Refused_init an_Refused_init cd_Refused_init ct_Refused_init), sl_ot_Refused_init⟩)
    (c_Refused_init : PySem.W.codeIn K cd_Refused_init "Refused.__init__" = true)
    (k_Refused_init : PySem.W.keepIn K (.ref f_Refused_init) = true)
    (a_need : PySem.W.nsIn K mainGlobals "need" = some (some (.ref f_need)))
    (l_need : K.lookup f_need = some ⟨oc_need, od_need, .func (PySem.W.fnOf "need" "need" (defArgs s_need) (defBody s_need) (defScope s_need) .none kv_need dc_need pm_need an_need cd_need ct_need), sl_ot_need⟩)
    (c_need : PySem.W.codeIn K cd_need "need" = true)
    (k_need : PySem.W.keepIn K (.ref f_need) = true)
    (a_need_range : PySem.W.nsIn K mainGlobals "need_range" = some (some (.ref f_need_range)))
    (l_need_range : K.lookup f_need_range = some ⟨oc_need_range, od_need_range, .func (PySem.W.fnOf "need_range" "need_range" (defArgs s_need_range) (defBody s_need_range) (defScope s_need_range) .none kv_need_range dc_need_range pm_need_range an_need_range cd_need_range ct_need_range), sl_ot_need_range⟩)
    (c_need_range : PySem.W.codeIn K cd_need_range "need_range" = true)
    (k_need_range : PySem.W.keepIn K (.ref f_need_range) = true)
    (a_told : PySem.W.nsIn K mainGlobals "told" = some (some (.ref f_told)))
    (l_told : K.lookup f_told = some ⟨oc_told, od_told, .func (PySem.W.fnOf "told" "told" (defArgs s_told) (defBody s_told) (defScope s_told) .none kv_told dc_told pm_told an_told cd_told ct_told), sl_ot_told⟩)
    (c_told : PySem.W.codeIn K cd_told "told" = true)
    (k_told : PySem.W.keepIn K (.ref f_told) = true)
    (a_sign_of : PySem.W.nsIn K mainGlobals "sign_of" = some (some (.ref f_sign_of)))
    (l_sign_of : K.lookup f_sign_of = some ⟨oc_sign_of, od_sign_of, .func (PySem.W.fnOf "sign_of" "sign_of" (defArgs s_sign_of) (defBody s_sign_of) (defScope s_sign_of) .none kv_sign_of dc_sign_of pm_sign_of an_sign_of cd_sign_of ct_sign_of), sl_ot_sign_of⟩)
    (c_sign_of : PySem.W.codeIn K cd_sign_of "sign_of" = true)
    (k_sign_of : PySem.W.keepIn K (.ref f_sign_of) = true)
    (a_Desk_init : PySem.W.findIn K (.ref E) "__init__" = some (some (.ref f_Desk_init)))
    (y_Desk_init : PySem.W.isFn K (.ref f_Desk_init) = true)
    (l_Desk_init : K.lookup f_Desk_init = some ⟨oc_Desk_init, od_Desk_init, .func (PySem.W.fnOf "__init__" "Desk.__init__" (defArgs s_Desk___init__) (defBody s_Desk___init__) (defScope s_Desk___init__) .none kv_Desk_init dc_Desk_init pm_Desk_init an_Desk_init cd_Desk_init ct_Desk_init), sl_ot_Desk_init⟩)
    (c_Desk_init : PySem.W.codeIn K cd_Desk_init "Desk.__init__" = true)
    (k_Desk_init : PySem.W.keepIn K (.ref f_Desk_init) = true)
    (a_Desk_need_row : PySem.W.findIn K (.ref E) "need_row" = some (some (.ref f_Desk_need_row)))
    (y_Desk_need_row : PySem.W.isFn K (.ref f_Desk_need_row) = true)
    (l_Desk_need_row : K.lookup f_Desk_need_row = some ⟨oc_Desk_need_row, od_Desk_need_row, .func (PySem.W.fnOf "need_row" "Desk.need_row" (defArgs s_Desk_need_row) (defBody s_Desk_need_row) (defScope s_Desk_need_row) .none kv_Desk_need_row dc_Desk_need_row pm_Desk_need_row an_Desk_need_row cd_Desk_need_row ct_Desk_need_row), sl_ot_Desk_need_row⟩)
    (c_Desk_need_row : PySem.W.codeIn K cd_Desk_need_row "Desk.need_row" = true)
    (k_Desk_need_row : PySem.W.keepIn K (.ref f_Desk_need_row) = true)
    (a_Desk_need_counts : PySem.W.findIn K (.ref E) "need_counts" = some (some (.ref f_Desk_need_counts)))
    (y_Desk_need_counts : PySem.W.isFn K (.ref f_Desk_need_counts) = true)
    (l_Desk_need_counts : K.lookup f_Desk_need_counts = some ⟨oc_Desk_need_counts, od_Desk_need_counts, .func (PySem.W.fnOf "need_counts" "Desk.need_counts" (defArgs s_Desk_need_counts) (defBody s_Desk_need_counts) (defScope s_Desk_need_counts) .none kv_Desk_need_counts dc_Desk_need_counts pm_Desk_need_counts an_Desk_need_counts cd_Desk_need_counts ct_Desk_need_counts), sl_ot_Desk_need_counts⟩)
    (c_Desk_need_counts : PySem.W.codeIn K cd_Desk_need_counts "Desk.need_counts" = true)
    (k_Desk_need_counts : PySem.W.keepIn K (.ref f_Desk_need_counts) = true)
    (a_Desk_need_candidate : PySem.W.findIn K (.ref E) "need_candidate" = some (some (.ref f_Desk_need_candidate)))
    (y_Desk_need_candidate : PySem.W.isFn K (.ref f_Desk_need_candidate) = true)
    (l_Desk_need_candidate : K.lookup f_Desk_need_candidate = some ⟨oc_Desk_need_candidate, od_Desk_need_candidate, .func (PySem.W.fnOf "need_candidate" "Desk.need_candidate" (defArgs s_Desk_need_candidate) (defBody s_Desk_need_candidate) (defScope s_Desk_need_candidate) .none kv_Desk_need_candidate dc_Desk_need_candidate pm_Desk_need_candidate an_Desk_need_candidate cd_Desk_need_candidate ct_Desk_need_candidate), sl_ot_Desk_need_candidate⟩)
    (c_Desk_need_candidate : PySem.W.codeIn K cd_Desk_need_candidate "Desk.need_candidate" = true)
    (k_Desk_need_candidate : PySem.W.keepIn K (.ref f_Desk_need_candidate) = true)
    (a_create : PySem.W.nsIn K mainGlobals "create" = some (some (.ref f_create)))
    (l_create : K.lookup f_create = some ⟨oc_create, od_create, .func (PySem.W.fnOf "create" "create" (defArgs s_create) (defBody s_create) (defScope s_create) .none kv_create dc_create pm_create an_create cd_create ct_create), sl_ot_create⟩)
    (c_create : PySem.W.codeIn K cd_create "create" = true)
    (k_create : PySem.W.keepIn K (.ref f_create) = true)
    (a_add_candidate : PySem.W.nsIn K mainGlobals "add_candidate" = some (some (.ref f_add_candidate)))
    (l_add_candidate : K.lookup f_add_candidate = some ⟨oc_add_candidate, od_add_candidate, .func (PySem.W.fnOf "add_candidate" "add_candidate" (defArgs s_add_candidate) (defBody s_add_candidate) (defScope s_add_candidate) .none kv_add_candidate dc_add_candidate pm_add_candidate an_add_candidate cd_add_candidate ct_add_candidate), sl_ot_add_candidate⟩)
    (c_add_candidate : PySem.W.codeIn K cd_add_candidate "add_candidate" = true)
    (k_add_candidate : PySem.W.keepIn K (.ref f_add_candidate) = true)
    (a_remove_candidate : PySem.W.nsIn K mainGlobals "remove_candidate" = some (some (.ref f_remove_candidate)))
    (l_remove_candidate : K.lookup f_remove_candidate = some ⟨oc_remove_candidate, od_remove_candidate, .func (PySem.W.fnOf "remove_candidate" "remove_candidate" (defArgs s_remove_candidate) (defBody s_remove_candidate) (defScope s_remove_candidate) .none kv_remove_candidate dc_remove_candidate pm_remove_candidate an_remove_candidate cd_remove_candidate ct_remove_candidate), sl_ot_remove_candidate⟩)
    (c_remove_candidate : PySem.W.codeIn K cd_remove_candidate "remove_candidate" = true)
    (k_remove_candidate : PySem.W.keepIn K (.ref f_remove_candidate) = true)
    (a_get_candidate : PySem.W.nsIn K mainGlobals "get_candidate" = some (some (.ref f_get_candidate)))
    (l_get_candidate : K.lookup f_get_candidate = some ⟨oc_get_candidate, od_get_candidate, .func (PySem.W.fnOf "get_candidate" "get_candidate" (defArgs s_get_candidate) (defBody s_get_candidate) (defScope s_get_candidate) .none kv_get_candidate dc_get_candidate pm_get_candidate an_get_candidate cd_get_candidate ct_get_candidate), sl_ot_get_candidate⟩)
    (c_get_candidate : PySem.W.codeIn K cd_get_candidate "get_candidate" = true)
    (k_get_candidate : PySem.W.keepIn K (.ref f_get_candidate) = true)
    (a_set_counts : PySem.W.nsIn K mainGlobals "set_counts" = some (some (.ref f_set_counts)))
    (l_set_counts : K.lookup f_set_counts = some ⟨oc_set_counts, od_set_counts, .func (PySem.W.fnOf "set_counts" "set_counts" (defArgs s_set_counts) (defBody s_set_counts) (defScope s_set_counts) .none kv_set_counts dc_set_counts pm_set_counts an_set_counts cd_set_counts ct_set_counts), sl_ot_set_counts⟩)
    (c_set_counts : PySem.W.codeIn K cd_set_counts "set_counts" = true)
    (k_set_counts : PySem.W.keepIn K (.ref f_set_counts) = true)
    (a_ask_counts : PySem.W.nsIn K mainGlobals "ask_counts" = some (some (.ref f_ask_counts)))
    (l_ask_counts : K.lookup f_ask_counts = some ⟨oc_ask_counts, od_ask_counts, .func (PySem.W.fnOf "ask_counts" "ask_counts" (defArgs s_ask_counts) (defBody s_ask_counts) (defScope s_ask_counts) .none kv_ask_counts dc_ask_counts pm_ask_counts an_ask_counts cd_ask_counts ct_ask_counts), sl_ot_ask_counts⟩)
    (c_ask_counts : PySem.W.codeIn K cd_ask_counts "ask_counts" = true)
    (k_ask_counts : PySem.W.keepIn K (.ref f_ask_counts) = true)
    (a_ask_determinant : PySem.W.nsIn K mainGlobals "ask_determinant" = some (some (.ref f_ask_determinant)))
    (l_ask_determinant : K.lookup f_ask_determinant = some ⟨oc_ask_determinant, od_ask_determinant, .func (PySem.W.fnOf "ask_determinant" "ask_determinant" (defArgs s_ask_determinant) (defBody s_ask_determinant) (defScope s_ask_determinant) .none kv_ask_determinant dc_ask_determinant pm_ask_determinant an_ask_determinant cd_ask_determinant ct_ask_determinant), sl_ot_ask_determinant⟩)
    (c_ask_determinant : PySem.W.codeIn K cd_ask_determinant "ask_determinant" = true)
    (k_ask_determinant : PySem.W.keepIn K (.ref f_ask_determinant) = true)
    (a_summary : PySem.W.nsIn K mainGlobals "summary" = some (some (.ref f_summary)))
    (l_summary : K.lookup f_summary = some ⟨oc_summary, od_summary, .func (PySem.W.fnOf "summary" "summary" (defArgs s_summary) (defBody s_summary) (defScope s_summary) .none kv_summary dc_summary pm_summary an_summary cd_summary ct_summary), sl_ot_summary⟩)
    (c_summary : PySem.W.codeIn K cd_summary "summary" = true)
    (k_summary : PySem.W.keepIn K (.ref f_summary) = true)
    (a_ask_information : PySem.W.nsIn K mainGlobals "ask_information" = some (some (.ref f_ask_information)))
    (l_ask_information : K.lookup f_ask_information = some ⟨oc_ask_information, od_ask_information, .func (PySem.W.fnOf "ask_information" "ask_information" (defArgs s_ask_information) (defBody s_ask_information) (defScope s_ask_information) .none kv_ask_information dc_ask_information pm_ask_information an_ask_information cd_ask_information ct_ask_information), sl_ot_ask_information⟩)
    (c_ask_information : PySem.W.codeIn K cd_ask_information "ask_information" = true)
    (k_ask_information : PySem.W.keepIn K (.ref f_ask_information) = true)
    (a_ask_trace : PySem.W.nsIn K mainGlobals "ask_trace" = some (some (.ref f_ask_trace)))
    (l_ask_trace : K.lookup f_ask_trace = some ⟨oc_ask_trace, od_ask_trace, .func (PySem.W.fnOf "ask_trace" "ask_trace" (defArgs s_ask_trace) (defBody s_ask_trace) (defScope s_ask_trace) .none kv_ask_trace dc_ask_trace pm_ask_trace an_ask_trace cd_ask_trace ct_ask_trace), sl_ot_ask_trace⟩)
    (c_ask_trace : PySem.W.codeIn K cd_ask_trace "ask_trace" = true)
    (k_ask_trace : PySem.W.keepIn K (.ref f_ask_trace) = true)
    (a_ask_variance : PySem.W.nsIn K mainGlobals "ask_variance" = some (some (.ref f_ask_variance)))
    (l_ask_variance : K.lookup f_ask_variance = some ⟨oc_ask_variance, od_ask_variance, .func (PySem.W.fnOf "ask_variance" "ask_variance" (defArgs s_ask_variance) (defBody s_ask_variance) (defScope s_ask_variance) .none kv_ask_variance dc_ask_variance pm_ask_variance an_ask_variance cd_ask_variance ct_ask_variance), sl_ot_ask_variance⟩)
    (c_ask_variance : PySem.W.codeIn K cd_ask_variance "ask_variance" = true)
    (k_ask_variance : PySem.W.keepIn K (.ref f_ask_variance) = true)
    (a_candidate_variances : PySem.W.nsIn K mainGlobals "candidate_variances" = some (some (.ref f_candidate_variances)))
    (l_candidate_variances : K.lookup f_candidate_variances = some ⟨oc_candidate_variances, od_candidate_variances, .func (PySem.W.fnOf "candidate_variances" "candidate_variances" (defArgs s_candidate_variances) (defBody s_candidate_variances) (defScope s_candidate_variances) .none kv_candidate_variances dc_candidate_variances pm_candidate_variances an_candidate_variances cd_candidate_variances ct_candidate_variances), sl_ot_candidate_variances⟩)
    (c_candidate_variances : PySem.W.codeIn K cd_candidate_variances "candidate_variances" = true)
    (k_candidate_variances : PySem.W.keepIn K (.ref f_candidate_variances) = true)
    (a_ask_bound : PySem.W.nsIn K mainGlobals "ask_bound" = some (some (.ref f_ask_bound)))
    (l_ask_bound : K.lookup f_ask_bound = some ⟨oc_ask_bound, od_ask_bound, .func (PySem.W.fnOf "ask_bound" "ask_bound" (defArgs s_ask_bound) (defBody s_ask_bound) (defScope s_ask_bound) .none kv_ask_bound dc_ask_bound pm_ask_bound an_ask_bound cd_ask_bound ct_ask_bound), sl_ot_ask_bound⟩)
    (c_ask_bound : PySem.W.codeIn K cd_ask_bound "ask_bound" = true)
    (k_ask_bound : PySem.W.keepIn K (.ref f_ask_bound) = true)
    (a_exchange : PySem.W.nsIn K mainGlobals "exchange" = some (some (.ref f_exchange)))
    (l_exchange : K.lookup f_exchange = some ⟨oc_exchange, od_exchange, .func (PySem.W.fnOf "exchange" "exchange" (defArgs s_exchange) (defBody s_exchange) (defScope s_exchange) .none kv_exchange dc_exchange pm_exchange an_exchange cd_exchange ct_exchange), sl_ot_exchange⟩)
    (c_exchange : PySem.W.codeIn K cd_exchange "exchange" = true)
    (k_exchange : PySem.W.keepIn K (.ref f_exchange) = true)
    (a_improve : PySem.W.nsIn K mainGlobals "improve" = some (some (.ref f_improve)))
    (l_improve : K.lookup f_improve = some ⟨oc_improve, od_improve, .func (PySem.W.fnOf "improve" "improve" (defArgs s_improve) (defBody s_improve) (defScope s_improve) .none kv_improve dc_improve pm_improve an_improve cd_improve ct_improve), sl_ot_improve⟩)
    (c_improve : PySem.W.codeIn K cd_improve "improve" = true)
    (k_improve : PySem.W.keepIn K (.ref f_improve) = true)
    (a_is_optimal : PySem.W.nsIn K mainGlobals "is_optimal" = some (some (.ref f_is_optimal)))
    (l_is_optimal : K.lookup f_is_optimal = some ⟨oc_is_optimal, od_is_optimal, .func (PySem.W.fnOf "is_optimal" "is_optimal" (defArgs s_is_optimal) (defBody s_is_optimal) (defScope s_is_optimal) .none kv_is_optimal dc_is_optimal pm_is_optimal an_is_optimal cd_is_optimal ct_is_optimal), sl_ot_is_optimal⟩)
    (c_is_optimal : PySem.W.codeIn K cd_is_optimal "is_optimal" = true)
    (k_is_optimal : PySem.W.keepIn K (.ref f_is_optimal) = true)
    (a_take_step : PySem.W.nsIn K mainGlobals "take_step" = some (some (.ref f_take_step)))
    (l_take_step : K.lookup f_take_step = some ⟨oc_take_step, od_take_step, .func (PySem.W.fnOf "take_step" "take_step" (defArgs s_take_step) (defBody s_take_step) (defScope s_take_step) .none kv_take_step dc_take_step pm_take_step an_take_step cd_take_step ct_take_step), sl_ot_take_step⟩)
    (c_take_step : PySem.W.codeIn K cd_take_step "take_step" = true)
    (k_take_step : PySem.W.keepIn K (.ref f_take_step) = true)
    (a_add : PySem.W.nsIn K mainGlobals "add" = some (some (.ref f_add)))
    (l_add : K.lookup f_add = some ⟨oc_add, od_add, .func (PySem.W.fnOf "add" "add" (defArgs s_add) (defBody s_add) (defScope s_add) .none kv_add dc_add pm_add an_add cd_add ct_add), sl_ot_add⟩)
    (c_add : PySem.W.codeIn K cd_add "add" = true)
    (k_add : PySem.W.keepIn K (.ref f_add) = true)
    (a_remove : PySem.W.nsIn K mainGlobals "remove" = some (some (.ref f_remove)))
    (l_remove : K.lookup f_remove = some ⟨oc_remove, od_remove, .func (PySem.W.fnOf "remove" "remove" (defArgs s_remove) (defBody s_remove) (defScope s_remove) .none kv_remove dc_remove pm_remove an_remove cd_remove ct_remove), sl_ot_remove⟩)
    (c_remove : PySem.W.codeIn K cd_remove "remove" = true)
    (k_remove : PySem.W.keepIn K (.ref f_remove) = true)
    (a_best : PySem.W.nsIn K mainGlobals "best" = some (some (.ref f_best)))
    (l_best : K.lookup f_best = some ⟨oc_best, od_best, .func (PySem.W.fnOf "best" "best" (defArgs s_best) (defBody s_best) (defScope s_best) .none kv_best dc_best pm_best an_best cd_best ct_best), sl_ot_best⟩)
    (c_best : PySem.W.codeIn K cd_best "best" = true)
    (k_best : PySem.W.keepIn K (.ref f_best) = true)
    (a_take_best : PySem.W.nsIn K mainGlobals "take_best" = some (some (.ref f_take_best)))
    (l_take_best : K.lookup f_take_best = some ⟨oc_take_best, od_take_best, .func (PySem.W.fnOf "take_best" "take_best" (defArgs s_take_best) (defBody s_take_best) (defScope s_take_best) .none kv_take_best dc_take_best pm_take_best an_take_best cd_take_best ct_take_best), sl_ot_take_best⟩)
    (c_take_best : PySem.W.codeIn K cd_take_best "take_best" = true)
    (k_take_best : PySem.W.keepIn K (.ref f_take_best) = true)
    (a_ask_best_by_trace : PySem.W.nsIn K mainGlobals "ask_best_by_trace" = some (some (.ref f_ask_best_by_trace)))
    (l_ask_best_by_trace : K.lookup f_ask_best_by_trace = some ⟨oc_ask_best_by_trace, od_ask_best_by_trace, .func (PySem.W.fnOf "ask_best_by_trace" "ask_best_by_trace" (defArgs s_ask_best_by_trace) (defBody s_ask_best_by_trace) (defScope s_ask_best_by_trace) .none kv_ask_best_by_trace dc_ask_best_by_trace pm_ask_best_by_trace an_ask_best_by_trace cd_ask_best_by_trace ct_ask_best_by_trace), sl_ot_ask_best_by_trace⟩)
    (c_ask_best_by_trace : PySem.W.codeIn K cd_ask_best_by_trace "ask_best_by_trace" = true)
    (k_ask_best_by_trace : PySem.W.keepIn K (.ref f_ask_best_by_trace) = true)
    (a_ask_weights : PySem.W.nsIn K mainGlobals "ask_weights" = some (some (.ref f_ask_weights)))
    (l_ask_weights : K.lookup f_ask_weights = some ⟨oc_ask_weights, od_ask_weights, .func (PySem.W.fnOf "ask_weights" "ask_weights" (defArgs s_ask_weights) (defBody s_ask_weights) (defScope s_ask_weights) .none kv_ask_weights dc_ask_weights pm_ask_weights an_ask_weights cd_ask_weights ct_ask_weights), sl_ot_ask_weights⟩)
    (c_ask_weights : PySem.W.codeIn K cd_ask_weights "ask_weights" = true)
    (k_ask_weights : PySem.W.keepIn K (.ref f_ask_weights) = true)
    (a_compare : PySem.W.nsIn K mainGlobals "compare" = some (some (.ref f_compare)))
    (l_compare : K.lookup f_compare = some ⟨oc_compare, od_compare, .func (PySem.W.fnOf "compare" "compare" (defArgs s_compare) (defBody s_compare) (defScope s_compare) .none kv_compare dc_compare pm_compare an_compare cd_compare ct_compare), sl_ot_compare⟩)
    (c_compare : PySem.W.codeIn K cd_compare "compare" = true)
    (k_compare : PySem.W.keepIn K (.ref f_compare) = true)
    (a_is_at_least_as_good : PySem.W.nsIn K mainGlobals "is_at_least_as_good" = some (some (.ref f_is_at_least_as_good)))
    (l_is_at_least_as_good : K.lookup f_is_at_least_as_good = some ⟨oc_is_at_least_as_good, od_is_at_least_as_good, .func (PySem.W.fnOf "is_at_least_as_good" "is_at_least_as_good" (defArgs s_is_at_least_as_good) (defBody s_is_at_least_as_good) (defScope s_is_at_least_as_good) .none kv_is_at_least_as_good dc_is_at_least_as_good pm_is_at_least_as_good an_is_at_least_as_good cd_is_at_least_as_good ct_is_at_least_as_good), sl_ot_is_at_least_as_good⟩)
    (c_is_at_least_as_good : PySem.W.codeIn K cd_is_at_least_as_good "is_at_least_as_good" = true)
    (k_is_at_least_as_good : PySem.W.keepIn K (.ref f_is_at_least_as_good) = true)
    (a_answer : PySem.W.nsIn K mainGlobals "answer" = some (some (.ref f_answer)))
    (l_answer : K.lookup f_answer = some ⟨oc_answer, od_answer, .func (PySem.W.fnOf "answer" "answer" (defArgs s_answer) (defBody s_answer) (defScope s_answer) .none kv_answer dc_answer pm_answer an_answer cd_answer ct_answer), sl_ot_answer⟩)
    (c_answer : PySem.W.codeIn K cd_answer "answer" = true)
    (k_answer : PySem.W.keepIn K (.ref f_answer) = true)
    (a_answers : PySem.W.nsIn K mainGlobals "answers" = some (some (.ref f_answers)))
    (l_answers : K.lookup f_answers = some ⟨oc_answers, od_answers, .func (PySem.W.fnOf "answers" "answers" (defArgs s_answers) (defBody s_answers) (defScope s_answers) .none kv_answers dc_answers pm_answers an_answers cd_answers ct_answers), sl_ot_answers⟩)
    (c_answers : PySem.W.codeIn K cd_answers "answers" = true)
    (k_answers : PySem.W.keepIn K (.ref f_answers) = true)
    (tRi : PySem.W.typeIn K (.ref f_Refused_init) = some (.type "function"))
    : ∃ fd : FuncData, (∀ (s : Shared) (us : List Value), us.length = (["calls"] : List Str).length → BindsTo s fd ⟨us, []⟩ ((["calls"] : List Str).zip us)) ∧ ∀ base : Heap, K.In base → base.Ns mainGlobals mg → FnOk P w K mg base CX0 18 fa fd ["calls"] (spAnswers K) := by
  have e := hfa.symm.trans (PySem.W.mg_of X G a_answers)
  cases e
  have T : Txt K mg D E R N L :=
    { n_len := PySem.W.mg_none_of X G n_len,
      n_abs := PySem.W.mg_none_of X G n_abs,
      n_sum := PySem.W.mg_none_of X G n_sum,
      n_all := PySem.W.mg_none_of X G n_all,
      n_int := PySem.W.mg_none_of X G n_int,
      n_list := PySem.W.mg_none_of X G n_list,
      n_range := PySem.W.mg_none_of X G n_range,
      n_zip := PySem.W.mg_none_of X G n_zip,
      n_enumerate := PySem.W.mg_none_of X G n_enumerate,
      n_ValueError := PySem.W.mg_none_of X G n_ValueError,
      i_MOST_COUNT := ⟨_, PySem.W.mg_of X G i_MOST_COUNT⟩,
      i_MOST_LISTS := ⟨_, PySem.W.mg_of X G i_MOST_LISTS⟩,
      i_NO_DESIGN := ⟨_, PySem.W.mg_of X G i_NO_DESIGN⟩,
      i_NO_CANDIDATE := ⟨_, PySem.W.mg_of X G i_NO_CANDIDATE⟩,
      i_THERE_ALREADY := ⟨_, PySem.W.mg_of X G i_THERE_ALREADY⟩,
      i_OUT_OF_RANGE := ⟨_, PySem.W.mg_of X G i_OUT_OF_RANGE⟩,
      i_TOO_MANY := ⟨_, PySem.W.mg_of X G i_TOO_MANY⟩,
      i_NOT_THERE := ⟨_, PySem.W.mg_of X G i_NOT_THERE⟩,
      i_CREATE := ⟨_, PySem.W.mg_of X G i_CREATE⟩,
      i_MOST_COLUMNS := ⟨_, PySem.W.mg_of X G i_MOST_COLUMNS⟩,
      i_MOST_ENTRY := ⟨_, PySem.W.mg_of X G i_MOST_ENTRY⟩,
      i_MOST_CANDIDATES := ⟨_, PySem.W.mg_of X G i_MOST_CANDIDATES⟩,
      i_MOST_SIZE := ⟨_, PySem.W.mg_of X G i_MOST_SIZE⟩,
      i_MOST_BOUND := ⟨_, PySem.W.mg_of X G i_MOST_BOUND⟩,
      i_MOST_LIMIT := ⟨_, PySem.W.mg_of X G i_MOST_LIMIT⟩,
      i_MOST_STEPS := ⟨_, PySem.W.mg_of X G i_MOST_STEPS⟩,
      r_NOUGHT := ⟨_, PySem.W.mg_of X G g_NOUGHT, tup_at r_NOUGHT (Nat.le_of_ble_eq_true rfl) (.cons val_int (.cons val_int .nil))⟩,
      r_WITH_NUMBER := ⟨_, PySem.W.mg_of X G g_WITH_NUMBER, tup_at r_WITH_NUMBER (Nat.le_of_ble_eq_true rfl) (.cons val_int (.cons val_int (.cons val_int (.cons val_int (.cons val_int (.cons val_int (.cons val_int (.cons val_int (.cons val_int .nil)))))))))⟩,
      r_WITH_LIST := ⟨_, PySem.W.mg_of X G g_WITH_LIST, tup_at r_WITH_LIST (Nat.le_of_ble_eq_true rfl) (.cons val_int (.cons val_int (.cons val_int (.cons val_int (.cons val_int .nil)))))⟩,
      clD := ⟨pgD, hdD, poD, saD⟩,
      dc := dc,
      dr := dr,
      dn := dn,
      gD := PySem.W.mg_of X G aD,
      clK := ⟨pgE, hdE, poE, saE⟩,
      ed := ed,
      gK := PySem.W.mg_of X G aE,
      xR := ⟨⟨_, _, _, _, _, _, _, _, _, _, _, _, _, _, _, xR, by decide +kernel⟩, saR, bR, tR, kR⟩,
      fR := ⟨gaR, ggR, bR, hdR⟩,
      rc := rc,
      gR := PySem.W.mg_of X G aR,
      vV := vV,
      eR := exm_is bR iR tR sRR,
      xN := xN,
      gN := PySem.W.mg_of X G aN,
      kN := kN,
      bN := bN,
      tN := tN,
      eNR := exm_is bR iR tR sNR,
      eN := exm_is bN iN tN sNN,
      xL := xL,
      gL := PySem.W.mg_of X G aL,
      kL := kL,
      bL := bL,
      tL := tL,
      eLR := exm_is bR iR tR sLR,
      eLN := exm_is bN iN tN sLN,
      eL := exm_is bL iL tL sLL }
  have F_common := fun_mk (st := s_common) l_common c_common k_common
  have B_common := F_common.binds (ps := ["one", "other"]) fun _ _ _ _ _ _ us hl => match us, hl with | [_, _], _ => rfl
  have F_ratio := fun_mk (st := s_ratio) l_ratio c_ratio k_ratio
  have B_ratio := F_ratio.binds (ps := ["above", "below"]) fun _ _ _ _ _ _ us hl => match us, hl with | [_, _], _ => rfl
  have F_plus := fun_mk (st := s_plus) l_plus c_plus k_plus
  have B_plus := F_plus.binds (ps := ["one", "other"]) fun _ _ _ _ _ _ us hl => match us, hl with | [_, _], _ => rfl
  have F_times := fun_mk (st := s_times) l_times c_times k_times
  have B_times := F_times.binds (ps := ["one", "other"]) fun _ _ _ _ _ _ us hl => match us, hl with | [_, _], _ => rfl
  have F_is_less := fun_mk (st := s_is_less) l_is_less c_is_less k_is_less
  have B_is_less := F_is_less.binds (ps := ["one", "other"]) fun _ _ _ _ _ _ us hl => match us, hl with | [_, _], _ => rfl
  have F_moved := fun_mk (st := s_moved) l_moved c_moved k_moved
  have B_moved := F_moved.binds (ps := ["matrix", "row", "by"]) fun _ _ _ _ _ _ us hl => match us, hl with | [_, _, _], _ => rfl
  have F_nothing := fun_mk (st := s_nothing) l_nothing c_nothing k_nothing
  have B_nothing := F_nothing.binds (ps := ["columns"]) fun _ _ _ _ _ _ us hl => match us, hl with | [_], _ => rfl
  have F_information := fun_mk (st := s_information) l_information c_information k_information
  have B_information := F_information.binds (ps := ["columns", "rows", "counts"]) fun _ _ _ _ _ _ us hl => match us, hl with | [_, _, _], _ => rfl
  have F_less := fun_mk (st := s_less) l_less c_less k_less
  have B_less := F_less.binds (ps := ["matrix", "other"]) fun _ _ _ _ _ _ us hl => match us, hl with | [_, _], _ => rfl
  have F_without := fun_mk (st := s_without) l_without c_without k_without
  have B_without := F_without.binds (ps := ["matrix", "at", "column"]) fun _ _ _ _ _ _ us hl => match us, hl with | [_, _, _], _ => rfl
  have F_determinant := fun_mk (st := s_determinant) l_determinant c_determinant k_determinant
  have B_determinant := F_determinant.binds (ps := ["matrix"]) fun _ _ _ _ _ _ us hl => match us, hl with | [_], _ => rfl
  have F_cofactor := fun_mk (st := s_cofactor) l_cofactor c_cofactor k_cofactor
  have B_cofactor := F_cofactor.binds (ps := ["matrix", "at", "column"]) fun _ _ _ _ _ _ us hl => match us, hl with | [_, _, _], _ => rfl
  have F_cofactors := fun_mk (st := s_cofactors) l_cofactors c_cofactors k_cofactors
  have B_cofactors := F_cofactors.binds (ps := ["matrix"]) fun _ _ _ _ _ _ us hl => match us, hl with | [_], _ => rfl
  have F_weighed := fun_mk (st := s_weighed) l_weighed c_weighed k_weighed
  have B_weighed := F_weighed.binds (ps := ["matrix", "vector"]) fun _ _ _ _ _ _ us hl => match us, hl with | [_, _], _ => rfl
  have F_variance := fun_mk (st := s_variance) l_variance c_variance k_variance
  have B_variance := F_variance.binds (ps := ["adjoined", "size", "vector"]) fun _ _ _ _ _ _ us hl => match us, hl with | [_, _, _], _ => rfl
  have F_trace := fun_mk (st := s_trace) l_trace c_trace k_trace
  have B_trace := F_trace.binds (ps := ["matrix"]) fun _ _ _ _ _ _ us hl => match us, hl with | [_], _ => rfl
  have F_chosen := fun_mk (st := s_chosen) l_chosen c_chosen k_chosen
  have B_chosen := F_chosen.binds (ps := ["matrix", "places"]) fun _ _ _ _ _ _ us hl => match us, hl with | [_, _], _ => rfl
  have F_all_places := fun_mk (st := s_all_places) l_all_places c_all_places k_all_places
  have B_all_places := F_all_places.binds (ps := ["many"]) fun _ _ _ _ _ _ us hl => match us, hl with | [_], _ => rfl
  have F_has_no_negative_minor := fun_mk (st := s_has_no_negative_minor) l_has_no_negative_minor c_has_no_negative_minor k_has_no_negative_minor
  have B_has_no_negative_minor := F_has_no_negative_minor.binds (ps := ["matrix"]) fun _ _ _ _ _ _ us hl => match us, hl with | [_], _ => rfl
  have F_Design_init := fun_mk (st := s_Design___init__) l_Design_init c_Design_init k_Design_init
  have B_Design_init := F_Design_init.binds (ps := ["self", "columns", "rows", "counts"]) fun _ _ _ _ _ _ us hl => match us, hl with | [_, _, _, _], _ => rfl
  have F_Design_size := fun_mk (st := s_Design_size) l_Design_size c_Design_size k_Design_size
  have B_Design_size := F_Design_size.binds (ps := ["self"]) fun _ _ _ _ _ _ us hl => match us, hl with | [_], _ => rfl
  have F_Design_with_counts := fun_mk (st := s_Design_with_counts) l_Design_with_counts c_Design_with_counts k_Design_with_counts
  have B_Design_with_counts := F_Design_with_counts.binds (ps := ["self", "counts"]) fun _ _ _ _ _ _ us hl => match us, hl with | [_, _], _ => rfl
  have F_Design_matrix := fun_mk (st := s_Design_matrix) l_Design_matrix c_Design_matrix k_Design_matrix
  have B_Design_matrix := F_Design_matrix.binds (ps := ["self"]) fun _ _ _ _ _ _ us hl => match us, hl with | [_], _ => rfl
  have F_Design_worth := fun_mk (st := s_Design_worth) l_Design_worth c_Design_worth k_Design_worth
  have B_Design_worth := F_Design_worth.binds (ps := ["self"]) fun _ _ _ _ _ _ us hl => match us, hl with | [_], _ => rfl
  have F_Design_regular_matrix := fun_mk (st := s_Design_regular_matrix) l_Design_regular_matrix c_Design_regular_matrix k_Design_regular_matrix
  have B_Design_regular_matrix := F_Design_regular_matrix.binds (ps := ["self"]) fun _ _ _ _ _ _ us hl => match us, hl with | [_], _ => rfl
  have F_Design_own_trace := fun_mk (st := s_Design_own_trace) l_Design_own_trace c_Design_own_trace k_Design_own_trace
  have B_Design_own_trace := F_Design_own_trace.binds (ps := ["self"]) fun _ _ _ _ _ _ us hl => match us, hl with | [_], _ => rfl
  have F_Design_variances := fun_mk (st := s_Design_variances) l_Design_variances c_Design_variances k_Design_variances
  have B_Design_variances := F_Design_variances.binds (ps := ["self", "vectors"]) fun _ _ _ _ _ _ us hl => match us, hl with | [_, _], _ => rfl
  have F_Design_worst := fun_mk (st := s_Design_worst) l_Design_worst c_Design_worst k_Design_worst
  have B_Design_worst := F_Design_worst.binds (ps := ["self"]) fun _ _ _ _ _ _ us hl => match us, hl with | [_], _ => rfl
  have F_power := fun_mk (st := s_power) l_power c_power k_power
  have B_power := F_power.binds (ps := ["number", "many"]) fun _ _ _ _ _ _ us hl => match us, hl with | [_, _], _ => rfl
  have F_Design_bound := fun_mk (st := s_Design_bound) l_Design_bound c_Design_bound k_Design_bound
  have B_Design_bound := F_Design_bound.binds (ps := ["self", "size"]) fun _ _ _ _ _ _ us hl => match us, hl with | [_, _], _ => rfl
  have F_stepped := fun_mk (st := s_stepped) l_stepped c_stepped k_stepped
  have B_stepped := F_stepped.binds (ps := ["counts", "at", "by"]) fun _ _ _ _ _ _ us hl => match us, hl with | [_, _, _], _ => rfl
  have F_exchanged := fun_mk (st := s_exchanged) l_exchanged c_exchanged k_exchanged
  have B_exchanged := F_exchanged.binds (ps := ["design", "exchange"]) fun _ _ _ _ _ _ us hl => match us, hl with | [_, _], _ => rfl
  have F_best_exchange := fun_mk (st := s_best_exchange) l_best_exchange c_best_exchange k_best_exchange
  have B_best_exchange := F_best_exchange.binds (ps := ["design"]) fun _ _ _ _ _ _ us hl => match us, hl with | [_], _ => rfl
  have F_best_step := fun_mk (st := s_best_step) l_best_step c_best_step k_best_step
  have B_best_step := F_best_step.binds (ps := ["design", "places", "by"]) fun _ _ _ _ _ _ us hl => match us, hl with | [_, _, _], _ => rfl
  have F_lists_of := fun_mk (st := s_lists_of) l_lists_of c_lists_of k_lists_of
  have B_lists_of := F_lists_of.binds (ps := ["many", "size"]) fun _ _ _ _ _ _ us hl => match us, hl with | [_, _], _ => rfl
  have F_all_counts := fun_mk (st := s_all_counts) l_all_counts c_all_counts k_all_counts
  have B_all_counts := F_all_counts.binds (ps := ["many", "size"]) fun _ _ _ _ _ _ us hl => match us, hl with | [_, _], _ => rfl
  have F_regular_designs := fun_mk (st := s_regular_designs) l_regular_designs c_regular_designs k_regular_designs
  have B_regular_designs := F_regular_designs.binds (ps := ["design", "size"]) fun _ _ _ _ _ _ us hl => match us, hl with | [_, _], _ => rfl
  have F_best_design := fun_mk (st := s_best_design) l_best_design c_best_design k_best_design
  have B_best_design := F_best_design.binds (ps := ["design", "size"]) fun _ _ _ _ _ _ us hl => match us, hl with | [_, _], _ => rfl
  have F_best_by_trace := fun_mk (st := s_best_by_trace) l_best_by_trace c_best_by_trace k_best_by_trace
  have B_best_by_trace := F_best_by_trace.binds (ps := ["design", "size"]) fun _ _ _ _ _ _ us hl => match us, hl with | [_, _], _ => rfl
  have F_shared_below := fun_mk (st := s_shared_below) l_shared_below c_shared_below k_shared_below
  have B_shared_below := F_shared_below.binds (ps := ["weights"]) fun _ _ _ _ _ _ us hl => match us, hl with | [_], _ => rfl
  have F_stepped_on := fun_mk (st := s_stepped_on) l_stepped_on c_stepped_on k_stepped_on
  have B_stepped_on := F_stepped_on.binds (ps := ["columns", "rows", "weights"]) fun _ _ _ _ _ _ us hl => match us, hl with | [_, _, _], _ => rfl
  have F_weights_behind := fun_mk (st := s_weights_behind) l_weights_behind c_weights_behind k_weights_behind
  have B_weights_behind := F_weights_behind.binds (ps := ["design", "steps"]) fun _ _ _ _ _ _ us hl => match us, hl with | [_, _], _ => rfl
  have F_Refused_init := fun_mk (st := s_Refused___init__) l_Refused_init c_Refused_init k_Refused_init
  have B_Refused_init := F_Refused_init.binds (ps := ["self", "code"]) fun _ _ _ _ _ _ us hl => match us, hl with | [_, _], _ => rfl
  have F_need := fun_mk (st := s_need) l_need c_need k_need
  have B_need := F_need.binds (ps := ["is_so", "code"]) fun _ _ _ _ _ _ us hl => match us, hl with | [_, _], _ => rfl
  have F_need_range := fun_mk (st := s_need_range) l_need_range c_need_range k_need_range
  have B_need_range := F_need_range.binds (ps := ["number", "least", "most"]) fun _ _ _ _ _ _ us hl => match us, hl with | [_, _, _], _ => rfl
  have F_told := fun_mk (st := s_told) l_told c_told k_told
  have B_told := F_told.binds (ps := ["fractions"]) fun _ _ _ _ _ _ us hl => match us, hl with | [_], _ => rfl
  have F_sign_of := fun_mk (st := s_sign_of) l_sign_of c_sign_of k_sign_of
  have B_sign_of := F_sign_of.binds (ps := ["is_more", "is_fewer"]) fun _ _ _ _ _ _ us hl => match us, hl with | [_, _], _ => rfl
  have F_Desk_init := fun_mk (st := s_Desk___init__) l_Desk_init c_Desk_init k_Desk_init
  have B_Desk_init := F_Desk_init.binds (ps := ["self"]) fun _ _ _ _ _ _ us hl => match us, hl with | [_], _ => rfl
  have F_Desk_need_row := fun_mk (st := s_Desk_need_row) l_Desk_need_row c_Desk_need_row k_Desk_need_row
  have B_Desk_need_row := F_Desk_need_row.binds (ps := ["self", "row"]) fun _ _ _ _ _ _ us hl => match us, hl with | [_, _], _ => rfl
  have F_Desk_need_counts := fun_mk (st := s_Desk_need_counts) l_Desk_need_counts c_Desk_need_counts k_Desk_need_counts
  have B_Desk_need_counts := F_Desk_need_counts.binds (ps := ["self", "counts"]) fun _ _ _ _ _ _ us hl => match us, hl with | [_, _], _ => rfl
  have F_Desk_need_candidate := fun_mk (st := s_Desk_need_candidate) l_Desk_need_candidate c_Desk_need_candidate k_Desk_need_candidate
  have B_Desk_need_candidate := F_Desk_need_candidate.binds (ps := ["self", "number"]) fun _ _ _ _ _ _ us hl => match us, hl with | [_, _], _ => rfl
  have F_create := fun_mk (st := s_create) l_create c_create k_create
  have B_create := F_create.binds (ps := ["desk", "number", "row"]) fun _ _ _ _ _ _ us hl => match us, hl with | [_, _, _], _ => rfl
  have F_add_candidate := fun_mk (st := s_add_candidate) l_add_candidate c_add_candidate k_add_candidate
  have B_add_candidate := F_add_candidate.binds (ps := ["desk", "number", "row"]) fun _ _ _ _ _ _ us hl => match us, hl with | [_, _, _], _ => rfl
  have F_remove_candidate := fun_mk (st := s_remove_candidate) l_remove_candidate c_remove_candidate k_remove_candidate
  have B_remove_candidate := F_remove_candidate.binds (ps := ["desk", "number", "row"]) fun _ _ _ _ _ _ us hl => match us, hl with | [_, _, _], _ => rfl
  have F_get_candidate := fun_mk (st := s_get_candidate) l_get_candidate c_get_candidate k_get_candidate
  have B_get_candidate := F_get_candidate.binds (ps := ["desk", "number", "row"]) fun _ _ _ _ _ _ us hl => match us, hl with | [_, _, _], _ => rfl
  have F_set_counts := fun_mk (st := s_set_counts) l_set_counts c_set_counts k_set_counts
  have B_set_counts := F_set_counts.binds (ps := ["desk", "number", "row"]) fun _ _ _ _ _ _ us hl => match us, hl with | [_, _, _], _ => rfl
  have F_ask_counts := fun_mk (st := s_ask_counts) l_ask_counts c_ask_counts k_ask_counts
  have B_ask_counts := F_ask_counts.binds (ps := ["desk", "number", "row"]) fun _ _ _ _ _ _ us hl => match us, hl with | [_, _, _], _ => rfl
  have F_ask_determinant := fun_mk (st := s_ask_determinant) l_ask_determinant c_ask_determinant k_ask_determinant
  have B_ask_determinant := F_ask_determinant.binds (ps := ["desk", "number", "row"]) fun _ _ _ _ _ _ us hl => match us, hl with | [_, _, _], _ => rfl
  have F_summary := fun_mk (st := s_summary) l_summary c_summary k_summary
  have B_summary := F_summary.binds (ps := ["desk", "number", "row"]) fun _ _ _ _ _ _ us hl => match us, hl with | [_, _, _], _ => rfl
  have F_ask_information := fun_mk (st := s_ask_information) l_ask_information c_ask_information k_ask_information
  have B_ask_information := F_ask_information.binds (ps := ["desk", "number", "row"]) fun _ _ _ _ _ _ us hl => match us, hl with | [_, _, _], _ => rfl
  have F_ask_trace := fun_mk (st := s_ask_trace) l_ask_trace c_ask_trace k_ask_trace
  have B_ask_trace := F_ask_trace.binds (ps := ["desk", "number", "row"]) fun _ _ _ _ _ _ us hl => match us, hl with | [_, _, _], _ => rfl
  have F_ask_variance := fun_mk (st := s_ask_variance) l_ask_variance c_ask_variance k_ask_variance
  have B_ask_variance := F_ask_variance.binds (ps := ["desk", "number", "row"]) fun _ _ _ _ _ _ us hl => match us, hl with | [_, _, _], _ => rfl
  have F_candidate_variances := fun_mk (st := s_candidate_variances) l_candidate_variances c_candidate_variances k_candidate_variances
  have B_candidate_variances := F_candidate_variances.binds (ps := ["desk", "number", "row"]) fun _ _ _ _ _ _ us hl => match us, hl with | [_, _, _], _ => rfl
  have F_ask_bound := fun_mk (st := s_ask_bound) l_ask_bound c_ask_bound k_ask_bound
  have B_ask_bound := F_ask_bound.binds (ps := ["desk", "number", "row"]) fun _ _ _ _ _ _ us hl => match us, hl with | [_, _, _], _ => rfl
  have F_exchange := fun_mk (st := s_exchange) l_exchange c_exchange k_exchange
  have B_exchange := F_exchange.binds (ps := ["desk", "number", "row"]) fun _ _ _ _ _ _ us hl => match us, hl with | [_, _, _], _ => rfl
  have F_improve := fun_mk (st := s_improve) l_improve c_improve k_improve
  have B_improve := F_improve.binds (ps := ["desk", "number", "row"]) fun _ _ _ _ _ _ us hl => match us, hl with | [_, _, _], _ => rfl
  have F_is_optimal := fun_mk (st := s_is_optimal) l_is_optimal c_is_optimal k_is_optimal
  have B_is_optimal := F_is_optimal.binds (ps := ["desk", "number", "row"]) fun _ _ _ _ _ _ us hl => match us, hl with | [_, _, _], _ => rfl
  have F_take_step := fun_mk (st := s_take_step) l_take_step c_take_step k_take_step
  have B_take_step := F_take_step.binds (ps := ["desk", "places", "by"]) fun _ _ _ _ _ _ us hl => match us, hl with | [_, _, _], _ => rfl
  have F_add := fun_mk (st := s_add) l_add c_add k_add
  have B_add := F_add.binds (ps := ["desk", "number", "row"]) fun _ _ _ _ _ _ us hl => match us, hl with | [_, _, _], _ => rfl
  have F_remove := fun_mk (st := s_remove) l_remove c_remove k_remove
  have B_remove := F_remove.binds (ps := ["desk", "number", "row"]) fun _ _ _ _ _ _ us hl => match us, hl with | [_, _, _], _ => rfl
  have F_best := fun_mk (st := s_best) l_best c_best k_best
  have B_best := F_best.binds (ps := ["desk", "number", "row"]) fun _ _ _ _ _ _ us hl => match us, hl with | [_, _, _], _ => rfl
  have F_take_best := fun_mk (st := s_take_best) l_take_best c_take_best k_take_best
  have B_take_best := F_take_best.binds (ps := ["desk", "number", "row"]) fun _ _ _ _ _ _ us hl => match us, hl with | [_, _, _], _ => rfl
  have F_ask_best_by_trace := fun_mk (st := s_ask_best_by_trace) l_ask_best_by_trace c_ask_best_by_trace k_ask_best_by_trace
  have B_ask_best_by_trace := F_ask_best_by_trace.binds (ps := ["desk", "number", "row"]) fun _ _ _ _ _ _ us hl => match us, hl with | [_, _, _], _ => rfl
  have F_ask_weights := fun_mk (st := s_ask_weights) l_ask_weights c_ask_weights k_ask_weights
  have B_ask_weights := F_ask_weights.binds (ps := ["desk", "number", "row"]) fun _ _ _ _ _ _ us hl => match us, hl with | [_, _, _], _ => rfl
  have F_compare := fun_mk (st := s_compare) l_compare c_compare k_compare
  have B_compare := F_compare.binds (ps := ["desk", "number", "row"]) fun _ _ _ _ _ _ us hl => match us, hl with | [_, _, _], _ => rfl
  have F_is_at_least_as_good := fun_mk (st := s_is_at_least_as_good) l_is_at_least_as_good c_is_at_least_as_good k_is_at_least_as_good
  have B_is_at_least_as_good := F_is_at_least_as_good.binds (ps := ["desk", "number", "row"]) fun _ _ _ _ _ _ us hl => match us, hl with | [_, _, _], _ => rfl
  have F_answer := fun_mk (st := s_answer) l_answer c_answer k_answer
  have B_answer := F_answer.binds (ps := ["desk", "call", "number", "row"]) fun _ _ _ _ _ _ us hl => match us, hl with | [_, _, _, _], _ => rfl
  have F_answers := fun_mk (st := s_answers) l_answers c_answers k_answers
  have B_answers := F_answers.binds (ps := ["calls"]) fun _ _ _ _ _ _ us hl => match us, hl with | [_], _ => rfl
  refine ⟨PySem.W.fnOf "answers" "answers" (defArgs s_answers) (defBody s_answers) (defScope s_answers) .none kv_answers dc_answers pm_answers an_answers cd_answers ct_answers, fun s us hu => match us, hu with | [_], _ => .of_eq rfl, fun base _ _ => ?_⟩
  have C_common : Cal P w K mg base CX0 1 "common" ["one", "other"] spCommon := ⟨_, _, (ok_common F_common T ), PySem.W.mg_of X G a_common, k_common, B_common⟩
  have C_ratio : Cal P w K mg base CX0 2 "ratio" ["above", "below"] spRatio := ⟨_, _, (ok_ratio F_ratio T (c_common := C_common)), PySem.W.mg_of X G a_ratio, k_ratio, B_ratio⟩
  have C_plus : Cal P w K mg base CX0 3 "plus" ["one", "other"] (spPlus K) := ⟨_, _, (ok_plus F_plus T (c_ratio := C_ratio)), PySem.W.mg_of X G a_plus, k_plus, B_plus⟩
  have C_times : Cal P w K mg base CX0 3 "times" ["one", "other"] (spTimes K) := ⟨_, _, (ok_times F_times T (c_ratio := C_ratio)), PySem.W.mg_of X G a_times, k_times, B_times⟩
  have C_is_less : Cal P w K mg base CX0 1 "is_less" ["one", "other"] (spIsLess K) := ⟨_, _, (ok_is_less F_is_less T ), PySem.W.mg_of X G a_is_less, k_is_less, B_is_less⟩
  have C_moved : Cal P w K mg base CX0 1 "moved" ["matrix", "row", "by"] spMoved := ⟨_, _, (ok_moved F_moved T ), PySem.W.mg_of X G a_moved, k_moved, B_moved⟩
  have C_nothing : Cal P w K mg base CX0 1 "nothing" ["columns"] spNothing := ⟨_, _, (ok_nothing F_nothing T ), PySem.W.mg_of X G a_nothing, k_nothing, B_nothing⟩
  have C_information : Cal P w K mg base CX0 2 "information" ["columns", "rows", "counts"] spInfo := ⟨_, _, (ok_information F_information T (c_nothing := C_nothing) (c_moved := C_moved)), PySem.W.mg_of X G a_information, k_information, B_information⟩
  have C_less : Cal P w K mg base CX0 1 "less" ["matrix", "other"] spLess := ⟨_, _, (ok_less F_less T ), PySem.W.mg_of X G a_less, k_less, B_less⟩
  have C_without : Cal P w K mg base CX0 1 "without" ["matrix", "at", "column"] spWithout := ⟨_, _, (ok_without F_without T ), PySem.W.mg_of X G a_without, k_without, B_without⟩
  have C_determinant : Cal P w K mg base CX0 6 "determinant" ["matrix"] (spDet 5) := ⟨_, _, ok_determinant F_determinant (PySem.W.mg_of X G a_determinant) B_determinant T C_without 5, PySem.W.mg_of X G a_determinant, k_determinant, B_determinant⟩
  have C_cofactor : Cal P w K mg base CX0 7 "cofactor" ["matrix", "at", "column"] spCof := ⟨_, _, (ok_cofactor F_cofactor T (c_without := C_without) (c_determinant := C_determinant)), PySem.W.mg_of X G a_cofactor, k_cofactor, B_cofactor⟩
  have C_cofactors : Cal P w K mg base CX0 8 "cofactors" ["matrix"] spCofs := ⟨_, _, (ok_cofactors F_cofactors T (c_cofactor := C_cofactor)), PySem.W.mg_of X G a_cofactors, k_cofactors, B_cofactors⟩
  have C_weighed : Cal P w K mg base CX0 1 "weighed" ["matrix", "vector"] spWeighed := ⟨_, _, (ok_weighed F_weighed T ), PySem.W.mg_of X G a_weighed, k_weighed, B_weighed⟩
  have C_variance : Cal P w K mg base CX0 3 "variance" ["adjoined", "size", "vector"] spVariance := ⟨_, _, (ok_variance F_variance T (c_ratio := C_ratio) (c_weighed := C_weighed)), PySem.W.mg_of X G a_variance, k_variance, B_variance⟩
  have C_trace : Cal P w K mg base CX0 8 "trace" ["matrix"] (spTrace K) := ⟨_, _, (ok_trace F_trace T (c_ratio := C_ratio) (c_plus := C_plus) (c_determinant := C_determinant) (c_cofactor := C_cofactor)), PySem.W.mg_of X G a_trace, k_trace, B_trace⟩
  have C_chosen : Cal P w K mg base CX0 1 "chosen" ["matrix", "places"] spChosen := ⟨_, _, (ok_chosen F_chosen T ), PySem.W.mg_of X G a_chosen, k_chosen, B_chosen⟩
  have C_all_places : Cal P w K mg base CX0 1 "all_places" ["many"] spAllPlaces := ⟨_, _, (ok_all_places F_all_places T ), PySem.W.mg_of X G a_all_places, k_all_places, B_all_places⟩
  have C_has_no_negative_minor : Cal P w K mg base CX0 7 "has_no_negative_minor" ["matrix"] spNoNeg := ⟨_, _, (ok_has_no_negative_minor F_has_no_negative_minor T (c_determinant := C_determinant) (c_chosen := C_chosen) (c_all_places := C_all_places)), PySem.W.mg_of X G a_has_no_negative_minor, k_has_no_negative_minor, B_has_no_negative_minor⟩
  have C_Design : Kal P w K mg base 1 "Design" D ["self", "columns", "rows", "counts"] (spDInit D) := ⟨_, _, ⟨mkD, a_Design_init, y_Design_init, kcD⟩, (ok_Design_init F_Design_init T ), PySem.W.mg_of X G aD, B_Design_init⟩
  have M_Design_size : Mal P w K mg base CX0 1 D "size" ["self"] (spSize D) := ⟨_, _, (ok_Design_size F_Design_size T ), ⟨a_Design_size, y_Design_size, k_Design_size⟩, B_Design_size⟩
  have M_Design_with_counts : Mal P w K mg base CX0 3 D "with_counts" ["self", "counts"] (spWith D) := ⟨_, _, (ok_Design_with_counts F_Design_with_counts T (c_Design := C_Design)), ⟨a_Design_with_counts, y_Design_with_counts, k_Design_with_counts⟩, B_Design_with_counts⟩
  have M_Design_matrix : Mal P w K mg base CX0 3 D "matrix" ["self"] (spMatrix D) := ⟨_, _, (ok_Design_matrix F_Design_matrix T (c_information := C_information)), ⟨a_Design_matrix, y_Design_matrix, k_Design_matrix⟩, B_Design_matrix⟩
  have M_Design_worth : Mal P w K mg base CX0 7 D "worth" ["self"] (spWorth D) := ⟨_, _, (ok_Design_worth F_Design_worth T (c_determinant := C_determinant) (c_matrix := M_Design_matrix)), ⟨a_Design_worth, y_Design_worth, k_Design_worth⟩, B_Design_worth⟩
  have M_Design_regular_matrix : Mal P w K mg base (L2.CX P w) 7 D "regular_matrix" ["self"] (spRegular D N) := ⟨_, _, (ok_Design_regular_matrix F_Design_regular_matrix T (c_determinant := C_determinant) (c_matrix := M_Design_matrix)), ⟨a_Design_regular_matrix, y_Design_regular_matrix, k_Design_regular_matrix⟩, B_Design_regular_matrix⟩
  have M_Design_own_trace : Mal P w K mg base (L2.CX P w) 9 D "own_trace" ["self"] (spOwnTrace K D N) := ⟨_, _, (ok_Design_own_trace F_Design_own_trace T (c_trace := C_trace) (c_regular_matrix := M_Design_regular_matrix)), ⟨a_Design_own_trace, y_Design_own_trace, k_Design_own_trace⟩, B_Design_own_trace⟩
  have M_Design_variances : Mal P w K mg base (L2.CX P w) 9 D "variances" ["self", "vectors"] (spVariances D N) := ⟨_, _, (ok_Design_variances F_Design_variances T (c_determinant := C_determinant) (c_cofactors := C_cofactors) (c_variance := C_variance) (c_regular_matrix := M_Design_regular_matrix)), ⟨a_Design_variances, y_Design_variances, k_Design_variances⟩, B_Design_variances⟩
  have M_Design_worst : Mal P w K mg base (L2.CX P w) 11 D "worst" ["self"] (spWorst D N) := ⟨_, _, (ok_Design_worst F_Design_worst T (c_is_less := C_is_less) (c_variances := M_Design_variances)), ⟨a_Design_worst, y_Design_worst, k_Design_worst⟩, B_Design_worst⟩
  have C_power : Cal P w K mg base CX0 1 "power" ["number", "many"] spPower := ⟨_, _, (ok_power F_power T ), PySem.W.mg_of X G a_power, k_power, B_power⟩
  have M_Design_bound : Mal P w K mg base (L2.CX P w) 13 D "bound" ["self", "size"] (spBound D N) := ⟨_, _, (ok_Design_bound F_Design_bound T (c_power := C_power) (c_worth := M_Design_worth) (c_worst := M_Design_worst)), ⟨a_Design_bound, y_Design_bound, k_Design_bound⟩, B_Design_bound⟩
  have C_stepped : Cal P w K mg base CX0 1 "stepped" ["counts", "at", "by"] spStepped := ⟨_, _, (ok_stepped F_stepped T ), PySem.W.mg_of X G a_stepped, k_stepped, B_stepped⟩
  have C_exchanged : Cal P w K mg base CX0 4 "exchanged" ["design", "exchange"] (spExchanged D) := ⟨_, _, (ok_exchanged F_exchanged T (c_stepped := C_stepped) (c_with_counts := M_Design_with_counts)), PySem.W.mg_of X G a_exchanged, k_exchanged, B_exchanged⟩
  have C_best_exchange : Cal P w K mg base CX0 9 "best_exchange" ["design"] (spBestEx D) := ⟨_, _, (ok_best_exchange F_best_exchange T (c_moved := C_moved) (c_determinant := C_determinant) (c_matrix := M_Design_matrix) (c_worth := M_Design_worth)), PySem.W.mg_of X G a_best_exchange, k_best_exchange, B_best_exchange⟩
  have C_best_step : Cal P w K mg base CX0 9 "best_step" ["design", "places", "by"] (spBestStep D) := ⟨_, _, (ok_best_step F_best_step T (c_moved := C_moved) (c_determinant := C_determinant) (c_matrix := M_Design_matrix)), PySem.W.mg_of X G a_best_step, k_best_step, B_best_step⟩
  have C_lists_of : Cal P w K mg base CX0 1 "lists_of" ["many", "size"] spListsOf := ⟨_, _, (ok_lists_of F_lists_of T ), PySem.W.mg_of X G a_lists_of, k_lists_of, B_lists_of⟩
  have C_all_counts : Cal P w K mg base CX0 1 "all_counts" ["many", "size"] spAllCounts := ⟨_, _, (ok_all_counts F_all_counts T ), PySem.W.mg_of X G a_all_counts, k_all_counts, B_all_counts⟩
  have C_regular_designs : Cal P w K mg base (L2.CX P w) 9 "regular_designs" ["design", "size"] (spRegDes D N L) := ⟨_, _, (ok_regular_designs F_regular_designs T (c_lists_of := C_lists_of) (c_all_counts := C_all_counts) (c_determinant := C_determinant) (c_matrix := M_Design_matrix) (c_with_counts := M_Design_with_counts)), PySem.W.mg_of X G a_regular_designs, k_regular_designs, B_regular_designs⟩
  have C_best_design : Cal P w K mg base (L2.CX P w) 10 "best_design" ["design", "size"] (spBestDesign D N L) := ⟨_, _, (ok_best_design F_best_design T (c_regular_designs := C_regular_designs)), PySem.W.mg_of X G a_best_design, k_best_design, B_best_design⟩
  have C_best_by_trace : Cal P w K mg base (L2.CX P w) 10 "best_by_trace" ["design", "size"] (spBestTrace K D N L) := ⟨_, _, (ok_best_by_trace F_best_by_trace T (c_regular_designs := C_regular_designs) (c_trace := C_trace) (c_is_less := C_is_less)), PySem.W.mg_of X G a_best_by_trace, k_best_by_trace, B_best_by_trace⟩
  have C_shared_below : Cal P w K mg base CX0 3 "shared_below" ["weights"] (spShared K) := ⟨_, _, (ok_shared_below F_shared_below T (c_ratio := C_ratio)), PySem.W.mg_of X G a_shared_below, k_shared_below, B_shared_below⟩
  have C_stepped_on : Cal P w K mg base CX0 9 "stepped_on" ["columns", "rows", "weights"] spSteppedOn := ⟨_, _, (ok_stepped_on F_stepped_on T (c_shared_below := C_shared_below) (c_information := C_information) (c_determinant := C_determinant) (c_cofactors := C_cofactors) (c_variance := C_variance) (c_ratio := C_ratio) (c_times := C_times)), PySem.W.mg_of X G a_stepped_on, k_stepped_on, B_stepped_on⟩
  have C_weights_behind : Cal P w K mg base (L2.CX P w) 10 "weights_behind" ["design", "steps"] (spWeights D N) := ⟨_, _, (ok_weights_behind F_weights_behind T (c_ratio := C_ratio) (c_stepped_on := C_stepped_on) (c_with_counts := M_Design_with_counts) (c_regular_matrix := M_Design_regular_matrix)), PySem.W.mg_of X G a_weights_behind, k_weights_behind, B_weights_behind⟩
  have C_Refused : Ral P w K mg base 1 R ["self", "code"] (spRInit R) := ⟨_, _, a_Refused_init, tRi, (ok_Refused_init F_Refused_init T ), B_Refused_init⟩
  have C_need : Cal P w K mg base (L2.CX P w) 3 "need" ["is_so", "code"] (spNeed R) := ⟨_, _, (ok_need F_need T (c_Refused := C_Refused)), PySem.W.mg_of X G a_need, k_need, B_need⟩
  have C_need_range : Cal P w K mg base (L2.CX P w) 4 "need_range" ["number", "least", "most"] (spNeedRange R) := ⟨_, _, (ok_need_range F_need_range T (c_need := C_need)), PySem.W.mg_of X G a_need_range, k_need_range, B_need_range⟩
  have C_told : Cal P w K mg base CX0 1 "told" ["fractions"] (spTold K) := ⟨_, _, (ok_told F_told T ), PySem.W.mg_of X G a_told, k_told, B_told⟩
  have C_sign_of : Cal P w K mg base CX0 1 "sign_of" ["is_more", "is_fewer"] spSignOf := ⟨_, _, (ok_sign_of F_sign_of T ), PySem.W.mg_of X G a_sign_of, k_sign_of, B_sign_of⟩
  have C_Desk : Kal P w K mg base 1 "Desk" E ["self"] (spKInit E) := ⟨_, _, ⟨mkE, a_Desk_init, y_Desk_init, kcE⟩, (ok_Desk_init F_Desk_init T ), PySem.W.mg_of X G aE, B_Desk_init⟩
  have M_Desk_need_row : Mal P w K mg base (L2.CX P w) 4 E "need_row" ["self", "row"] (spNeedRow E D R) := ⟨_, _, (ok_Desk_need_row F_Desk_need_row T (c_need := C_need)), ⟨a_Desk_need_row, y_Desk_need_row, k_Desk_need_row⟩, B_Desk_need_row⟩
  have M_Desk_need_counts : Mal P w K mg base (L2.CX P w) 4 E "need_counts" ["self", "counts"] (spNeedCounts E D R) := ⟨_, _, (ok_Desk_need_counts F_Desk_need_counts T (c_need := C_need)), ⟨a_Desk_need_counts, y_Desk_need_counts, k_Desk_need_counts⟩, B_Desk_need_counts⟩
  have M_Desk_need_candidate : Mal P w K mg base (L2.CX P w) 4 E "need_candidate" ["self", "number"] (spNeedCand E D R) := ⟨_, _, (ok_Desk_need_candidate F_Desk_need_candidate T (c_need := C_need)), ⟨a_Desk_need_candidate, y_Desk_need_candidate, k_Desk_need_candidate⟩, B_Desk_need_candidate⟩
  have L_create : Fal P w K mg base (L2.CX P w) 14 f_create ["desk", "number", "row"] (spCreate E D R N L) := ⟨_, (ok_create F_create T (c_need_range := C_need_range) (c_Design := C_Design)), k_create, B_create⟩
  have L_add_candidate : Fal P w K mg base (L2.CX P w) 14 f_add_candidate ["desk", "number", "row"] (spDeed E D R N L dAdd) := ⟨_, (ok_add_candidate F_add_candidate T (c_need := C_need) (c_need_row := M_Desk_need_row) (c_Design := C_Design)), k_add_candidate, B_add_candidate⟩
  have L_remove_candidate : Fal P w K mg base (L2.CX P w) 14 f_remove_candidate ["desk", "number", "row"] (spDeed E D R N L dRem) := ⟨_, (ok_remove_candidate F_remove_candidate T (c_need_candidate := M_Desk_need_candidate) (c_Design := C_Design)), k_remove_candidate, B_remove_candidate⟩
  have L_get_candidate : Fal P w K mg base (L2.CX P w) 14 f_get_candidate ["desk", "number", "row"] (spDeed E D R N L dGet) := ⟨_, (ok_get_candidate F_get_candidate T (c_need_candidate := M_Desk_need_candidate)), k_get_candidate, B_get_candidate⟩
  have L_set_counts : Fal P w K mg base (L2.CX P w) 14 f_set_counts ["desk", "number", "row"] (spDeed E D R N L dSet) := ⟨_, (ok_set_counts F_set_counts T (c_need_counts := M_Desk_need_counts) (c_with_counts := M_Design_with_counts) (c_size := M_Design_size)), k_set_counts, B_set_counts⟩
  have L_ask_counts : Fal P w K mg base (L2.CX P w) 14 f_ask_counts ["desk", "number", "row"] (spDeed E D R N L dCnt) := ⟨_, (ok_ask_counts F_ask_counts T ), k_ask_counts, B_ask_counts⟩
  have L_ask_determinant : Fal P w K mg base (L2.CX P w) 14 f_ask_determinant ["desk", "number", "row"] (spDeed E D R N L dDet) := ⟨_, (ok_ask_determinant F_ask_determinant T (c_worth := M_Design_worth)), k_ask_determinant, B_ask_determinant⟩
  have L_summary : Fal P w K mg base (L2.CX P w) 14 f_summary ["desk", "number", "row"] (spDeed E D R N L dSum) := ⟨_, (ok_summary F_summary T (c_size := M_Design_size)), k_summary, B_summary⟩
  have L_ask_information : Fal P w K mg base (L2.CX P w) 14 f_ask_information ["desk", "number", "row"] (spDeed E D R N L dInf) := ⟨_, (ok_ask_information F_ask_information T (c_matrix := M_Design_matrix)), k_ask_information, B_ask_information⟩
  have L_ask_trace : Fal P w K mg base (L2.CX P w) 14 f_ask_trace ["desk", "number", "row"] (spDeed E D R N L dTr) := ⟨_, (ok_ask_trace F_ask_trace T (c_told := C_told) (c_own_trace := M_Design_own_trace)), k_ask_trace, B_ask_trace⟩
  have L_ask_variance : Fal P w K mg base (L2.CX P w) 14 f_ask_variance ["desk", "number", "row"] (spDeed E D R N L dVar) := ⟨_, (ok_ask_variance F_ask_variance T (c_told := C_told) (c_need_row := M_Desk_need_row) (c_variances := M_Design_variances)), k_ask_variance, B_ask_variance⟩
  have L_candidate_variances : Fal P w K mg base (L2.CX P w) 14 f_candidate_variances ["desk", "number", "row"] (spDeed E D R N L dCV) := ⟨_, (ok_candidate_variances F_candidate_variances T (c_told := C_told) (c_variances := M_Design_variances)), k_candidate_variances, B_candidate_variances⟩
  have L_ask_bound : Fal P w K mg base (L2.CX P w) 14 f_ask_bound ["desk", "number", "row"] (spDeed E D R N L dBnd) := ⟨_, (ok_ask_bound F_ask_bound T (c_need_range := C_need_range) (c_bound := M_Design_bound)), k_ask_bound, B_ask_bound⟩
  have L_exchange : Fal P w K mg base (L2.CX P w) 14 f_exchange ["desk", "number", "row"] (spDeed E D R N L dExch) := ⟨_, (ok_exchange F_exchange T (c_need := C_need) (c_best_exchange := C_best_exchange) (c_exchanged := C_exchanged)), k_exchange, B_exchange⟩
  have L_improve : Fal P w K mg base (L2.CX P w) 14 f_improve ["desk", "number", "row"] (spDeed E D R N L dImp) := ⟨_, (ok_improve F_improve T (c_need_range := C_need_range) (c_best_exchange := C_best_exchange) (c_exchanged := C_exchanged) (c_worth := M_Design_worth)), k_improve, B_improve⟩
  have L_is_optimal : Fal P w K mg base (L2.CX P w) 14 f_is_optimal ["desk", "number", "row"] (spDeed E D R N L dOpt) := ⟨_, (ok_is_optimal F_is_optimal T (c_told := C_told) (c_worst := M_Design_worst) (c_ratio := C_ratio) (c_times := C_times) (c_is_less := C_is_less) (c_size := M_Design_size)), k_is_optimal, B_is_optimal⟩
  have C_take_step : Cal P w K mg base (L2.CX P w) 12 "take_step" ["desk", "places", "by"] (spTake E D R N L) := ⟨_, _, (ok_take_step F_take_step T (c_need := C_need) (c_best_step := C_best_step) (c_stepped := C_stepped) (c_with_counts := M_Design_with_counts)), PySem.W.mg_of X G a_take_step, k_take_step, B_take_step⟩
  have L_add : Fal P w K mg base (L2.CX P w) 14 f_add ["desk", "number", "row"] (spDeed E D R N L dAddR) := ⟨_, (ok_add F_add T (c_take_step := C_take_step)), k_add, B_add⟩
  have L_remove : Fal P w K mg base (L2.CX P w) 14 f_remove ["desk", "number", "row"] (spDeed E D R N L dRemR) := ⟨_, (ok_remove F_remove T (c_take_step := C_take_step)), k_remove, B_remove⟩
  have L_best : Fal P w K mg base (L2.CX P w) 14 f_best ["desk", "number", "row"] (spDeed E D R N L dBest) := ⟨_, (ok_best F_best T (c_need_range := C_need_range) (c_best_design := C_best_design)), k_best, B_best⟩
  have L_take_best : Fal P w K mg base (L2.CX P w) 14 f_take_best ["desk", "number", "row"] (spDeed E D R N L dTake) := ⟨_, (ok_take_best F_take_best T (c_need_range := C_need_range) (c_best_design := C_best_design)), k_take_best, B_take_best⟩
  have L_ask_best_by_trace : Fal P w K mg base (L2.CX P w) 14 f_ask_best_by_trace ["desk", "number", "row"] (spDeed E D R N L dBT) := ⟨_, (ok_ask_best_by_trace F_ask_best_by_trace T (c_need_range := C_need_range) (c_best_by_trace := C_best_by_trace) (c_told := C_told)), k_ask_best_by_trace, B_ask_best_by_trace⟩
  have L_ask_weights : Fal P w K mg base (L2.CX P w) 14 f_ask_weights ["desk", "number", "row"] (spDeed E D R N L dWts) := ⟨_, (ok_ask_weights F_ask_weights T (c_need_range := C_need_range) (c_weights_behind := C_weights_behind) (c_told := C_told)), k_ask_weights, B_ask_weights⟩
  have L_compare : Fal P w K mg base (L2.CX P w) 14 f_compare ["desk", "number", "row"] (spDeed E D R N L dCmp) := ⟨_, (ok_compare F_compare T (c_need_counts := M_Desk_need_counts) (c_with_counts := M_Design_with_counts) (c_own_trace := M_Design_own_trace) (c_worth := M_Design_worth) (c_sign_of := C_sign_of) (c_is_less := C_is_less)), k_compare, B_compare⟩
  have L_is_at_least_as_good : Fal P w K mg base (L2.CX P w) 14 f_is_at_least_as_good ["desk", "number", "row"] (spDeed E D R N L dGood) := ⟨_, (ok_is_at_least_as_good F_is_at_least_as_good T (c_need_counts := M_Desk_need_counts) (c_with_counts := M_Design_with_counts) (c_matrix := M_Design_matrix) (c_less := C_less) (c_has_no_negative_minor := C_has_no_negative_minor)), k_is_at_least_as_good, B_is_at_least_as_good⟩
  have Z : Deeds P w K mg base E D R N L [f_create, f_add_candidate, f_remove_candidate, f_get_candidate, f_set_counts, f_ask_counts, f_ask_information, f_ask_determinant, f_ask_trace, f_ask_variance, f_candidate_variances, f_is_optimal, f_ask_bound, f_exchange, f_improve, f_add, f_remove, f_best, f_ask_best_by_trace, f_take_best, f_ask_weights, f_compare, f_is_at_least_as_good, f_summary] := deeds_of L_create L_add_candidate L_remove_candidate L_get_candidate L_set_counts L_ask_counts L_ask_information L_ask_determinant L_ask_trace L_ask_variance L_candidate_variances L_is_optimal L_ask_bound L_exchange L_improve L_add L_remove L_best L_ask_best_by_trace L_take_best L_ask_weights L_compare L_is_at_least_as_good L_summary
  have C_answer : Cal P w K mg base CX0 16 "answer" ["desk", "call", "number", "row"] (spAnswer E D) := ⟨_, _, ok_answer F_answer T Z ⟨_, PySem.W.mg_of X G g_DEEDS, tup_at r_DEEDS (Nat.le_of_ble_eq_true rfl) (.cons rfl (.cons rfl (.cons rfl (.cons rfl (.cons rfl (.cons rfl (.cons rfl (.cons rfl (.cons rfl (.cons rfl (.cons rfl (.cons rfl (.cons rfl (.cons rfl (.cons rfl (.cons rfl (.cons rfl (.cons rfl (.cons rfl (.cons rfl (.cons rfl (.cons rfl (.cons rfl (.cons rfl .nil))))))))))))))))))))))))⟩ (c_need := C_need), PySem.W.mg_of X G a_answer, k_answer, B_answer⟩
  exact ok_answers F_answers T (c_Desk := C_Desk) (c_answer := C_answer)
end Bd
set_option maxRecDepth 100000
set_option maxHeartbeats 4000000
namespace Bd
/-! # The law: values, traces, bounds -/
def dsOf (w : Kxd5.Workspace) : Ds := ⟨w.columns, w.candidates, Kxd5.toInts w.counts⟩
section
variable {w : Kxd5.Workspace} (h : Wf (dsOf w)) {l : List Nat}
def atD (w : Kxd5.Workspace) (l : List Nat) : Ds := ⟨w.columns, w.candidates, Kxd5.toInts l⟩
theorem toInts_nn (l : List Nat) : ∀ c ∈ Kxd5.toInts l, 0 ≤ c := fun c hc => by
  obtain ⟨x, _, rfl⟩ := List.mem_map.mp hc
  omega
include h
theorem law_rw : RW w.columns w.candidates (Kxd5.toInts l) := ⟨h.rl, toInts_nn l⟩
theorem law_mat : IsMat w.columns (atD w l).mat := info_isMat (law_rw h)
theorem law_nn : 0 ≤ det (atD w l).mat := info_det_nn h.n1 h.n4 (law_rw h)
theorem law_info : Kxd5.information w l = ofM (atD w l).mat := by
  obtain ⟨n, rows, l0⟩ := w
  exact kinfo (law_rw h)
theorem law_value : Kxd5.value w l = Kxd5.ofInt (det (atD w l).mat) := by
  unfold Kxd5.value
  rw [law_info h, kdet]
theorem law_value_num : (Kxd5.value w l).numerator = det (atD w l).mat := by rw [law_value h]; rfl
theorem law_regular : Kxd5.isRegular w l = !decide (det (atD w l).mat = 0) := by
  unfold Kxd5.isRegular
  rw [law_value h]
  show (det (atD w l).mat != 0) = _
  rw [Bool.eq_iff_iff, bne_iff_ne]
  simp
theorem law_variance (z : det (atD w l).mat ≠ 0) {c : List Int} (hc : c.length = w.columns) : Kxd5.variance w l c = Kxd5.fraction (weighed (cofactors (atD w l).mat) c) (det (atD w l).mat) := by
  unfold Kxd5.variance
  rw [law_info h]
  exact kvar h.n1 h.n4 (law_mat h) z (isV_vector hc)
theorem law_vars (z : det (atD w l).mat ≠ 0) : w.candidates.map (Kxd5.variance w l) = dVars (atD w l) := by
  unfold dVars varsF
  exact List.map_congr_left fun c hc => law_variance h z (h.rl c hc)
omit h in
theorem weighed_unit {n i : Nat} {M : Mat} (h1 : 1 ≤ n) (h4 : n ≤ 4) (hM : IsMat n M) (hi : i < n) : weighed (cofactors M) (unitR n i) = cofactor M i i := by
  rw [weighed_cof h1 h4 hM (unitR_len n i), dot_unit hi (by rw [adjv_length, hM.len])]
  unfold adjv
  rw [hM.len, getD_of _ (by rw [List.length_map, List.length_range]; exact hi), List.getElem_map, List.getElem_range, dot_comm, dot_unit hi (by rw [List.length_map, List.length_range]), getD_of _ (by rw [List.length_map, List.length_range]; exact hi),
    List.getElem_map, List.getElem_range]
theorem law_trace (z : det (atD w l).mat ≠ 0) : Kxd5.trace w l = traceF (atD w l).mat := by
  unfold Kxd5.trace traceF traceP Kxd5.total
  rw [law_info h, (law_mat h).len, List.foldl_map]
  have key : ∀ (k : List Nat) (f : Kxd5.Fraction), (∀ i ∈ k, i < w.columns) → k.foldl (fun f i => Kxd5.plus f (Kxd5.varianceIn (ofM (atD w l).mat) (Kxd5.unitVector w.columns i))) f = k.foldl (fun f i => Kxd5.plus f (Kxd5.fraction (cofactor (atD w l).mat i i) (det (atD w l).mat))) f := by
    intro k
    induction k with
    | nil => intro f _; rfl
    | cons i k ih =>
      intro f hk
      rw [List.foldl_cons, List.foldl_cons, ih _ fun j hj => hk j (List.mem_cons_of_mem _ hj), kvar (n := w.columns) h.n1 h.n4 (law_mat h) z isV_unit, weighed_unit (n := w.columns) h.n1 h.n4 (law_mat h) (hk i List.mem_cons_self)]
  exact key _ _ fun i hi => List.mem_range.mp hi
omit h in
theorem val_neg1 : val ⟨-1, 1⟩ = -1 := by
  have : (⟨-1, 1⟩ : Kxd5.Fraction) = Kxd5.ofInt (-1) := rfl
  rw [this, val_ofInt]
  rfl
omit h in
theorem norm_neg1 : Norm ⟨-1, 1⟩ := norm_ofInt (-1)
/-- the worst candidate, by two ways of keeping it -/
theorem worst_fold (fs : List Kxd5.Fraction) (hn : ∀ f ∈ fs, Norm f ∧ 0 ≤ val f) (ne : fs ≠ []) :
    fs.zipIdx.foldl (fun (b : Nat × Kxd5.Fraction) z => if Kxd5.isLess b.2 z.1 then (z.2, z.1) else b) (0, ⟨-1, 1⟩) = (worstAt fs, fs.getD (worstAt fs) ⟨0, 1⟩) := by
  have key : ∀ (zs : List (Kxd5.Fraction × Nat)) (a : Nat), (∀ z ∈ zs, fs[z.2]? = some z.1) →
      zs.foldl (fun (b : Nat × Kxd5.Fraction) z => if Kxd5.isLess b.2 z.1 then (z.2, z.1) else b) (a, fs.getD a ⟨0, 1⟩) = (zs.foldl (fun a z => if Kxd5.isLess (fs.getD a ⟨0, 1⟩) z.1 = true then z.2 else a) a, fs.getD (zs.foldl (fun a z => if Kxd5.isLess (fs.getD a ⟨0, 1⟩) z.1 = true then z.2 else a) a) ⟨0, 1⟩) := by
    intro zs
    induction zs with
    | nil => intro a _; rfl
    | cons z zs ih =>
      intro a hz
      rw [List.foldl_cons, List.foldl_cons]
      have h1 := hz z List.mem_cons_self
      have h2 : ∀ y ∈ zs, fs[y.2]? = some y.1 := fun y hy => hz y (List.mem_cons_of_mem _ hy)
      by_cases c : Kxd5.isLess (fs.getD a ⟨0, 1⟩) z.1 = true
      · simp only [c, if_true]
        have e : z.1 = fs.getD z.2 ⟨0, 1⟩ := by rw [List.getD_eq_getElem?_getD, h1]; rfl
        have e2 : ((z.2, z.1) : Nat × Kxd5.Fraction) = (z.2, fs.getD z.2 ⟨0, 1⟩) := by rw [← e]
        rw [e2]
        exact ih z.2 h2
      · simp only [c, if_false]
        exact ih a h2
  cases fs with
  | nil => exact absurd rfl ne
  | cons f fs =>
    have hf := hn f List.mem_cons_self
    have zi : ∀ z ∈ (f :: fs).zipIdx, (f :: fs)[z.2]? = some z.1 := fun z hz => by
      have := List.mem_zipIdx_iff_getElem?.mp hz
      exact this
    have less : Kxd5.isLess ⟨-1, 1⟩ f = true := by
      rw [isLess_iff norm_neg1 hf.1, val_neg1]
      have := hf.2
      grind
    have noless : Kxd5.isLess f f = false := by
      cases c : Kxd5.isLess f f with
      | false => rfl
      | true =>
        rw [isLess_iff hf.1 hf.1] at c
        grind
    have e0 : (f :: fs).zipIdx = (f, 0) :: fs.zipIdx 1 := List.zipIdx_cons ..
    have g0 : (f :: fs).getD 0 ⟨0, 1⟩ = f := rfl
    unfold worstAt wAt
    rw [e0, List.foldl_cons, List.foldl_cons]
    simp only [less, if_true, g0, noless]
    have := key (fs.zipIdx 1) 0 fun z hz => zi z (by rw [e0]; exact List.mem_cons_of_mem _ hz)
    rw [g0] at this
    exact this
omit h in
theorem fraction_nn {a b : Int} (ha : 0 ≤ a) (hb : 0 < b) : 0 ≤ val (Kxd5.fraction a b) := by
  rw [val_fraction, Rat.div_def]
  have h1 : (0 : Rat) ≤ (a : Rat) := Rat.intCast_nonneg.mpr ha
  have h2 : (0 : Rat) ≤ ((b : Rat))⁻¹ := by
    have : (0 : Rat) < (b : Rat) := Rat.intCast_pos.mpr hb
    exact Rat.le_of_lt (Rat.inv_pos.mpr this)
  exact Rat.mul_nonneg h1 h2
theorem law_worst (z : det (atD w l).mat ≠ 0) : Kxd5.worst w l = (dWorst (atD w l), dWorstF (atD w l)) := by
  have nn := law_nn h (l := l)
  have ne : dVars (atD w l) ≠ [] := fun e => by
    have er : w.candidates = [] := by
      unfold dVars varsF at e
      exact List.map_eq_nil_iff.mp e
    have hw : Wf (⟨w.columns, w.candidates, []⟩ : Ds) := ⟨h.n1, h.n4, h.rl, h.re, h.rk, by rw [er]; rfl, fun c hc => (by cases hc)⟩
    refine hw.rows_ne ?_ er
    have : (atD w l).mat = (⟨w.columns, w.candidates, []⟩ : Ds).mat := by
      unfold Ds.mat atD
      rw [er]
      rfl
    rw [← this]
    exact z
  unfold Kxd5.worst
  rw [law_vars h z]
  refine worst_fold h _ (fun f hf => ?_) ne
  unfold dVars varsF at hf
  obtain ⟨r, hr, rfl⟩ := List.mem_map.mp hf
  refine ⟨norm_fraction _ _, fraction_nn ?_ (by omega)⟩
  have hl : r.length = w.columns := h.rl r hr
  rw [weighed_cof h.n1 h.n4 (law_mat h) hl]
  exact (info_var_nn h.n1 h.n4 (law_rw h) (by have : 0 ≤ det (atD w l).mat := nn; show 0 < det (atD w l).mat; omega) hl).1
omit h in
theorem power_val (x : Kxd5.Fraction) : ∀ k, Norm (Kxd5.power x k) ∧ val (Kxd5.power x k) = val x ^ k
  | 0 => ⟨norm_ofInt 1, by show val (Kxd5.ofInt 1) = _; rw [val_ofInt, Rat.pow_zero]; rfl⟩
  | k + 1 => by
    obtain ⟨a, b⟩ := power_val x k
    refine ⟨norm_times _ _, ?_⟩
    show val (Kxd5.times x (Kxd5.power x k)) = _
    rw [val_times, b, Rat.pow_succ]
    grind
omit h in
theorem cast_pow (x : Int) : ∀ k : Nat, ((x ^ k : Int) : Rat) = (x : Rat) ^ k
  | 0 => rfl
  | k + 1 => by rw [Int.pow_succ, Rat.intCast_mul, cast_pow x k, Rat.pow_succ]
omit h in
theorem div_pow (a b : Rat) (hb : b ≠ 0) : ∀ k : Nat, (a / b) ^ k = a ^ k / b ^ k ∧ b ^ k ≠ 0
  | 0 => by
    refine ⟨?_, ?_⟩
    · rw [Rat.pow_zero, Rat.pow_zero, Rat.pow_zero]; grind
    · rw [Rat.pow_zero]; decide
  | k + 1 => by
    obtain ⟨h1, h2⟩ := div_pow a b hb k
    rw [Rat.pow_succ, Rat.pow_succ, Rat.pow_succ, h1]
    refine ⟨?_, ?_⟩
    · grind
    · intro z
      have := Rat.mul_eq_zero.mp z
      rcases this with t | t
      · exact h2 t
      · exact hb t
theorem law_bound (z : det (atD w l).mat ≠ 0) (n : Nat) : Kxd5.bound w l n = dBound (atD w l) n := by
  unfold Kxd5.bound dBound
  rw [law_value h, law_worst h z]
  have n1 : 1 ≤ w.columns := h.n1
  have nv : Norm (dWorstF (atD w l)) := by
    have hw := law_worst h z
    unfold dWorstF
    by_cases lt : dWorst (atD w l) < (dVars (atD w l)).length
    · rw [getD_of _ lt]
      have hm := List.getElem_mem lt
      unfold dVars varsF at hm
      obtain ⟨r, _, e⟩ := List.mem_map.mp hm
      unfold dVars varsF
      rw [← e]
      exact norm_fraction _ _
    · rw [List.getD_eq_getElem?_getD, List.getElem?_eq_none (by omega)]
      exact norm_zero
  have pos : 0 < (dWorstF (atD w l)).denominator := nv.pos
  have dn : ((w.columns : Int) : Rat) ≠ 0 := rat_ne (by omega)
  have dd : (((dWorstF (atD w l)).denominator : Int) : Rat) ≠ 0 := rat_ne (by omega)
  have bpos : (0 : Int) < (((dWorstF (atD w l)).denominator : Int) * (w.columns : Int)) ^ w.columns := Int.pow_pos (Int.mul_pos (by omega) (by omega))
  have key : Kxd5.times (Kxd5.ofInt (det (atD w l).mat)) (Kxd5.power (Kxd5.over (Kxd5.times (Kxd5.ofNat n) (dWorstF (atD w l))) (Kxd5.ofNat w.columns)) w.columns) =
      Kxd5.fraction (det (atD w l).mat * ((n : Int) * (dWorstF (atD w l)).numerator) ^ w.columns) ((((dWorstF (atD w l)).denominator : Int) * (w.columns : Int)) ^ w.columns) := by
    refine val_inj (norm_times _ _) (norm_fraction _ _) ?_
    rw [val_times, val_ofInt, (power_val _ _).2, val_over (norm_times _ _) (show Norm (Kxd5.ofNat w.columns) from norm_ofInt _), val_times, val_ofNat, val_ofNat, val_fraction, Rat.intCast_mul, cast_pow, cast_pow, Rat.intCast_mul, Rat.intCast_mul]
    have e : ((n : Int) : Rat) * val (dWorstF (atD w l)) / ((w.columns : Int) : Rat) = (((n : Int) : Rat) * ((dWorstF (atD w l)).numerator : Rat)) / ((((dWorstF (atD w l)).denominator : Int) : Rat) * ((w.columns : Int) : Rat)) := by
      unfold val
      grind
    have nz : (((dWorstF (atD w l)).denominator : Int) : Rat) * ((w.columns : Int) : Rat) ≠ 0 := fun t => by
      rcases Rat.mul_eq_zero.mp t with t | t
      · exact dd t
      · exact dn t
    obtain ⟨p1, p2⟩ := div_pow (((n : Int) : Rat) * ((dWorstF (atD w l)).numerator : Rat)) _ nz w.columns
    rw [e, p1]
    grind
  show Kxd5.floorOf (Kxd5.times (Kxd5.ofInt (det (atD w l).mat)) (Kxd5.power (Kxd5.over (Kxd5.times (Kxd5.ofNat n) (dWorstF (atD w l))) (Kxd5.ofNat w.columns)) w.columns)) = _
  rw [key, floorOf_fraction _ _ bpos]
  rfl
end
end Bd
set_option maxRecDepth 100000
set_option maxHeartbeats 4000000
namespace Bd
/-! # The law: exchanges, single steps -/
theorem mat_eq {n : Nat} {a b : Mat} (ha : IsMat n a) (hb : IsMat n b) (h : ∀ i j, i < n → j < n → (a.getD i []).getD j 0 = (b.getD i []).getD j 0) : a = b := by
  refine List.ext_getElem (by rw [ha.len, hb.len]) fun i h1 h2 => ?_
  have l1 := ha.row _ (List.getElem_mem h1)
  have l2 := hb.row _ (List.getElem_mem h2)
  refine List.ext_getElem (by rw [l1, l2]) fun j h3 h4 => ?_
  have := h i j (by rw [← ha.len]; exact h1) (by rw [← l1]; exact h3)
  rw [getD_of _ h1, getD_of _ h2, getD_of _ h3, getD_of _ h4] at this
  exact this
theorem moved_at {n : Nat} {m : Mat} {row : Row} {t : Int} (hm : IsMat n m) (hr : row.length = n) {i j : Nat} (hi : i < n) (hj : j < n) :
    ((moved m row t).getD i []).getD j 0 = (m.getD i []).getD j 0 + t * (row.getD i 0 * row.getD j 0) := by
  have l1 : i < m.length := by rw [hm.len]; exact hi
  have l2 : i < row.length := by rw [hr]; exact hi
  have l3 : j < row.length := by rw [hr]; exact hj
  have l4 : j < m[i].length := by rw [hm.row _ (List.getElem_mem l1)]; exact hj
  unfold moved movedLine
  have l5 : i < (List.zipWith (fun e line => List.zipWith (fun v o => v + t * e * o) line row) row m).length := by rw [List.length_zipWith]; omega
  rw [getD_of [] l5, List.getElem_zipWith, getD_of _ (by rw [List.length_zipWith]; omega), List.getElem_zipWith, getD_of _ l1, getD_of _ l2, getD_of _ l3, getD_of _ l4, Int.mul_assoc]
theorem sum_set (f : Row → Int) (t : Int) : ∀ (rows : List Row) (cs : List Int) (k : Nat) (r : Row), rows[k]? = some r → rows.length = cs.length →
    (List.zipWith (fun r c => c * f r) rows (cs.set k (cs.getD k 0 + t))).sum = (List.zipWith (fun r c => c * f r) rows cs).sum + t * f r
  | [], _, k, r, h, _ => by rw [List.getElem?_nil] at h; cases h
  | x :: rows, [], k, r, _, h => by cases h
  | x :: rows, c :: cs, 0, r, h, _ => by
    obtain rfl := Option.some.inj h
    show (c + t) * f x + _ = c * f x + _ + t * f x
    rw [Int.add_mul]
    omega
  | x :: rows, c :: cs, k + 1, r, h, hl => by
    have := sum_set f t rows cs k r h (Nat.succ.inj hl)
    show c * f x + (List.zipWith (fun r c => c * f r) rows (cs.set k (cs.getD k 0 + t))).sum = c * f x + (List.zipWith (fun r c => c * f r) rows cs).sum + t * f r
    rw [this]
    omega
theorem info_step {n : Nat} {rows : List Row} {cs : List Int} {k : Nat} {t : Int} (h : RW n rows cs) (h' : RW n rows (stepC cs k t)) (hk : k < rows.length) (hl : rows.length = cs.length) :
    information n rows (stepC cs k t) = moved (information n rows cs) (rows.getD k []) t := by
  have e := List.getElem?_eq_getElem hk
  have hr : (rows.getD k []).length = n := by rw [getD_of _ hk]; exact h.row _ (List.getElem_mem hk)
  have hm := info_isMat h
  refine mat_eq (info_isMat h') (moved_isMat hm hr) fun i j hi hj => ?_
  rw [info_at h' hi hj, moved_at hm hr hi hj, info_at h hi hj]
  unfold stepC
  rw [sum_set (fun r => r.getD i 0 * r.getD j 0) t rows cs k _ e hl, getD_of _ hk]
theorem toInts_len (l : List Nat) : (Kxd5.toInts l).length = l.length := List.length_map _
theorem toInts_at (l : List Nat) (i : Nat) : (Kxd5.toInts l).getD i 0 = (l.getD i 0 : Nat) := by
  unfold Kxd5.toInts
  rw [List.getD_eq_getElem?_getD, List.getD_eq_getElem?_getD, List.getElem?_map]
  cases l[i]? <;> rfl
theorem toInts_set (l : List Nat) (i x : Nat) : Kxd5.toInts (l.set i x) = (Kxd5.toInts l).set i (x : Int) := by
  unfold Kxd5.toInts
  rw [List.map_set]
theorem inc_ints (l : List Nat) (j : Nat) : Kxd5.toInts (Kxd5.increased l j) = stepC (Kxd5.toInts l) j 1 := by
  unfold Kxd5.increased stepC
  rw [toInts_set, toInts_at]
  rfl
theorem dec_ints (l : List Nat) (i : Nat) (h : 0 < l.getD i 0) : Kxd5.toInts (Kxd5.decreased l i) = stepC (Kxd5.toInts l) i (-1) := by
  unfold Kxd5.decreased stepC
  rw [toInts_set, toInts_at]
  congr 1
  omega
theorem exch_ints (l : List Nat) (i j : Nat) (h : 0 < l.getD i 0) : Kxd5.toInts (Kxd5.exchanged l (i, j)) = stepC (stepC (Kxd5.toInts l) i (-1)) j 1 := by
  unfold Kxd5.exchanged
  rw [inc_ints, dec_ints l i h]
theorem foldl_rel {α β γ : Type} {R : β → γ → Prop} (f : β → α → β) (g : γ → α → γ) : ∀ (l : List α) (b : β) (c : γ), R b c → (∀ b c x, x ∈ l → R b c → R (f b x) (g c x)) → R (l.foldl f b) (l.foldl g c)
  | [], _, _, h, _ => h
  | x :: l, b, c, h, hs => foldl_rel f g l _ _ (hs b c x List.mem_cons_self h) fun b c y hy => hs b c y (List.mem_cons_of_mem _ hy)
section
variable {w : Kxd5.Workspace} (h : Wf (dsOf w)) {l : List Nat} (hl : l.length = w.candidates.length)
include h hl
theorem law_inc {j : Nat} (hj : j < l.length) : det (atD w (Kxd5.increased l j)).mat = oneV (atD w l) 1 j := by
  unfold oneV Ds.mat atD
  show det (information w.columns w.candidates (Kxd5.toInts (Kxd5.increased l j))) = det (moved (information w.columns w.candidates (Kxd5.toInts l)) (w.candidates.getD j []) 1)
  have e := law_rw h (l := Kxd5.increased l j)
  rw [inc_ints] at e ⊢
  rw [info_step (law_rw h) e (by omega) (by rw [toInts_len, hl])]
theorem law_dec {j : Nat} (hj : j < l.length) (hp : 0 < l.getD j 0) : det (atD w (Kxd5.decreased l j)).mat = oneV (atD w l) (-1) j := by
  unfold oneV Ds.mat atD
  show det (information w.columns w.candidates (Kxd5.toInts (Kxd5.decreased l j))) = det (moved (information w.columns w.candidates (Kxd5.toInts l)) (w.candidates.getD j []) (-1))
  have e := law_rw h (l := Kxd5.decreased l j)
  rw [dec_ints l j hp] at e ⊢
  rw [info_step (law_rw h) e (by omega) (by rw [toInts_len, hl])]
theorem law_swap {i j : Nat} (hi : i < l.length) (hj : j < l.length) (hp : 0 < l.getD i 0) : det (atD w (Kxd5.exchanged l (i, j))).mat = swapV (atD w l) i j := by
  unfold swapV Ds.mat atD
  show det (information w.columns w.candidates (Kxd5.toInts (Kxd5.exchanged l (i, j)))) = det (moved (moved (information w.columns w.candidates (Kxd5.toInts l)) (w.candidates.getD i []) (-1)) (w.candidates.getD j []) 1)
  have e := law_rw h (l := Kxd5.exchanged l (i, j))
  have e2 := law_rw h (l := Kxd5.decreased l i)
  rw [exch_ints l i j hp] at e ⊢
  rw [dec_ints l i hp] at e2
  rw [info_step e2 e (by omega) (by rw [stepC_len, toInts_len, hl]), info_step (law_rw h) e2 (by omega) (by rw [toInts_len, hl])]
/-- the search of an exchange, by two ways of keeping it -/
def BR (w : Kxd5.Workspace) (l : List Nat) (b : Option (Nat × Nat) × Kxd5.Fraction) (c : BX) : Prop :=
  b.2 = Kxd5.ofInt c.2 ∧ b.1 = c.1.map (fun z => (z.1, z.2.1)) ∧ ∀ i j x, c.1 = some (i, j, x) → x = (Kxd5.value w (Kxd5.exchanged l (i, j))).numerator ∧ 0 < l.getD i 0
theorem law_bx : BR w l ((Kxd5.exchanges l).foldl (fun (b : Option (Nat × Nat) × Kxd5.Fraction) z => if Kxd5.isLess b.2 (Kxd5.value w (Kxd5.exchanged l z)) then (some z, Kxd5.value w (Kxd5.exchanged l z)) else b) (none, Kxd5.value w l)) (bx (atD w l)) := by
  have cl : (atD w l).cs.length = l.length := toInts_len l
  unfold Kxd5.exchanges bx
  rw [List.foldl_flatMap, cl]
  refine foldl_rel (R := BR w l) _ _ _ _ _ ⟨law_value h, rfl, fun i j x e => by cases e⟩ fun b c i hi hR => ?_
  have hi' := List.mem_range.mp hi
  unfold bxRow
  rw [show (atD w l).cs.getD i 0 = (l.getD i 0 : Nat) from toInts_at l i, cl]
  by_cases z : l.getD i 0 = 0
  · rw [if_pos z, if_neg (by omega)]
    exact hR
  · rw [if_neg z, if_pos (by omega), List.foldl_map, List.foldl_filter]
    refine foldl_rel (R := BR w l) _ _ _ _ _ hR fun b c j hj hR => ?_
    have hj' := List.mem_range.mp hj
    unfold bxStep
    rw [show (atD w l).cs.getD j 0 = (l.getD j 0 : Nat) from toInts_at l j]
    by_cases q : j ≠ i ∧ ((l.getD j 0 : Nat) : Int) < 20
    · have q2 : (j != i && decide (l.getD j 0 < Kxd5.maxCount)) = true := by
        rw [Bool.and_eq_true, bne_iff_ne, decide_eq_true_iff]
        exact ⟨q.1, by have := q.2; show l.getD j 0 < 20; omega⟩
      rw [if_pos q, if_pos q2]
      obtain ⟨r1, r2, r3⟩ := hR
      have v := law_swap h hl hi' hj' (show 0 < l.getD i 0 by omega)
      have e : Kxd5.isLess b.2 (Kxd5.value w (Kxd5.exchanged l (i, j))) = decide (swapV (atD w l) i j > c.2) := by rw [r1, law_value h, isLess_ofInt, v]
      rw [e]
      by_cases g : swapV (atD w l) i j > c.2
      · rw [decide_eq_true g, if_pos rfl, if_pos g]
        refine ⟨by rw [law_value h, v], rfl, fun i' j' x' e' => ?_⟩
        cases e'
        exact ⟨by rw [law_value h, v]; rfl, by omega⟩
      · rw [decide_eq_false g, if_neg (by decide), if_neg g]
        exact ⟨r1, r2, r3⟩
    · have q2 : ¬ (j != i && decide (l.getD j 0 < Kxd5.maxCount)) = true := by
        rw [Bool.and_eq_true, bne_iff_ne, decide_eq_true_iff]
        exact fun t => q ⟨t.1, by have := t.2; unfold Kxd5.maxCount at this; omega⟩
      rw [if_neg q, if_neg q2]
      exact hR
theorem law_best_exchange : Kxd5.bestExchange w l = (bx (atD w l)).1.map (fun z => (z.1, z.2.1)) := (law_bx h hl).2.1
theorem law_best_exchange_x {i j : Nat} {x : Int} (e : (bx (atD w l)).1 = some (i, j, x)) : x = (Kxd5.value w (Kxd5.exchanged l (i, j))).numerator ∧ exC (atD w l) i j = atD w (Kxd5.exchanged l (i, j)) := by
  obtain ⟨h1, h2⟩ := (law_bx h hl).2.2 i j x e
  refine ⟨h1, ?_⟩
  unfold exC atD
  rw [exch_ints l i j h2]
omit h hl in
theorem exch_len (z : Nat × Nat) : (Kxd5.exchanged l z).length = l.length := by
  unfold Kxd5.exchanged Kxd5.increased Kxd5.decreased
  rw [List.length_set, List.length_set]
omit hl in
theorem law_improve : ∀ (k : Nat) {l : List Nat}, l.length = w.candidates.length → (Kxd5.improve w k l).1 = (impF k (atD w l)).1 ∧ atD w (Kxd5.improve w k l).2 = (impF k (atD w l)).2
  | 0, l, _ => ⟨rfl, rfl⟩
  | k + 1, l, hl => by
    unfold Kxd5.improve impF
    rw [law_best_exchange h hl]
    have hx := fun i j x => law_best_exchange_x h hl (i := i) (j := j) (x := x)
    generalize (bx (atD w l)).1 = o at hx
    cases o with
    | none => exact ⟨rfl, rfl⟩
    | some o =>
      obtain ⟨i, j, x⟩ := o
      have e := (hx i j x rfl).2
      obtain ⟨a, b⟩ := law_improve k (l := Kxd5.exchanged l (i, j)) (by rw [exch_len, hl])
      refine ⟨?_, ?_⟩
      · show (Kxd5.improve w k (Kxd5.exchanged l (i, j))).1 + 1 = (impF k (exC (atD w l) i j)).1 + 1
        rw [a, e]
      · show atD w (Kxd5.improve w k (Kxd5.exchanged l (i, j))).2 = (impF k (exC (atD w l) i j)).2
        rw [b, e]
/-- the best single step, by two ways of keeping it -/
theorem first_best (t : Int) (f : Nat → List Nat) : ∀ (ps : List Nat), (∀ j ∈ ps, det (atD w (f j)).mat = oneV (atD w l) t j) →
    Kxd5.firstBest (ps.map fun j => (j, Kxd5.value w (f j))) = (st (atD w l) t ps).map (·.1) ∧ ∀ j x, st (atD w l) t ps = some (j, x) → x = (Kxd5.value w (f j)).numerator := by
  intro ps hp
  unfold Kxd5.firstBest st
  rw [List.foldl_map]
  have R := foldl_rel (R := fun (b : Option (Nat × Kxd5.Fraction)) (c : Option (Nat × Int)) => b = c.map (fun z => (z.1, Kxd5.ofInt z.2)) ∧ ∀ j x, c = some (j, x) → x = (Kxd5.value w (f j)).numerator)
    (fun (b : Option (Nat × Kxd5.Fraction)) (j : Nat) => match b with
      | none => some (j, Kxd5.value w (f j))
      | some y => if Kxd5.isLess y.2 (Kxd5.value w (f j)) then some (j, Kxd5.value w (f j)) else b) (stStep (atD w l) t) ps none none ⟨rfl, fun j x e => by cases e⟩ fun b c j hj hR => ?_
  · obtain ⟨R1, R2⟩ := R
    refine ⟨?_, R2⟩
    refine (congrArg (Option.map (·.1)) R1).trans ?_
    rw [Option.map_map]
    rfl
  · obtain ⟨r1, r2⟩ := hR
    have v : Kxd5.value w (f j) = Kxd5.ofInt (oneV (atD w l) t j) := by rw [law_value h, hp j hj]
    subst r1
    cases c with
    | none =>
      refine ⟨by show some (j, Kxd5.value w (f j)) = some (j, Kxd5.ofInt (oneV (atD w l) t j)); rw [v], fun j' x' e => ?_⟩
      have e' : some (j, oneV (atD w l) t j) = some (j', x') := e
      cases e'
      rw [v]
      rfl
    | some c =>
      obtain ⟨q, m⟩ := c
      show (if Kxd5.isLess (Kxd5.ofInt m) (Kxd5.value w (f j)) then some (j, Kxd5.value w (f j)) else some (q, Kxd5.ofInt m)) = Option.map (fun z => (z.1, Kxd5.ofInt z.2)) (if oneV (atD w l) t j > m then some (j, oneV (atD w l) t j) else some (q, m)) ∧ _
      rw [v, isLess_ofInt]
      by_cases g : oneV (atD w l) t j > m
      · refine ⟨by rw [decide_eq_true g, if_pos rfl, if_pos g]; rfl, fun j' x' e => ?_⟩
        have e' : (if oneV (atD w l) t j > m then some (j, oneV (atD w l) t j) else some (q, m)) = some (j', x') := e
        rw [if_pos g] at e'
        cases e'
        rw [v]
        rfl
      · refine ⟨by rw [decide_eq_false g, if_neg (by decide), if_neg g]; rfl, fun j' x' e => ?_⟩
        have e' : (if oneV (atD w l) t j > m then some (j, oneV (atD w l) t j) else some (q, m)) = some (j', x') := e
        rw [if_neg g] at e'
        exact r2 j' x' e'
theorem law_addition : Kxd5.bestAddition w l = (st (atD w l) 1 (upPl (atD w l))).map (·.1) ∧ ∀ j x, st (atD w l) 1 (upPl (atD w l)) = some (j, x) → x = (Kxd5.value w (Kxd5.increased l j)).numerator := by
  have e : upPl (atD w l) = (List.range l.length).filter fun j => decide (l.getD j 0 < Kxd5.maxCount) := by
    unfold upPl
    rw [show (atD w l).cs.length = l.length from toInts_len l]
    refine List.filter_congr fun j _ => ?_
    rw [show (atD w l).cs.getD j 0 = (l.getD j 0 : Nat) from toInts_at l j, decide_eq_decide]
    unfold Kxd5.maxCount
    omega
  unfold Kxd5.bestAddition
  rw [e]
  exact first_best h hl 1 (Kxd5.increased l) _ fun j hj => law_inc h hl (List.mem_range.mp (List.mem_filter.mp hj).1)
theorem law_removal : Kxd5.bestRemoval w l = (st (atD w l) (-1) (dnPl (atD w l))).map (·.1) ∧ ∀ j x, st (atD w l) (-1) (dnPl (atD w l)) = some (j, x) → x = (Kxd5.value w (Kxd5.decreased l j)).numerator ∧ 0 < l.getD j 0 := by
  have e : dnPl (atD w l) = (List.range l.length).filter fun j => decide (0 < l.getD j 0) := by
    unfold dnPl
    rw [show (atD w l).cs.length = l.length from toInts_len l]
    refine List.filter_congr fun j _ => ?_
    rw [show (atD w l).cs.getD j 0 = (l.getD j 0 : Nat) from toInts_at l j, decide_eq_decide]
    omega
  unfold Kxd5.bestRemoval
  have pos : ∀ j ∈ dnPl (atD w l), 0 < l.getD j 0 := fun j hj => by
    rw [e] at hj
    exact of_decide_eq_true (List.mem_filter.mp hj).2
  have mem : ∀ j x, st (atD w l) (-1) (dnPl (atD w l)) = some (j, x) → j ∈ dnPl (atD w l) := fun j x he => by
    by_cases z : dnPl (atD w l) = []
    · rw [z] at he; cases he
    · obtain ⟨j', x', hj, h2⟩ := st_some (atD w l) (-1) _ z
      rw [he] at h2
      cases h2
      exact hj
  have F := first_best h hl (-1) (Kxd5.decreased l) (dnPl (atD w l)) fun j hj => law_dec h hl (by rw [e] at hj; exact List.mem_range.mp (List.mem_filter.mp hj).1) (pos j hj)
  refine ⟨?_, fun j x he => ⟨F.2 j x he, pos j (mem j x he)⟩⟩
  rw [← F.1, e]
end
end Bd
set_option maxRecDepth 100000
set_option maxHeartbeats 4000000
namespace Bd
/-! # The law: searches, weights, comparisons -/
def acIt : Nat → List (Row × Int) → List (Row × Int)
  | 0, zs => zs
  | k + 1, zs => acIt k (acStep zs)
theorem acIt_succ : ∀ (k : Nat) (zs : List (Row × Int)), acIt (k + 1) zs = acStep (acIt k zs)
  | 0, _ => rfl
  | k + 1, zs => acIt_succ k (acStep zs)
theorem acN_it (s : Nat) : ∀ k, acN s k = acIt k [([], (s : Int))]
  | 0 => rfl
  | k + 1 => by
    rw [acIt_succ, ← acN_it s k]
    rfl
theorem acIt_flat : ∀ (k : Nat) (zs : List (Row × Int)), acIt k zs = zs.flatMap fun z => acIt k [z]
  | 0, zs => by
    show zs = zs.flatMap fun z => [z]
    rw [List.flatMap_singleton']
  | k + 1, zs => by
    show acIt k (acStep zs) = zs.flatMap fun z => acIt k (acStep [z])
    rw [acIt_flat k]
    have e : (fun z => acIt k (acStep [z])) = fun z => (acStep [z]).flatMap fun y => acIt k [y] := funext fun z => acIt_flat k _
    rw [e]
    unfold acStep
    rw [List.flatMap_assoc]
    congr 1
    funext z
    rw [List.flatMap_cons, List.flatMap_nil, List.append_nil]
theorem rev_range (n : Nat) : (List.range n).reverse = (List.range n).map fun i => n - 1 - i := by
  refine List.ext_getElem (by rw [List.length_reverse, List.length_map]) fun i h1 h2 => ?_
  rw [List.getElem_reverse, List.getElem_map, List.getElem_range, List.getElem_range, List.length_range]
theorem flat_congr {α β : Type} {f g : α → List β} {l : List α} (h : ∀ x ∈ l, f x = g x) : l.flatMap f = l.flatMap g := by
  rw [List.flatMap_def, List.flatMap_def, List.map_congr_left h]
theorem ac_comp : ∀ (k : Nat) (p : Row) (r : Nat), (acIt k [(p, (r : Int))]).map (fun z => z.1 ++ [z.2]) = (Kxd5.compositions (k + 1) r).map fun l => p ++ Kxd5.toInts l
  | 0, p, r => by
    have e : Kxd5.compositions 1 r = [[r]] := by
      show ((List.range (r + 1)).reverse.flatMap fun a => (if r - a = 0 then [[]] else []).map fun l => a :: l) = _
      rw [List.range_succ, List.reverse_append, List.flatMap_append]
      have : (List.range r).reverse.flatMap (fun a => (if r - a = 0 then [[]] else []).map fun (l : List Nat) => a :: l) = [] := by
        rw [List.flatMap_eq_nil_iff]
        intro a ha
        have := List.mem_range.mp (List.mem_reverse.mp ha)
        rw [if_neg (by omega)]
        rfl
      rw [this]
      show ((if r - r = 0 then [[]] else []).map fun (l : List Nat) => r :: l) ++ [] ++ [] = _
      rw [if_pos (by omega)]
      rfl
    rw [e]
    rfl
  | k + 1, p, r => by
    show (acIt k (acStep [(p, (r : Int))])).map _ = ((List.range (r + 1)).reverse.flatMap fun a => (Kxd5.compositions (k + 1) (r - a)).map fun l => a :: l).map _
    rw [acIt_flat, List.map_flatMap, rev_range, List.flatMap_map, List.map_flatMap]
    have e : acStep [(p, (r : Int))] = (List.range (r + 1)).map fun (i : Nat) => (p ++ [(r : Int) - (i : Int)], (i : Int)) := by
      unfold acStep
      rw [List.flatMap_cons, List.flatMap_nil, List.append_nil]
      rfl
    rw [e, List.flatMap_map]
    refine flat_congr fun i hi => ?_
    have hi' : i ≤ r := by have := List.mem_range.mp hi; omega
    rw [ac_comp k _ i, List.map_map, show r - (r + 1 - 1 - i) = i by omega]
    refine List.map_congr_left fun l _ => ?_
    show p ++ [(r : Int) - (i : Int)] ++ Kxd5.toInts l = p ++ Kxd5.toInts ((r + 1 - 1 - i) :: l)
    rw [List.append_assoc]
    congr 1
    show _ = ((r + 1 - 1 - i : Nat) : Int) :: Kxd5.toInts l
    rw [show ((r + 1 - 1 - i : Nat) : Int) = (r : Int) - (i : Int) by omega]
    rfl
theorem acs_comp {m s : Nat} (hm : 1 ≤ m) : acs m s = (Kxd5.compositions m s).map Kxd5.toInts := by
  unfold acs
  obtain ⟨k, rfl⟩ : ∃ k, m = k + 1 := ⟨m - 1, by omega⟩
  rw [show k + 1 - 1 = k from rfl, acN_it, ac_comp]
  refine List.map_congr_left fun l _ => rfl
theorem lo_count : ∀ m, m ≤ 10 → ∀ s, s ≤ 20 → 1 ≤ s → lo m s = (Kxd5.compositionCount m s : Int) := by
  have key : ∀ m ∈ List.range 11, ∀ s ∈ List.range 21, 1 ≤ s → lo m s = (Kxd5.compositionCount m s : Int) := by decide +kernel
  exact fun m hm s hs h1 => key m (List.mem_range.mpr (by omega)) s (List.mem_range.mpr (by omega)) h1
def bdSpec (w : Kxd5.Workspace) (b : Option (List Nat × Kxd5.Fraction)) (c : List Nat) : Option (List Nat × Kxd5.Fraction) :=
  if (Kxd5.value w c).numerator = 0 then b else match b with
    | none => some (c, Kxd5.value w c)
    | some y => if Kxd5.isLess y.2 (Kxd5.value w c) then some (c, Kxd5.value w c) else b
def btSpec (w : Kxd5.Workspace) (b : Option (List Nat × Kxd5.Fraction)) (c : List Nat) : Option (List Nat × Kxd5.Fraction) :=
  if Kxd5.isRegular w c then (match b with
    | none => some (c, Kxd5.trace w c)
    | some y => if Kxd5.isLess (Kxd5.trace w c) y.2 then some (c, Kxd5.trace w c) else b) else b
section
variable {w : Kxd5.Workspace} (h : Wf (dsOf w))
include h
theorem rds_comp {s : Nat} : rds (dsOf w) s = if w.candidates.length > 0 then ((Kxd5.compositions w.candidates.length s).map (atD w)).filter fun e => decide (det e.mat > 0) else [] := by
  unfold rds
  by_cases z : w.candidates.length > 0
  · rw [if_pos z, if_pos (show (dsOf w).rows.length > 0 from z)]
    unfold regs allDs
    rw [show (dsOf w).rows.length = w.candidates.length from rfl, acs_comp z, List.map_map]
    rfl
  · rw [if_neg z, if_neg (show ¬ (dsOf w).rows.length > 0 from z)]
omit h in
theorem comp_none {s : Nat} (hs : 1 ≤ s) : Kxd5.compositions 0 s = [] := by
  show (if s = 0 then [[]] else []) = _
  rw [if_neg (by omega)]
omit h in
theorem bdF_pos {d : Ds} (hw : Wf d) {s : Nat} (hs : s ≤ 20) (ne : rds d s ≠ []) : 0 < (bdF d s).2 := by
  have hp := fun e he => (rds_full hw hs e he).2
  unfold bdF
  cases hr : rds d s with
  | nil => exact absurd hr ne
  | cons e l =>
    rw [hr] at hp
    rw [List.foldl_cons]
    have he := hp e List.mem_cons_self
    refine fold_inv (fun (b : Ds × Int) => 0 < b.2) _ _ _ ?_ fun b x hx hb => ?_
    · unfold bdStep
      rw [if_pos he]
      exact he
    · unfold bdStep
      split
      · rename_i g
        show 0 < det x.mat
        exact Int.lt_trans hb g
      · exact hb
theorem law_best {s : Nat} (h1 : 1 ≤ s) (hs : s ≤ 20) : (rds (dsOf w) s = [] → Kxd5.bestDesign w s = none) ∧
    (rds (dsOf w) s ≠ [] → ∃ l, Kxd5.bestDesign w s = some l ∧ (bdF (dsOf w) s).1 = atD w l ∧ (bdF (dsOf w) s).2 = det (atD w l).mat) := by
  have step : ∃ b : Option (List Nat × Kxd5.Fraction), Kxd5.bestDesign w s = b.map (·.1) ∧ ((b = none ∧ bdF (dsOf w) s = (dsOf w, 0)) ∨ ∃ l v, b = some (l, Kxd5.ofInt v) ∧ bdF (dsOf w) s = (atD w l, v) ∧ 0 < v ∧ v = det (atD w l).mat) := by
    refine ⟨(Kxd5.compositions w.candidates.length s).foldl (bdSpec w) none, rfl, ?_⟩
    unfold bdF
    rw [rds_comp h]
    by_cases z : w.candidates.length > 0
    · rw [if_pos z, List.foldl_filter, List.foldl_map]
      refine foldl_rel (R := fun (b : Option (List Nat × Kxd5.Fraction)) (c : Ds × Int) => (b = none ∧ c = (dsOf w, 0)) ∨ ∃ l v, b = some (l, Kxd5.ofInt v) ∧ c = (atD w l, v) ∧ 0 < v ∧ v = det (atD w l).mat) _ _ _ _ _ (.inl ⟨rfl, rfl⟩) fun b c x hx hR => ?_
      have nn := law_nn h (l := x)
      have vx := law_value h (l := x)
      unfold bdSpec
      rw [vx]
      by_cases g : det (atD w x).mat = 0
      · have g2 : ¬ decide (det (atD w x).mat > 0) = true := by rw [decide_eq_true_iff]; omega
        rw [if_neg g2, if_pos (show (Kxd5.ofInt (det (atD w x).mat)).numerator = 0 from g)]
        exact hR
      · have g2 : decide (det (atD w x).mat > 0) = true := by rw [decide_eq_true_iff]; omega
        rw [if_pos g2, if_neg (show ¬ (Kxd5.ofInt (det (atD w x).mat)).numerator = 0 from g)]
        rcases hR with ⟨rfl, rfl⟩ | ⟨l, v, rfl, rfl, hv, ev⟩
        · refine .inr ⟨x, det (atD w x).mat, rfl, ?_, by omega, rfl⟩
          unfold bdStep
          rw [if_pos (show det (atD w x).mat > (dsOf w, (0 : Int)).2 by show det (atD w x).mat > 0; omega)]
        · show ((if Kxd5.isLess (Kxd5.ofInt v) (Kxd5.ofInt (det (atD w x).mat)) then some (x, Kxd5.ofInt (det (atD w x).mat)) else some (l, Kxd5.ofInt v)) = none ∧ _) ∨ (∃ l' v', (if Kxd5.isLess (Kxd5.ofInt v) (Kxd5.ofInt (det (atD w x).mat)) then some (x, Kxd5.ofInt (det (atD w x).mat)) else some (l, Kxd5.ofInt v)) = some (l', Kxd5.ofInt v') ∧
            bdStep (atD w l, v) (atD w x) = (atD w l', v') ∧ 0 < v' ∧ v' = det (atD w l').mat)
          rw [isLess_ofInt]
          unfold bdStep
          by_cases q : v < det (atD w x).mat
          · rw [decide_eq_true q, if_pos rfl, if_pos (show det (atD w x).mat > (atD w l, v).2 from q)]
            exact .inr ⟨x, _, rfl, rfl, by omega, rfl⟩
          · rw [decide_eq_false q, if_neg (by decide), if_neg (show ¬ det (atD w x).mat > (atD w l, v).2 from q)]
            exact .inr ⟨l, v, rfl, rfl, hv, ev⟩
    · rw [if_neg z, show w.candidates.length = 0 by omega, comp_none h1]
      exact .inl ⟨rfl, rfl⟩
  obtain ⟨b, hb, hR⟩ := step
  refine ⟨fun e => ?_, fun ne => ?_⟩
  · have e0 : bdF (dsOf w) s = (dsOf w, 0) := by unfold bdF; rw [e]; rfl
    rcases hR with ⟨rfl, _⟩ | ⟨l, v, rfl, e1, hv, _⟩
    · exact hb
    · rw [e0] at e1
      have := congrArg Prod.snd e1
      change (0 : Int) = v at this
      omega
  · have pos := bdF_pos h hs ne
    rcases hR with ⟨rfl, e1⟩ | ⟨l, v, rfl, e1, hv, ev⟩
    · rw [e1] at pos
      exact absurd pos (Int.lt_irrefl 0)
    · exact ⟨l, hb, by rw [e1], by rw [e1]; exact ev⟩
theorem law_by_trace {s : Nat} (h1 : 1 ≤ s) (hs : s ≤ 20) : (rds (dsOf w) s = [] → Kxd5.bestByTrace w s = none) ∧
    (rds (dsOf w) s ≠ [] → ∃ l, Kxd5.bestByTrace w s = some l ∧ btF (dsOf w) s = (atD w l, some (Kxd5.trace w l))) := by
  have step : ∃ b : Option (List Nat × Kxd5.Fraction), Kxd5.bestByTrace w s = b.map (·.1) ∧ ((b = none ∧ btF (dsOf w) s = (dsOf w, none)) ∨ ∃ l, b = some (l, Kxd5.trace w l) ∧ btF (dsOf w) s = (atD w l, some (Kxd5.trace w l))) := by
    refine ⟨(Kxd5.compositions w.candidates.length s).foldl (btSpec w) none, rfl, ?_⟩
    unfold btF
    rw [rds_comp h]
    by_cases z : w.candidates.length > 0
    · rw [if_pos z, List.foldl_filter, List.foldl_map]
      refine foldl_rel (R := fun (b : Option (List Nat × Kxd5.Fraction)) (c : Ds × Option Kxd5.Fraction) => (b = none ∧ c = (dsOf w, none)) ∨ ∃ l, b = some (l, Kxd5.trace w l) ∧ c = (atD w l, some (Kxd5.trace w l))) _ _ _ _ _ (.inl ⟨rfl, rfl⟩) fun b c x hx hR => ?_
      have nn := law_nn h (l := x)
      have rg := law_regular h (l := x)
      unfold btSpec
      rw [rg]
      by_cases g : det (atD w x).mat = 0
      · have g2 : ¬ decide (det (atD w x).mat > 0) = true := by rw [decide_eq_true_iff]; omega
        rw [if_neg g2, decide_eq_true g, if_neg (by decide)]
        exact hR
      · have g2 : decide (det (atD w x).mat > 0) = true := by rw [decide_eq_true_iff]; omega
        have tr := law_trace h g
        rw [if_pos g2, decide_eq_false g, if_pos (by decide)]
        rcases hR with ⟨rfl, rfl⟩ | ⟨l, rfl, rfl⟩
        · refine .inr ⟨x, rfl, ?_⟩
          rw [tr]
          rfl
        · show ((if Kxd5.isLess (Kxd5.trace w x) (Kxd5.trace w l) then some (x, Kxd5.trace w x) else some (l, Kxd5.trace w l)) = none ∧ _) ∨ (∃ l', (if Kxd5.isLess (Kxd5.trace w x) (Kxd5.trace w l) then some (x, Kxd5.trace w x) else some (l, Kxd5.trace w l)) = some (l', Kxd5.trace w l') ∧
            (if Kxd5.isLess (traceF (atD w x).mat) (Kxd5.trace w l) = true then (atD w x, some (traceF (atD w x).mat)) else (atD w l, some (Kxd5.trace w l))) = (atD w l', some (Kxd5.trace w l')))
          rw [tr]
          by_cases q : Kxd5.isLess (traceF (atD w x).mat) (Kxd5.trace w l) = true
          · rw [if_pos q, if_pos q]
            exact .inr ⟨x, by rw [tr], by rw [tr]⟩
          · rw [if_neg q, if_neg q]
            exact .inr ⟨l, rfl, rfl⟩
    · rw [if_neg z, show w.candidates.length = 0 by omega, comp_none h1]
      exact .inl ⟨rfl, rfl⟩
  obtain ⟨b, hb, hR⟩ := step
  refine ⟨fun e => ?_, fun ne => ?_⟩
  · have e0 : btF (dsOf w) s = (dsOf w, none) := by unfold btF; rw [e]; rfl
    rcases hR with ⟨rfl, _⟩ | ⟨l, rfl, e1⟩
    · exact hb
    · rw [e0] at e1
      have := congrArg Prod.snd e1
      cases this
  · rcases hR with ⟨rfl, e1⟩ | ⟨l, rfl, e1⟩
    · refine absurd ?_ ne
      have key : ∀ (l : List Ds) (b : Ds × Option Kxd5.Fraction), b.2 ≠ none ∨ l ≠ [] → (l.foldl btStep b).2 ≠ none := by
        intro l
        induction l with
        | nil => intro b hb; exact hb.resolve_right fun z => z rfl
        | cons x l ih =>
          intro b hb
          rw [List.foldl_cons]
          refine ih _ (.inl ?_)
          unfold btStep
          split
          · exact fun z => by cases z
          · rename_i t e
            split
            · exact fun z => by cases z
            · rw [e]; exact fun z => by cases z
      refine Classical.byContradiction fun nz => key (rds (dsOf w) s) (dsOf w, none) (.inr nz) ?_
      have e2 : (rds (dsOf w) s).foldl btStep (dsOf w, none) = btF (dsOf w) s := rfl
      rw [e2, e1]
    · exact ⟨l, hb, e1⟩
end
/-! ## weights -/
theorem winfo {n : Nat} {rows : List Row} {l0 : List Nat} {a : List Int} {D : Int} (hD : D ≠ 0) (hA : RW n rows a) :
    IsQ n (Kxd5.weightedInformation ⟨n, rows, l0⟩ (a.map fun x => Kxd5.fraction x D)) (information n rows a) D := by
  have hm := info_isMat hA
  refine ⟨by unfold Kxd5.weightedInformation; rw [List.length_map, List.length_range], fun i r hr => ?_⟩
  unfold Kxd5.weightedInformation at hr
  rw [List.getElem?_map] at hr
  by_cases hi : i < n
  · rw [List.getElem?_range hi] at hr
    obtain rfl := Option.some.inj hr
    have li : i < (information n rows a).length := by rw [hm.len]; exact hi
    have zn : ∀ k, ∀ x ∈ List.zipWith (fun (x : List Int) (y : Kxd5.Fraction) => Kxd5.times y (Kxd5.times (Kxd5.ofInt (x.getD i 0)) (Kxd5.ofInt (x.getD k 0)))) rows (a.map fun x => Kxd5.fraction x D), Norm x := fun k x hx => by
      obtain ⟨j, hj⟩ := List.getElem?_of_mem hx
      rw [List.getElem?_zipWith] at hj
      split at hj
      · obtain rfl := Option.some.inj hj
        exact norm_times _ _
      · cases hj
    refine ⟨(information n rows a)[i], List.getElem?_eq_getElem li, by rw [List.length_map, List.length_range], fun x hx => ?_, fun k hk => ?_⟩
    · obtain ⟨j, _, rfl⟩ := List.mem_map.mp hx
      exact norm_total (zn j)
    · rw [getD_of _ (by rw [List.length_map, List.length_range]; exact hk), List.getElem_map, List.getElem_range, val_total (zn k)]
      have ia := info_at hA hi hk
      rw [getD_of _ li] at ia
      rw [ia]
      have key : ∀ (rows : List Row) (a : List Int), ((List.zipWith (fun (x : List Int) (y : Kxd5.Fraction) => Kxd5.times y (Kxd5.times (Kxd5.ofInt (x.getD i 0)) (Kxd5.ofInt (x.getD k 0)))) rows (a.map fun x => Kxd5.fraction x D)).map val).sum =
          ((List.zipWith (fun (r : Row) (c : Int) => c * (r.getD i 0 * r.getD k 0)) rows a).sum : Rat) / (D : Rat) := by
        have d0 := rat_ne hD
        intro rows
        induction rows with
        | nil => intro a; show (0 : Rat) = ((0 : Int) : Rat) / _; grind
        | cons r rows ih =>
          intro a
          cases a with
          | nil => show (0 : Rat) = ((0 : Int) : Rat) / _; grind
          | cons c a =>
            have := ih a
            rw [List.map_cons, List.zipWith_cons_cons, List.map_cons, List.sum_cons, this, List.zipWith_cons_cons, List.sum_cons, val_times, val_times, val_ofInt, val_ofInt, val_fraction, Rat.intCast_add, Rat.intCast_mul, Rat.intCast_mul]
            grind
      exact key rows a
  · rw [List.getElem?_eq_none (by rw [List.length_range]; exact Nat.le_of_not_lt hi)] at hr
    cases hr
section
variable {w : Kxd5.Workspace} (h : Wf (dsOf w))
include h
theorem law_multiplied {k : Nat} {ws : List Kxd5.Fraction} {a : List Int} {D : Int} (g : GoodW w.columns w.candidates k ws a D) : Kxd5.multiplied w ws = soF w.columns w.candidates ws := by
  have h1 : 1 ≤ w.columns := h.n1
  have h4 : w.columns ≤ 4 := h.n4
  have rA : RW w.columns w.candidates a := g.rwA h.rl
  have D0 : D ≠ 0 := by have := g.dp; omega
  have z : det (information w.columns w.candidates a) ≠ 0 := by have := g.det; omega
  have d1 := rat_ne D0
  have d2 := rat_ne z
  have d3 : ((w.columns : Int) : Rat) ≠ 0 := rat_ne (by omega)
  rw [g.step h1 h4 h.rl]
  unfold Kxd5.multiplied nextA
  rw [g.eq, List.zipWith_map_right, List.map_zipWith]
  refine zw_congr _ _ fun y hy => ?_
  obtain ⟨hy1, hy2⟩ := List.of_mem_zip (a := y.1) (b := y.2) hy
  have q : IsQ w.columns (Kxd5.weightedInformation w (a.map fun x => Kxd5.fraction x D)) (information w.columns w.candidates a) D := by
    obtain ⟨n, rows, l0⟩ := w
    exact winfo D0 rA
  obtain ⟨v1, v2⟩ := variance_val h1 h4 (info_isMat rA) z D0 q (isV_vector (h.rl _ hy1))
  refine val_inj (norm_over _ _) (norm_fraction _ _) ?_
  rw [val_over (norm_times _ _) (show Norm (Kxd5.ofNat w.columns) from norm_ofInt _), val_times, v2, val_fraction, val_fraction, val_ofNat, ← weighed_cof h1 h4 (info_isMat rA) (h.rl _ hy1), Rat.intCast_mul, Rat.intCast_mul]
  grind
theorem law_multiply (z : det (ones (dsOf w)).mat ≠ 0) : ∀ k j, Kxd5.multiply w k (wbF (dsOf w) j) = wbF (dsOf w) (j + k)
  | 0, j => rfl
  | k + 1, j => by
    obtain ⟨a, D, g⟩ := wb_good h z j
    show Kxd5.multiply w k (Kxd5.multiplied w (wbF (dsOf w) j)) = _
    rw [law_multiplied h g]
    have := law_multiply z k (j + 1)
    rw [show j + (k + 1) = j + 1 + k by omega]
    exact this
theorem law_weights (z : det (ones (dsOf w)).mat ≠ 0) (k : Nat) : Kxd5.multiply w k (Kxd5.uniform w) = wbF (dsOf w) k := by
  have := law_multiply h z k 0
  rw [Nat.zero_add] at this
  exact this
theorem law_ones : atD w (w.candidates.map fun _ => 1) = ones (dsOf w) := by
  unfold ones atD Ds.to
  congr 1
  unfold Kxd5.toInts
  rw [List.map_map, show (dsOf w).rows.length = w.candidates.length from rfl, ← List.map_const']
  rfl
end
/-! ## comparisons -/
theorem ofM_less (a b : Mat) : List.zipWith (fun r s => List.zipWith Kxd5.minus r s) (ofM a) (ofM b) = ofM (lessM a b) := by
  unfold ofM lessM
  rw [List.zipWith_map, List.map_zipWith]
  congr 1
  funext r s
  rw [List.zipWith_map, List.map_zipWith]
  congr 1
  funext x y
  exact minus_ofInt x y
theorem ofM_at (m : Mat) (i j : Nat) : ((ofM m).getD i []).getD j ⟨0, 1⟩ = Kxd5.ofInt ((m.getD i []).getD j 0) := by
  unfold ofM
  rw [List.getD_eq_getElem?_getD, List.getD_eq_getElem?_getD, List.getD_eq_getElem?_getD, List.getD_eq_getElem?_getD, List.getElem?_map]
  cases m[i]? with
  | none => rfl
  | some r =>
    show ((r.map Kxd5.ofInt)[j]?).getD ⟨0, 1⟩ = Kxd5.ofInt ((r[j]?).getD 0)
    rw [List.getElem?_map]
    cases r[j]? <;> rfl
theorem subs_places : ∀ n, n ≤ 4 → Kxd5.subsets n = allPlaces n := by
  have key : ∀ n ∈ List.range 5, Kxd5.subsets n = allPlaces n := by decide +kernel
  exact fun n hn => key n (List.mem_range.mpr (by omega))
theorem law_nonneg {n : Nat} {m : Mat} (hm : IsMat n m) (h4 : n ≤ 4) : Kxd5.isNonnegative (ofM m) = noNeg m := by
  unfold Kxd5.isNonnegative noNeg
  have l : (ofM m).length = m.length := by unfold ofM; rw [List.length_map]
  rw [l, subs_places _ (by rw [hm.len]; exact h4)]
  congr 1
  funext s
  have e : (s.map fun i => s.map fun j => ((ofM m).getD i []).getD j ⟨0, 1⟩) = ofM (chosen m s) := by
    unfold chosen
    conv => rhs; unfold ofM
    rw [List.map_map]
    refine List.map_congr_left fun i _ => ?_
    show _ = (s.map fun c => (m.getD i []).getD c 0).map Kxd5.ofInt
    rw [List.map_map]
    exact List.map_congr_left fun j _ => ofM_at m i j
  rw [e, kdet]
  rfl
theorem law_good {w : Kxd5.Workspace} (h : Wf (dsOf w)) (a b : List Nat) : Kxd5.isAtLeastAsGood w a b = noNeg (lessM (atD w a).mat (atD w b).mat) := by
  unfold Kxd5.isAtLeastAsGood
  rw [law_info h, law_info h, ofM_less]
  exact law_nonneg (lessM_isMat (law_mat h) (law_mat h)) h.n4
end Bd
set_option maxRecDepth 100000
set_option maxHeartbeats 4000000
namespace Bd
/-! # The law: call by call -/
def pS (r : Kxd5.State × Kxd5.Result) : List Int × Option Ds := (Kxd5Neutral.fields r.2, r.1.map dsOf)
theorem isRow_eq (w : Kxd5.Workspace) (l : List Int) : Kxd5.isRow w l = rowOk w.columns l := by
  unfold Kxd5.isRow rowOk
  have e1 : (l.length == w.columns) = decide (l.length = w.columns) := by rw [Bool.eq_iff_iff, beq_iff_eq, decide_eq_true_iff]
  have e2 : (fun (z : Int) => decide (-10 ≤ z) && decide (z ≤ 10)) = fun z => decide (-10 ≤ z ∧ z ≤ 10) := by
    funext z
    rw [Bool.eq_iff_iff, Bool.and_eq_true, decide_eq_true_iff, decide_eq_true_iff, decide_eq_true_iff]
  rw [e1, e2]
theorem contains_eq (m : Mat) (l : List Int) : m.contains l = m.any fun z => decide (z = l) := by
  rw [Bool.eq_iff_iff, List.contains_iff_mem, List.any_eq_true]
  constructor
  · exact fun h => ⟨l, h, decide_eq_true rfl⟩
  · rintro ⟨x, hx, e⟩
    rw [← of_decide_eq_true e]
    exact hx
theorem ints_nat {row : List Int} (h : ∀ x ∈ row, 0 ≤ x) : Kxd5.toInts (row.map Kxd5Neutral.nat) = row := by
  unfold Kxd5.toInts
  rw [List.map_map]
  have : row.map ((fun (x : Nat) => (x : Int)) ∘ Kxd5Neutral.nat) = row.map id := List.map_congr_left fun x hx => Int.toNat_of_nonneg (h x hx)
  rw [this, List.map_id]
theorem areCounts_eq (w : Kxd5.Workspace) {row : List Int} (h : ∀ x ∈ row, 0 ≤ x) : Kxd5.areCounts w (row.map Kxd5Neutral.nat) = cntOk w.candidates.length row := by
  unfold Kxd5.areCounts cntOk
  congr 1
  · rw [Bool.eq_iff_iff, beq_iff_eq, decide_eq_true_iff, List.length_map]
  · rw [List.all_map, Bool.eq_iff_iff, List.all_eq_true, List.all_eq_true]
    refine forall_congr' fun x => forall_congr' fun hx => ?_
    have := h x hx
    show decide (x.toNat ≤ 20) = true ↔ _
    rw [decide_eq_true_iff, decide_eq_true_iff]
    omega
theorem size_sum (l : List Nat) : (Kxd5.size l : Int) = (Kxd5.toInts l).sum := by
  unfold Kxd5.size Kxd5.toInts
  have key : ∀ (l : List Nat) (a : Nat), ((l.foldl (· + ·) a : Nat) : Int) = a + (l.map fun (x : Nat) => (x : Int)).sum := by
    intro l
    induction l with
    | nil => intro a; rw [List.foldl_nil, List.map_nil, List.sum_nil, Int.add_zero]
    | cons x l ih => intro a; rw [List.foldl_cons, ih, List.map_cons, List.sum_cons]; omega
  rw [key]
  omega
theorem flat_num (m : Mat) : (ofM m).flatten.map (·.numerator) = m.flatten := by
  unfold ofM
  rw [List.map_flatten, List.map_map]
  have : m.map ((List.map fun (x : Kxd5.Fraction) => x.numerator) ∘ fun r => r.map Kxd5.ofInt) = m.map id := List.map_congr_left fun r _ => by
    show (r.map Kxd5.ofInt).map _ = r
    rw [List.map_map]
    exact List.map_id r
  rw [this, List.map_id]
theorem times_comm (a b : Kxd5.Fraction) : Kxd5.times a b = Kxd5.times b a := by
  unfold Kxd5.times
  rw [Int.mul_comm a.numerator, Int.mul_comm (a.denominator : Int)]
section
variable {w : Kxd5.Workspace} (h : Wf (dsOf w))
include h
theorem law_reg (r : Kxd5.Result) : Kxd5.regular w r = if det (dsOf w).mat = 0 then .value (-33) else r := by
  unfold Kxd5.regular
  rw [law_regular h]
  by_cases z : det (atD w w.counts).mat = 0
  · rw [decide_eq_true z, if_neg (by decide), if_pos (show det (dsOf w).mat = 0 from z)]
  · rw [decide_eq_false z, if_pos (by decide), if_neg (show ¬ det (dsOf w).mat = 0 from z)]
theorem clen : w.counts.length = w.candidates.length := by
  have := h.cl
  rw [← toInts_len w.counts]
  exact this
theorem st1 (row : List Int) (n : Int) : pS (Kxd5.step (some w) (.addCandidate row)) = ofOut (dsOf w) (dAdd (dsOf w) n row) := by
  show pS (if Kxd5.isRow w row = false then (some w, .value (-22)) else if w.candidates.contains row then (some w, .value (-17)) else if Kxd5.maxCandidates ≤ w.candidates.length then (some w, .value (-28)) else
    (some { w with candidates := w.candidates ++ [row], counts := w.counts ++ [0] }, .value w.candidates.length)) = _
  rw [isRow_eq, contains_eq]
  unfold dAdd
  show _ = ofOut (dsOf w) (if rowOk w.columns row = false then .no (-22) else if (w.candidates.any fun z => decide (z = row)) = true then .no (-17) else if ¬ w.candidates.length < 10 then .no (-28) else .ok [(w.candidates.length : Int)] ⟨w.columns, w.candidates ++ [row], Kxd5.toInts w.counts ++ [0]⟩)
  by_cases c1 : rowOk w.columns row = false
  · rw [if_pos c1, if_pos c1]; rfl
  · rw [if_neg c1, if_neg c1]
    by_cases c2 : (w.candidates.any fun z => decide (z = row)) = true
    · rw [if_pos c2, if_pos c2]; rfl
    · rw [if_neg c2, if_neg c2]
      by_cases c3 : w.candidates.length < 10
      · rw [if_neg (show ¬ Kxd5.maxCandidates ≤ w.candidates.length from Nat.not_le.mpr c3), if_neg (fun z => z c3)]
        show ([(w.candidates.length : Int)], some (⟨w.columns, w.candidates ++ [row], Kxd5.toInts (w.counts ++ [0])⟩ : Ds)) = _
        unfold Kxd5.toInts
        rw [List.map_append]
        rfl
      · rw [if_pos (show Kxd5.maxCandidates ≤ w.candidates.length from Nat.le_of_not_lt c3), if_pos c3]; rfl
theorem st2 (row : List Int) (m : Nat) : pS (Kxd5.step (some w) (.removeCandidate m)) = ofOut (dsOf w) (dRem (dsOf w) m row) := by
  show pS (if w.candidates.length ≤ m then (some w, .value (-2)) else (some { w with candidates := w.candidates.eraseIdx m, counts := w.counts.eraseIdx m }, .value (w.candidates.length - 1 : Nat))) = ofOut (dsOf w) (if 0 ≤ (m : Int) ∧ (m : Int) < w.candidates.length then _ else _)
  by_cases c : w.candidates.length ≤ m
  · rw [if_pos c, if_neg (by omega)]; rfl
  · rw [if_neg c, if_pos (by omega)]
    show ([((w.candidates.length - 1 : Nat) : Int)], some (⟨w.columns, w.candidates.eraseIdx m, Kxd5.toInts (w.counts.eraseIdx m)⟩ : Ds)) = ([(w.candidates.length : Int) - 1], some (⟨w.columns, w.candidates.take m ++ w.candidates.drop (m + 1), (Kxd5.toInts w.counts).take m ++ (Kxd5.toInts w.counts).drop (m + 1)⟩ : Ds))
    rw [List.eraseIdx_eq_take_drop_succ, List.eraseIdx_eq_take_drop_succ, show ((w.candidates.length - 1 : Nat) : Int) = (w.candidates.length : Int) - 1 by omega]
    unfold Kxd5.toInts
    rw [List.map_append, List.map_take, List.map_drop]
theorem st3 (row : List Int) (m : Nat) : pS (Kxd5.step (some w) (.getCandidate m)) = ofOut (dsOf w) (dGet (dsOf w) m row) := by
  show pS (some w, match w.candidates[m]? with | none => .value (-2) | some x => .values x.length x) = ofOut (dsOf w) (if 0 ≤ (m : Int) ∧ (m : Int) < w.candidates.length then .ok ((w.columns : Int) :: w.candidates.getD m []) (dsOf w) else .no (-2))
  by_cases c : m < w.candidates.length
  · rw [if_pos (by omega), getD_of _ c, List.getElem?_eq_getElem c]
    have := h.rl _ (List.getElem_mem c)
    show ((w.candidates[m].length : Int) :: w.candidates[m], some (dsOf w)) = ((w.columns : Int) :: w.candidates[m], some (dsOf w))
    rw [this]
    rfl
  · rw [if_neg (by omega), List.getElem?_eq_none (by omega)]; rfl
theorem st4 (n : Int) {row : List Int} (hr : ∀ x ∈ row, 0 ≤ x) : pS (Kxd5.step (some w) (.setCounts (row.map Kxd5Neutral.nat))) = ofOut (dsOf w) (dSet (dsOf w) n row) := by
  show pS (if Kxd5.areCounts w (row.map Kxd5Neutral.nat) = false then (some w, .value (-22)) else (some { w with counts := row.map Kxd5Neutral.nat }, .value (Kxd5.size (row.map Kxd5Neutral.nat)))) = ofOut (dsOf w) (if cntOk w.candidates.length row = true then .ok [row.sum] ⟨w.columns, w.candidates, row⟩ else .no (-22))
  rw [areCounts_eq w hr]
  by_cases c : cntOk w.candidates.length row = true
  · rw [if_pos c, if_neg (by rw [c]; decide)]
    show ([(Kxd5.size (row.map Kxd5Neutral.nat) : Int)], some (⟨w.columns, w.candidates, Kxd5.toInts (row.map Kxd5Neutral.nat)⟩ : Ds)) = _
    rw [size_sum, ints_nat hr]
    rfl
  · rw [if_neg c, if_pos (by simpa using c)]; rfl
theorem st5 (n : Int) (row : List Int) : pS (Kxd5.step (some w) .counts) = ofOut (dsOf w) (dCnt (dsOf w) n row) := by
  show ((w.counts.length : Int) :: Kxd5.toInts w.counts, some (dsOf w)) = (((Kxd5.toInts w.counts).length : Int) :: Kxd5.toInts w.counts, some (dsOf w))
  rw [toInts_len]
theorem st6 (n : Int) (row : List Int) : pS (Kxd5.step (some w) .information) = ofOut (dsOf w) (dInf (dsOf w) n row) := by
  show ((w.columns : Int) :: (Kxd5.information w w.counts).flatten.map (·.numerator), some (dsOf w)) = ((w.columns : Int) :: (dsOf w).mat.flatten, some (dsOf w))
  rw [law_info h, flat_num]
  rfl
theorem st7 (n : Int) (row : List Int) : pS (Kxd5.step (some w) .determinant) = ofOut (dsOf w) (dDet (dsOf w) n row) := by
  show ([(Kxd5.value w w.counts).numerator], some (dsOf w)) = ([det (dsOf w).mat], some (dsOf w))
  rw [law_value_num h]
  rfl
theorem st8 (n : Int) (row : List Int) : pS (Kxd5.step (some w) .trace) = ofOut (dsOf w) (dTr (dsOf w) n row) := by
  show pS (some w, Kxd5.regular w (Kxd5.fractionResult (Kxd5.trace w w.counts))) = ofOut (dsOf w) (if det (dsOf w).mat = 0 then .no (-33) else .ok (0 :: toldF [traceF (dsOf w).mat]) (dsOf w))
  rw [law_reg h]
  by_cases z : det (dsOf w).mat = 0
  · rw [if_pos z, if_pos z]; rfl
  · rw [if_neg z, if_neg z, law_trace h z]; rfl
theorem st9 (n : Int) (row : List Int) : pS (Kxd5.step (some w) (.variance row)) = ofOut (dsOf w) (dVar (dsOf w) n row) := by
  show pS (some w, if Kxd5.isRow w row = false then .value (-22) else Kxd5.regular w (Kxd5.fractionResult (Kxd5.variance w w.counts row))) = ofOut (dsOf w) (if rowOk w.columns row = false then .no (-22) else if det (dsOf w).mat = 0 then .no (-33) else .ok (0 :: toldF (varsF (dsOf w).mat [row])) (dsOf w))
  rw [isRow_eq, law_reg h]
  by_cases c : rowOk w.columns row = false
  · rw [if_pos c, if_pos c]; rfl
  · rw [if_neg c, if_neg c]
    by_cases z : det (dsOf w).mat = 0
    · rw [if_pos z, if_pos z]; rfl
    · have c' : rowOk w.columns row = true := by simpa using c
      rw [if_neg z, if_neg z, law_variance h z (rowOk_ev c').1]; rfl
theorem st10 (n : Int) (row : List Int) : pS (Kxd5.step (some w) .candidateVariances) = ofOut (dsOf w) (dCV (dsOf w) n row) := by
  show pS (some w, Kxd5.regular w (.values w.candidates.length ((w.candidates.map (Kxd5.variance w w.counts)).flatMap Kxd5.fields))) = ofOut (dsOf w) (if det (dsOf w).mat = 0 then .no (-33) else .ok ((w.candidates.length : Int) :: toldF (varsF (dsOf w).mat w.candidates)) (dsOf w))
  rw [law_reg h]
  by_cases z : det (dsOf w).mat = 0
  · rw [if_pos z, if_pos z]; rfl
  · rw [if_neg z, if_neg z, law_vars h z]; rfl
theorem st11 (n : Int) (row : List Int) : pS (Kxd5.step (some w) .isOptimal) = ofOut (dsOf w) (dOpt (dsOf w) n row) := by
  show pS (some w, Kxd5.regular w (.values (if Kxd5.isAtMost (Kxd5.times (Kxd5.ofNat (Kxd5.size w.counts)) (Kxd5.worst w w.counts).2) (Kxd5.ofNat w.columns) then 1 else 0) (((Kxd5.worst w w.counts).1 : Int) :: Kxd5.fields (Kxd5.times (Kxd5.ofNat (Kxd5.size w.counts)) (Kxd5.worst w w.counts).2)))) =
    ofOut (dsOf w) (if det (dsOf w).mat = 0 then .no (-33) else .ok ((if !(Kxd5.isLess (Kxd5.fraction w.columns 1) (hereF (dsOf w))) then 1 else 0) :: (dWorst (dsOf w) : Int) :: toldF [hereF (dsOf w)]) (dsOf w))
  rw [law_reg h]
  by_cases z : det (dsOf w).mat = 0
  · rw [if_pos z, if_pos z]; rfl
  · rw [if_neg z, if_neg z, law_worst h z]
    have e : Kxd5.times (Kxd5.ofNat (Kxd5.size w.counts)) (dWorstF (atD w w.counts)) = hereF (dsOf w) := by
      unfold hereF
      rw [times_comm, fraction_one]
      show Kxd5.times _ (Kxd5.ofInt (Kxd5.size w.counts : Int)) = Kxd5.times _ (Kxd5.ofInt (Kxd5.toInts w.counts).sum)
      rw [size_sum]
      rfl
    show ((if Kxd5.isAtMost (Kxd5.times (Kxd5.ofNat (Kxd5.size w.counts)) (dWorstF (atD w w.counts))) (Kxd5.ofNat w.columns) then 1 else 0) :: ((dWorst (atD w w.counts) : Int) :: Kxd5.fields (Kxd5.times (Kxd5.ofNat (Kxd5.size w.counts)) (dWorstF (atD w w.counts)))), some (dsOf w)) = _
    rw [e]
    unfold Kxd5.isAtMost
    rw [fraction_one]
    rfl
theorem st12 (m : Nat) (row : List Int) : pS (Kxd5.step (some w) (.bound m)) = ofOut (dsOf w) (dBnd (dsOf w) m row) := by
  show pS (some w, if m = 0 ∨ 100 < m then .value (-22) else Kxd5.regular w (.value (Kxd5.bound w w.counts m))) = ofOut (dsOf w) (if ¬ (1 ≤ (m : Int) ∧ (m : Int) ≤ 100) then .no (-22) else if det (dsOf w).mat = 0 then .no (-33) else .ok [dBound (dsOf w) m] (dsOf w))
  by_cases c : m = 0 ∨ 100 < m
  · rw [if_pos c, if_pos (by omega)]; rfl
  · rw [if_neg c, if_neg (show ¬ ¬ (1 ≤ (m : Int) ∧ (m : Int) ≤ 100) by omega), law_reg h]
    by_cases z : det (dsOf w).mat = 0
    · rw [if_pos z, if_pos z]; rfl
    · rw [if_neg z, if_neg z, law_bound h z]; rfl
theorem st13 (n : Int) (row : List Int) : pS (Kxd5.step (some w) .exchange) = ofOut (dsOf w) (dExch (dsOf w) n row) := by
  have e := law_best_exchange h (clen h)
  have ex := fun i j x => law_best_exchange_x h (clen h) (i := i) (j := j) (x := x)
  show pS (match Kxd5.bestExchange w w.counts with | none => (some w, .value (-33)) | some z => (some { w with counts := Kxd5.exchanged w.counts z }, .values z.1 [(z.2 : Int), (Kxd5.value w (Kxd5.exchanged w.counts z)).numerator])) = ofOut (dsOf w) (match (bx (atD w w.counts)).1 with | none => .no (-33) | some (i, j, x) => .ok [(i : Int), (j : Int), x] (exC (atD w w.counts) i j))
  rw [e]
  generalize (bx (atD w w.counts)).1 = o at ex
  cases o with
  | none => rfl
  | some o =>
    obtain ⟨i, j, x⟩ := o
    obtain ⟨e1, e2⟩ := ex i j x rfl
    show ([(i : Int), (j : Int), (Kxd5.value w (Kxd5.exchanged w.counts (i, j))).numerator], some (atD w (Kxd5.exchanged w.counts (i, j)))) = ([(i : Int), (j : Int), x], some (exC (atD w w.counts) i j))
    rw [← e1, e2]
theorem st14 (m : Nat) (row : List Int) : pS (Kxd5.step (some w) (.improve m)) = ofOut (dsOf w) (dImp (dsOf w) m row) := by
  show pS (if m = 0 ∨ 20 < m then (some w, .value (-22)) else (some { w with counts := (Kxd5.improve w m w.counts).2 }, .values (Kxd5.improve w m w.counts).1 [(Kxd5.value w (Kxd5.improve w m w.counts).2).numerator])) =
    ofOut (dsOf w) (if ¬ (1 ≤ (m : Int) ∧ (m : Int) ≤ 20) then .no (-22) else .ok [((impF m (dsOf w)).1 : Int), det (impF m (dsOf w)).2.mat] (impF m (dsOf w)).2)
  by_cases c : m = 0 ∨ 20 < m
  · rw [if_pos c, if_pos (by omega)]; rfl
  · rw [if_neg c, if_neg (show ¬ ¬ (1 ≤ (m : Int) ∧ (m : Int) ≤ 20) by omega)]
    obtain ⟨a, b⟩ := law_improve h m (clen h)
    show ([((Kxd5.improve w m w.counts).1 : Int), (Kxd5.value w (Kxd5.improve w m w.counts).2).numerator], some (atD w (Kxd5.improve w m w.counts).2)) = ([((impF m (dsOf w)).1 : Int), det (impF m (dsOf w)).2.mat], some (impF m (dsOf w)).2)
    rw [law_value_num h, a, b]
    rfl
theorem st15 (n : Int) (row : List Int) : pS (Kxd5.step (some w) .add) = ofOut (dsOf w) (dAddR (dsOf w) n row) := by
  obtain ⟨e, ex⟩ := law_addition h (clen h)
  show pS (match Kxd5.bestAddition w w.counts with | none => (some w, .value (-33)) | some j => (some { w with counts := Kxd5.increased w.counts j }, .values j [(Kxd5.value w (Kxd5.increased w.counts j)).numerator])) = ofOut (dsOf w) (match st (atD w w.counts) 1 (upPl (atD w w.counts)) with | none => .no (-33) | some (j, x) => .ok [(j : Int), x] ⟨w.columns, w.candidates, stepC (Kxd5.toInts w.counts) j 1⟩)
  rw [e]
  generalize st (atD w w.counts) 1 (upPl (atD w w.counts)) = o at ex
  cases o with
  | none => rfl
  | some o =>
    obtain ⟨j, x⟩ := o
    have e1 := ex j x rfl
    show ([(j : Int), (Kxd5.value w (Kxd5.increased w.counts j)).numerator], some (⟨w.columns, w.candidates, Kxd5.toInts (Kxd5.increased w.counts j)⟩ : Ds)) = ([(j : Int), x], some (⟨w.columns, w.candidates, stepC (Kxd5.toInts w.counts) j 1⟩ : Ds))
    rw [← e1, inc_ints]
theorem st16 (n : Int) (row : List Int) : pS (Kxd5.step (some w) .remove) = ofOut (dsOf w) (dRemR (dsOf w) n row) := by
  obtain ⟨e, ex⟩ := law_removal h (clen h)
  show pS (match Kxd5.bestRemoval w w.counts with | none => (some w, .value (-33)) | some i => (some { w with counts := Kxd5.decreased w.counts i }, .values i [(Kxd5.value w (Kxd5.decreased w.counts i)).numerator])) = ofOut (dsOf w) (match st (atD w w.counts) (-1) (dnPl (atD w w.counts)) with | none => .no (-33) | some (j, x) => .ok [(j : Int), x] ⟨w.columns, w.candidates, stepC (Kxd5.toInts w.counts) j (-1)⟩)
  rw [e]
  generalize st (atD w w.counts) (-1) (dnPl (atD w w.counts)) = o at ex
  cases o with
  | none => rfl
  | some o =>
    obtain ⟨j, x⟩ := o
    obtain ⟨e1, e2⟩ := ex j x rfl
    show ([(j : Int), (Kxd5.value w (Kxd5.decreased w.counts j)).numerator], some (⟨w.columns, w.candidates, Kxd5.toInts (Kxd5.decreased w.counts j)⟩ : Ds)) = ([(j : Int), x], some (⟨w.columns, w.candidates, stepC (Kxd5.toInts w.counts) j (-1)⟩ : Ds))
    rw [← e1, dec_ints _ _ e2]
theorem law_search (m : Nat) (f : _root_.Unit → Kxd5.Result) : Kxd5.search w m f = if ¬ (1 ≤ (m : Int) ∧ (m : Int) ≤ 20) then .value (-22) else if 500 < lo w.candidates.length m then .value (-28) else f () := by
  unfold Kxd5.search
  by_cases c : m = 0 ∨ Kxd5.maxCount < m
  · rw [if_pos c, if_pos (by unfold Kxd5.maxCount at c; omega)]
  · have c' : ¬ (m = 0 ∨ 20 < m) := c
    rw [if_neg c, if_neg (show ¬ ¬ (1 ≤ (m : Int) ∧ (m : Int) ≤ 20) by omega), lo_count w.candidates.length h.rk m (by omega) (by omega)]
    unfold Kxd5.maxSearch
    by_cases q : 500 < Kxd5.compositionCount w.candidates.length m
    · rw [if_pos q, if_pos (show (500 : Int) < (Kxd5.compositionCount w.candidates.length m : Int) by omega)]
    · rw [if_neg q, if_neg (show ¬ (500 : Int) < (Kxd5.compositionCount w.candidates.length m : Int) by omega)]
theorem st17 (m : Nat) (row : List Int) : pS (Kxd5.step (some w) (.best m)) = ofOut (dsOf w) (dBest (dsOf w) m row) := by
  show pS (some w, Kxd5.search w m fun _ => match Kxd5.bestDesign w m with | none => .value (-33) | some l => .values (Kxd5.value w l).numerator (Kxd5.toInts l)) =
    ofOut (dsOf w) (if ¬ (1 ≤ (m : Int) ∧ (m : Int) ≤ 20) then .no (-22) else if 500 < lo w.candidates.length m then .no (-28) else if rds (dsOf w) m = [] then .no (-33) else .ok ((bdF (dsOf w) m).2 :: (bdF (dsOf w) m).1.cs) (dsOf w))
  rw [law_search h]
  by_cases c : ¬ (1 ≤ (m : Int) ∧ (m : Int) ≤ 20)
  · rw [if_pos c, if_pos c]; rfl
  · rw [if_neg c, if_neg c]
    by_cases c2 : 500 < lo w.candidates.length m
    · rw [if_pos c2, if_pos c2]; rfl
    · rw [if_neg c2, if_neg c2]
      obtain ⟨b1, b2⟩ := law_best h (s := m) (by omega) (by omega)
      by_cases c3 : rds (dsOf w) m = []
      · rw [if_pos c3, b1 c3]; rfl
      · obtain ⟨l, e1, e2, e3⟩ := b2 c3
        rw [if_neg c3, e1, e2, e3]
        show ((Kxd5.value w l).numerator :: Kxd5.toInts l, some (dsOf w)) = _
        rw [law_value_num h]
        rfl
theorem st18 (m : Nat) (row : List Int) : pS (Kxd5.step (some w) (.bestByTrace m)) = ofOut (dsOf w) (dBT (dsOf w) m row) := by
  show pS (some w, Kxd5.search w m fun _ => match Kxd5.bestByTrace w m with | none => .value (-33) | some l => .values 0 (Kxd5.fields (Kxd5.trace w l) ++ Kxd5.toInts l)) =
    ofOut (dsOf w) (if ¬ (1 ≤ (m : Int) ∧ (m : Int) ≤ 20) then .no (-22) else if 500 < lo w.candidates.length m then .no (-28) else if rds (dsOf w) m = [] then .no (-33) else match (btF (dsOf w) m).2 with | none => .no (-33) | some t => .ok (0 :: toldF [t] ++ (btF (dsOf w) m).1.cs) (dsOf w))
  rw [law_search h]
  by_cases c : ¬ (1 ≤ (m : Int) ∧ (m : Int) ≤ 20)
  · rw [if_pos c, if_pos c]; rfl
  · rw [if_neg c, if_neg c]
    by_cases c2 : 500 < lo w.candidates.length m
    · rw [if_pos c2, if_pos c2]; rfl
    · rw [if_neg c2, if_neg c2]
      obtain ⟨b1, b2⟩ := law_by_trace h (s := m) (by omega) (by omega)
      by_cases c3 : rds (dsOf w) m = []
      · rw [if_pos c3, b1 c3]; rfl
      · obtain ⟨l, e1, e2⟩ := b2 c3
        rw [if_neg c3, e1, e2]
        rfl
theorem st19 (m : Nat) (row : List Int) : pS (Kxd5.step (some w) (.takeBest m)) = ofOut (dsOf w) (dTake (dsOf w) m row) := by
  show pS (match Kxd5.search w m (fun _ => .value 0) with | .value 0 => (match Kxd5.bestDesign w m with | none => (some w, .value (-33)) | some l => (some { w with counts := l }, .value (Kxd5.value w l).numerator)) | r => (some w, r)) =
    ofOut (dsOf w) (if ¬ (1 ≤ (m : Int) ∧ (m : Int) ≤ 20) then .no (-22) else if 500 < lo w.candidates.length m then .no (-28) else if rds (dsOf w) m = [] then .no (-33) else .ok [(bdF (dsOf w) m).2] (bdF (dsOf w) m).1)
  rw [law_search h]
  by_cases c : ¬ (1 ≤ (m : Int) ∧ (m : Int) ≤ 20)
  · rw [if_pos c, if_pos c]; rfl
  · rw [if_neg c, if_neg c]
    by_cases c2 : 500 < lo w.candidates.length m
    · rw [if_pos c2, if_pos c2]; rfl
    · rw [if_neg c2, if_neg c2]
      obtain ⟨b1, b2⟩ := law_best h (s := m) (by omega) (by omega)
      by_cases c3 : rds (dsOf w) m = []
      · rw [if_pos c3, b1 c3]; rfl
      · obtain ⟨l, e1, e2, e3⟩ := b2 c3
        rw [if_neg c3, e1, e2, e3]
        show ([(Kxd5.value w l).numerator], some (atD w l)) = ([det (atD w l).mat], some (atD w l))
        rw [law_value_num h]
theorem st20 (m : Nat) (row : List Int) : pS (Kxd5.step (some w) (.weights m)) = ofOut (dsOf w) (dWts (dsOf w) m row) := by
  show pS (some w, if 3 < m then .value (-22) else if w.candidates.isEmpty ∨ Kxd5.isRegular w (w.candidates.map fun _ => 1) = false then .value (-33) else .values w.candidates.length ((Kxd5.multiply w m (Kxd5.uniform w)).flatMap Kxd5.fields)) =
    ofOut (dsOf w) (if ¬ (0 ≤ (m : Int) ∧ (m : Int) ≤ 3) then .no (-22) else if det (ones (dsOf w)).mat = 0 then .no (-33) else .ok (((wbF (dsOf w) m).length : Int) :: toldF (wbF (dsOf w) m)) (dsOf w))
  by_cases c : 3 < m
  · rw [if_pos c, if_pos (by omega)]; rfl
  · rw [if_neg c, if_neg (show ¬ ¬ (0 ≤ (m : Int) ∧ (m : Int) ≤ 3) by omega), law_regular h, law_ones h]
    by_cases z : det (ones (dsOf w)).mat = 0
    · rw [if_pos z, if_pos (.inr (by rw [decide_eq_true z]; rfl))]; rfl
    · have ne := h.ones.rows_ne z
      rw [if_neg z, if_neg (fun y => by
        rcases y with y | y
        · exact ne (List.isEmpty_iff.mp y)
        · rw [decide_eq_false z] at y; cases y), law_weights h z]
      have wl : (wbF (dsOf w) m).length = w.candidates.length := by
        obtain ⟨a, D, g⟩ := wb_good h z m
        rw [g.eq, List.length_map, g.len]
        rfl
      rw [wl]
      rfl
theorem st21 (n : Int) {row : List Int} (hr : ∀ x ∈ row, 0 ≤ x) : pS (Kxd5.step (some w) (.compare (row.map Kxd5Neutral.nat))) = ofOut (dsOf w) (dCmp (dsOf w) n row) := by
  have ea : atD w (row.map Kxd5Neutral.nat) = (dsOf w).to row := by
    unfold atD
    rw [ints_nat hr]
    rfl
  show pS (some w, if Kxd5.areCounts w (row.map Kxd5Neutral.nat) = false then .value (-22) else if Kxd5.isRegular w w.counts = false ∨ Kxd5.isRegular w (row.map Kxd5Neutral.nat) = false then .value (-33) else
      .values (Kxd5.compareSign (Kxd5.value w w.counts) (Kxd5.value w (row.map Kxd5Neutral.nat))) [Kxd5.compareSign (Kxd5.trace w (row.map Kxd5Neutral.nat)) (Kxd5.trace w w.counts)]) =
    ofOut (dsOf w) (if cntOk w.candidates.length row = false then .no (-22) else if det (dsOf w).mat = 0 ∨ det ((dsOf w).to row).mat = 0 then .no (-33) else
      .ok [sgB (decide (det (dsOf w).mat > det ((dsOf w).to row).mat)) (decide (det (dsOf w).mat < det ((dsOf w).to row).mat)), sgB (Kxd5.isLess (traceF (dsOf w).mat) (traceF ((dsOf w).to row).mat)) (Kxd5.isLess (traceF ((dsOf w).to row).mat) (traceF (dsOf w).mat))] (dsOf w))
  rw [areCounts_eq w hr, law_regular h, law_regular h, ea]
  by_cases c : cntOk w.candidates.length row = false
  · rw [if_pos c, if_pos c]; rfl
  · rw [if_neg c, if_neg c]
    by_cases z1 : det (dsOf w).mat = 0
    · rw [if_pos (.inl (by rw [decide_eq_true (show det (atD w w.counts).mat = 0 from z1)]; rfl)), if_pos (.inl z1)]; rfl
    · by_cases z2 : det ((dsOf w).to row).mat = 0
      · rw [if_pos (.inr (by rw [decide_eq_true z2]; rfl)), if_pos (.inr z2)]; rfl
      · rw [if_neg (fun y => by
          rcases y with y | y
          · rw [decide_eq_false (show ¬ det (atD w w.counts).mat = 0 from z1)] at y; cases y
          · rw [decide_eq_false z2] at y; cases y), if_neg (fun y => y.elim z1 z2), law_trace h z1, law_trace h (by rw [ea]; exact z2), law_value h, law_value h, ea]
        have sg : ∀ a b : Int, Kxd5.compareSign (Kxd5.ofInt a) (Kxd5.ofInt b) = sgB (decide (a > b)) (decide (a < b)) := fun a b => by
          unfold Kxd5.compareSign sgB
          rw [isLess_ofInt, isLess_ofInt]
          by_cases q : a < b
          · rw [decide_eq_true q, if_pos rfl, decide_eq_false (show ¬ a > b by omega)]; rfl
          · rw [decide_eq_false q, if_neg (by decide)]
            by_cases q2 : b < a
            · rw [decide_eq_true q2]; rfl
            · rw [decide_eq_false q2]; rfl
        have ng : ∀ x y : Kxd5.Fraction, Kxd5.isLess x y = true → Kxd5.isLess y x = false := fun x y e => by
          unfold Kxd5.isLess at e ⊢
          have := of_decide_eq_true e
          exact decide_eq_false (by omega)
        have sf : ∀ x y : Kxd5.Fraction, Kxd5.compareSign y x = sgB (Kxd5.isLess x y) (Kxd5.isLess y x) := fun x y => by
          unfold Kxd5.compareSign sgB
          cases q : Kxd5.isLess y x with
          | true => rw [ng y x q]; rfl
          | false =>
            cases q2 : Kxd5.isLess x y with
            | true => rfl
            | false => rfl
        show (Kxd5.compareSign (Kxd5.ofInt (det (atD w w.counts).mat)) (Kxd5.ofInt (det ((dsOf w).to row).mat)) :: [Kxd5.compareSign (traceF ((dsOf w).to row).mat) (traceF (atD w w.counts).mat)], some (dsOf w)) = _
        rw [sg, sf]
        rfl
theorem st22 (n : Int) {row : List Int} (hr : ∀ x ∈ row, 0 ≤ x) : pS (Kxd5.step (some w) (.isAtLeastAsGood (row.map Kxd5Neutral.nat))) = ofOut (dsOf w) (dGood (dsOf w) n row) := by
  have ea : atD w (row.map Kxd5Neutral.nat) = (dsOf w).to row := by
    unfold atD
    rw [ints_nat hr]
    rfl
  show pS (some w, if Kxd5.areCounts w (row.map Kxd5Neutral.nat) = false then .value (-22) else .value (if Kxd5.isAtLeastAsGood w w.counts (row.map Kxd5Neutral.nat) then 1 else 0)) =
    ofOut (dsOf w) (if cntOk w.candidates.length row = false then .no (-22) else .ok [if noNeg (lessM (dsOf w).mat ((dsOf w).to row).mat) then 1 else 0] (dsOf w))
  rw [areCounts_eq w hr, law_good h, ea]
  by_cases c : cntOk w.candidates.length row = false
  · rw [if_pos c, if_pos c]; rfl
  · rw [if_neg c, if_neg c]; rfl
theorem st23 (n : Int) (row : List Int) : pS (Kxd5.step (some w) .summary) = ofOut (dsOf w) (dSum (dsOf w) n row) := by
  show ((w.columns : Int) :: [(w.candidates.length : Int), (Kxd5.size w.counts : Int)], some (dsOf w)) = ([(w.columns : Int), (w.candidates.length : Int), (Kxd5.toInts w.counts).sum], some (dsOf w))
  rw [size_sum]
end
end Bd
set_option maxRecDepth 100000
set_option maxHeartbeats 4000000
namespace Bd
/-! # The law: all calls, from the flat list on -/
def specC (k : Cl) : List (List Int) := if (k.i : Int) ∈ withN then [[(k.i : Int), k.n]] else if (k.i : Int) ∈ withL then [[(k.i : Int)], k.row] else [[(k.i : Int)]]
def pN (r : Kxd5.State × List Int) : List Int × Option Ds := (r.2, r.1.map dsOf)
/-- what is known of the numbers of a call -/
structure Cl.Num (k : Cl) : Prop where
  n0 : 0 ≤ k.n
  r0 : k.i = 4 ∨ k.i = 21 ∨ k.i = 22 → ∀ x ∈ k.row, 0 ≤ x
theorem law_call {s : Kxd5.State} (hs : WfO (s.map dsOf)) : ∀ (k : Cl), k.Good → k.Num → pN (Kxd5Neutral.step s (specC k)) = ansF k.i (s.map dsOf) k.n k.row := by
  rintro ⟨i, n, row⟩ g q
  obtain ⟨m, rfl⟩ : ∃ m : Nat, n = m := ⟨n.toNat, (Int.toNat_of_nonneg q.n0).symm⟩
  have lt : i < 24 := g.lt
  have r0 := q.r0
  clear g q
  match i, lt, r0 with
  | 0, _, _ =>
    have e : specC ⟨0, (m : Int), row⟩ = [[0, (m : Int)]] := if_pos (by show (0 : Int) ∈ withN; decide)
    rw [e]
    show pS (if m = 0 ∨ Kxd5.maxColumns < m then (s, .value (-22)) else (some ⟨m, [], []⟩, .value 0)) = if 1 ≤ (m : Int) ∧ (m : Int) ≤ 4 then ([0], some ⟨m, [], []⟩) else ([-22], s.map dsOf)
    by_cases c : m = 0 ∨ Kxd5.maxColumns < m
    · have c' : m = 0 ∨ 4 < m := c
      rw [if_pos c, if_neg (by omega)]
      rfl
    · have c' : ¬ (m = 0 ∨ 4 < m) := c
      rw [if_neg c, if_pos (by omega)]
      rfl
  | 1, _, r0 =>
    have e : specC ⟨1, (m : Int), row⟩ = [[1], row] := (if_neg (by show ¬ (1 : Int) ∈ withN; decide)).trans (if_pos (by show (1 : Int) ∈ withL; decide))
    rw [e]
    cases s with
    | none => rfl
    | some w =>
      have h : Wf (dsOf w) := hs _ rfl
      show pS (Kxd5.step (some w) (.addCandidate row)) = ofOut (dsOf w) (dAdd (dsOf w) m row)
      exact st1 h row m
  | 2, _, r0 =>
    have e : specC ⟨2, (m : Int), row⟩ = [[2, (m : Int)]] := if_pos (by show (2 : Int) ∈ withN; decide)
    rw [e]
    cases s with
    | none => rfl
    | some w =>
      have h : Wf (dsOf w) := hs _ rfl
      show pS (Kxd5.step (some w) (.removeCandidate m)) = ofOut (dsOf w) (dRem (dsOf w) m row)
      exact st2 h row m
  | 3, _, r0 =>
    have e : specC ⟨3, (m : Int), row⟩ = [[3, (m : Int)]] := if_pos (by show (3 : Int) ∈ withN; decide)
    rw [e]
    cases s with
    | none => rfl
    | some w =>
      have h : Wf (dsOf w) := hs _ rfl
      show pS (Kxd5.step (some w) (.getCandidate m)) = ofOut (dsOf w) (dGet (dsOf w) m row)
      exact st3 h row m
  | 4, _, r0 =>
    have e : specC ⟨4, (m : Int), row⟩ = [[4], row] := (if_neg (by show ¬ (4 : Int) ∈ withN; decide)).trans (if_pos (by show (4 : Int) ∈ withL; decide))
    rw [e]
    cases s with
    | none => rfl
    | some w =>
      have h : Wf (dsOf w) := hs _ rfl
      show pS (Kxd5.step (some w) (.setCounts (row.map Kxd5Neutral.nat))) = ofOut (dsOf w) (dSet (dsOf w) m row)
      exact st4 h m (r0 (.inl rfl))
  | 5, _, r0 =>
    have e : specC ⟨5, (m : Int), row⟩ = [[5]] := (if_neg (by show ¬ (5 : Int) ∈ withN; decide)).trans (if_neg (by show ¬ (5 : Int) ∈ withL; decide))
    rw [e]
    cases s with
    | none => rfl
    | some w =>
      have h : Wf (dsOf w) := hs _ rfl
      show pS (Kxd5.step (some w) (.counts)) = ofOut (dsOf w) (dCnt (dsOf w) m row)
      exact st5 h m row
  | 6, _, r0 =>
    have e : specC ⟨6, (m : Int), row⟩ = [[6]] := (if_neg (by show ¬ (6 : Int) ∈ withN; decide)).trans (if_neg (by show ¬ (6 : Int) ∈ withL; decide))
    rw [e]
    cases s with
    | none => rfl
    | some w =>
      have h : Wf (dsOf w) := hs _ rfl
      show pS (Kxd5.step (some w) (.information)) = ofOut (dsOf w) (dInf (dsOf w) m row)
      exact st6 h m row
  | 7, _, r0 =>
    have e : specC ⟨7, (m : Int), row⟩ = [[7]] := (if_neg (by show ¬ (7 : Int) ∈ withN; decide)).trans (if_neg (by show ¬ (7 : Int) ∈ withL; decide))
    rw [e]
    cases s with
    | none => rfl
    | some w =>
      have h : Wf (dsOf w) := hs _ rfl
      show pS (Kxd5.step (some w) (.determinant)) = ofOut (dsOf w) (dDet (dsOf w) m row)
      exact st7 h m row
  | 8, _, r0 =>
    have e : specC ⟨8, (m : Int), row⟩ = [[8]] := (if_neg (by show ¬ (8 : Int) ∈ withN; decide)).trans (if_neg (by show ¬ (8 : Int) ∈ withL; decide))
    rw [e]
    cases s with
    | none => rfl
    | some w =>
      have h : Wf (dsOf w) := hs _ rfl
      show pS (Kxd5.step (some w) (.trace)) = ofOut (dsOf w) (dTr (dsOf w) m row)
      exact st8 h m row
  | 9, _, r0 =>
    have e : specC ⟨9, (m : Int), row⟩ = [[9], row] := (if_neg (by show ¬ (9 : Int) ∈ withN; decide)).trans (if_pos (by show (9 : Int) ∈ withL; decide))
    rw [e]
    cases s with
    | none => rfl
    | some w =>
      have h : Wf (dsOf w) := hs _ rfl
      show pS (Kxd5.step (some w) (.variance row)) = ofOut (dsOf w) (dVar (dsOf w) m row)
      exact st9 h m row
  | 10, _, r0 =>
    have e : specC ⟨10, (m : Int), row⟩ = [[10]] := (if_neg (by show ¬ (10 : Int) ∈ withN; decide)).trans (if_neg (by show ¬ (10 : Int) ∈ withL; decide))
    rw [e]
    cases s with
    | none => rfl
    | some w =>
      have h : Wf (dsOf w) := hs _ rfl
      show pS (Kxd5.step (some w) (.candidateVariances)) = ofOut (dsOf w) (dCV (dsOf w) m row)
      exact st10 h m row
  | 11, _, r0 =>
    have e : specC ⟨11, (m : Int), row⟩ = [[11]] := (if_neg (by show ¬ (11 : Int) ∈ withN; decide)).trans (if_neg (by show ¬ (11 : Int) ∈ withL; decide))
    rw [e]
    cases s with
    | none => rfl
    | some w =>
      have h : Wf (dsOf w) := hs _ rfl
      show pS (Kxd5.step (some w) (.isOptimal)) = ofOut (dsOf w) (dOpt (dsOf w) m row)
      exact st11 h m row
  | 12, _, r0 =>
    have e : specC ⟨12, (m : Int), row⟩ = [[12, (m : Int)]] := if_pos (by show (12 : Int) ∈ withN; decide)
    rw [e]
    cases s with
    | none => rfl
    | some w =>
      have h : Wf (dsOf w) := hs _ rfl
      show pS (Kxd5.step (some w) (.bound m)) = ofOut (dsOf w) (dBnd (dsOf w) m row)
      exact st12 h m row
  | 13, _, r0 =>
    have e : specC ⟨13, (m : Int), row⟩ = [[13]] := (if_neg (by show ¬ (13 : Int) ∈ withN; decide)).trans (if_neg (by show ¬ (13 : Int) ∈ withL; decide))
    rw [e]
    cases s with
    | none => rfl
    | some w =>
      have h : Wf (dsOf w) := hs _ rfl
      show pS (Kxd5.step (some w) (.exchange)) = ofOut (dsOf w) (dExch (dsOf w) m row)
      exact st13 h m row
  | 14, _, r0 =>
    have e : specC ⟨14, (m : Int), row⟩ = [[14, (m : Int)]] := if_pos (by show (14 : Int) ∈ withN; decide)
    rw [e]
    cases s with
    | none => rfl
    | some w =>
      have h : Wf (dsOf w) := hs _ rfl
      show pS (Kxd5.step (some w) (.improve m)) = ofOut (dsOf w) (dImp (dsOf w) m row)
      exact st14 h m row
  | 15, _, r0 =>
    have e : specC ⟨15, (m : Int), row⟩ = [[15]] := (if_neg (by show ¬ (15 : Int) ∈ withN; decide)).trans (if_neg (by show ¬ (15 : Int) ∈ withL; decide))
    rw [e]
    cases s with
    | none => rfl
    | some w =>
      have h : Wf (dsOf w) := hs _ rfl
      show pS (Kxd5.step (some w) (.add)) = ofOut (dsOf w) (dAddR (dsOf w) m row)
      exact st15 h m row
  | 16, _, r0 =>
    have e : specC ⟨16, (m : Int), row⟩ = [[16]] := (if_neg (by show ¬ (16 : Int) ∈ withN; decide)).trans (if_neg (by show ¬ (16 : Int) ∈ withL; decide))
    rw [e]
    cases s with
    | none => rfl
    | some w =>
      have h : Wf (dsOf w) := hs _ rfl
      show pS (Kxd5.step (some w) (.remove)) = ofOut (dsOf w) (dRemR (dsOf w) m row)
      exact st16 h m row
  | 17, _, r0 =>
    have e : specC ⟨17, (m : Int), row⟩ = [[17, (m : Int)]] := if_pos (by show (17 : Int) ∈ withN; decide)
    rw [e]
    cases s with
    | none => rfl
    | some w =>
      have h : Wf (dsOf w) := hs _ rfl
      show pS (Kxd5.step (some w) (.best m)) = ofOut (dsOf w) (dBest (dsOf w) m row)
      exact st17 h m row
  | 18, _, r0 =>
    have e : specC ⟨18, (m : Int), row⟩ = [[18, (m : Int)]] := if_pos (by show (18 : Int) ∈ withN; decide)
    rw [e]
    cases s with
    | none => rfl
    | some w =>
      have h : Wf (dsOf w) := hs _ rfl
      show pS (Kxd5.step (some w) (.bestByTrace m)) = ofOut (dsOf w) (dBT (dsOf w) m row)
      exact st18 h m row
  | 19, _, r0 =>
    have e : specC ⟨19, (m : Int), row⟩ = [[19, (m : Int)]] := if_pos (by show (19 : Int) ∈ withN; decide)
    rw [e]
    cases s with
    | none => rfl
    | some w =>
      have h : Wf (dsOf w) := hs _ rfl
      show pS (Kxd5.step (some w) (.takeBest m)) = ofOut (dsOf w) (dTake (dsOf w) m row)
      exact st19 h m row
  | 20, _, r0 =>
    have e : specC ⟨20, (m : Int), row⟩ = [[20, (m : Int)]] := if_pos (by show (20 : Int) ∈ withN; decide)
    rw [e]
    cases s with
    | none => rfl
    | some w =>
      have h : Wf (dsOf w) := hs _ rfl
      show pS (Kxd5.step (some w) (.weights m)) = ofOut (dsOf w) (dWts (dsOf w) m row)
      exact st20 h m row
  | 21, _, r0 =>
    have e : specC ⟨21, (m : Int), row⟩ = [[21], row] := (if_neg (by show ¬ (21 : Int) ∈ withN; decide)).trans (if_pos (by show (21 : Int) ∈ withL; decide))
    rw [e]
    cases s with
    | none => rfl
    | some w =>
      have h : Wf (dsOf w) := hs _ rfl
      show pS (Kxd5.step (some w) (.compare (row.map Kxd5Neutral.nat))) = ofOut (dsOf w) (dCmp (dsOf w) m row)
      exact st21 h m (r0 (.inr (.inl rfl)))
  | 22, _, r0 =>
    have e : specC ⟨22, (m : Int), row⟩ = [[22], row] := (if_neg (by show ¬ (22 : Int) ∈ withN; decide)).trans (if_pos (by show (22 : Int) ∈ withL; decide))
    rw [e]
    cases s with
    | none => rfl
    | some w =>
      have h : Wf (dsOf w) := hs _ rfl
      show pS (Kxd5.step (some w) (.isAtLeastAsGood (row.map Kxd5Neutral.nat))) = ofOut (dsOf w) (dGood (dsOf w) m row)
      exact st22 h m (r0 (.inr (.inr rfl)))
  | 23, _, r0 =>
    have e : specC ⟨23, (m : Int), row⟩ = [[23]] := (if_neg (by show ¬ (23 : Int) ∈ withN; decide)).trans (if_neg (by show ¬ (23 : Int) ∈ withL; decide))
    rw [e]
    cases s with
    | none => rfl
    | some w =>
      have h : Wf (dsOf w) := hs _ rfl
      show pS (Kxd5.step (some w) (.summary)) = ofOut (dsOf w) (dSum (dsOf w) m row)
      exact st23 h m row
  | k + 24, lt, _ => exact absurd lt (by omega)
theorem law_play : ∀ (cs : List Cl) (s : Kxd5.State), WfO (s.map dsOf) → (∀ k ∈ cs, k.Good ∧ k.Num) → PyFlat.played Kxd5Neutral.step s (cs.map specC) = play (s.map dsOf) cs
  | [], _, _, _ => rfl
  | k :: cs, s, hs, hk => by
    obtain ⟨g, q⟩ := hk k List.mem_cons_self
    have e := law_call hs k g q
    have e1 : (Kxd5Neutral.step s (specC k)).2 = (ansF k.i (s.map dsOf) k.n k.row).1 := congrArg Prod.fst e
    have e2 : (Kxd5Neutral.step s (specC k)).1.map dsOf = (ansF k.i (s.map dsOf) k.n k.row).2 := congrArg Prod.snd e
    show (Kxd5Neutral.step s (specC k)).2 :: PyFlat.played Kxd5Neutral.step (Kxd5Neutral.step s (specC k)).1 (cs.map specC) = (ansF k.i (s.map dsOf) k.n k.row).1 :: play (ansF k.i (s.map dsOf) k.n k.row).2 cs
    rw [law_play cs _ (by rw [e2]; exact ansF_wf hs) fun k' hk' => hk k' (List.mem_cons_of_mem _ hk'), e1, e2]
theorem whole_id (c : List (List Int)) : PyKxd5.whole c = c := by
  unfold PyKxd5.whole
  split <;> rfl
theorem shape_at {p : Int} {n k : Nat} (h : PyKxd5.shape p = some (n, k)) : ∃ i : Nat, i < 24 ∧ p = i ∧ ((p ∈ withN ∧ n = 1 ∧ k = 0) ∨ (¬ p ∈ withN ∧ p ∈ withL ∧ n = 0 ∧ k = 1) ∨ (¬ p ∈ withN ∧ ¬ p ∈ withL ∧ n = 0 ∧ k = 0)) := by
  by_cases hp : 0 ≤ p ∧ p < 24
  · obtain ⟨i, rfl⟩ : ∃ i : Nat, p = i := ⟨p.toNat, by omega⟩
    have lt : i < 24 := by omega
    have key : ∀ i ∈ List.range 24, PyKxd5.shape (i : Int) = if (i : Int) ∈ withN then some (1, 0) else if (i : Int) ∈ withL then some (0, 1) else some (0, 0) := by decide +kernel
    rw [key i (List.mem_range.mpr lt)] at h
    refine ⟨i, lt, rfl, ?_⟩
    by_cases c1 : (i : Int) ∈ withN
    · rw [if_pos c1] at h
      cases h
      exact .inl ⟨c1, rfl, rfl⟩
    · rw [if_neg c1] at h
      by_cases c2 : (i : Int) ∈ withL
      · rw [if_pos c2] at h
        cases h
        exact .inr (.inl ⟨c1, c2, rfl, rfl⟩)
      · rw [if_neg c2] at h
        cases h
        exact .inr (.inr ⟨c1, c2, rfl, rfl⟩)
  · have z : PyKxd5.shape p = none := by
      unfold PyKxd5.shape
      iterate 24 rw [if_neg (by omega)]
    rw [z] at h
    cases h
theorem bound_N : ∀ i ∈ List.range 24, (i : Int) ∈ withN → PyKxd5.bound (i : Int) = ([(0, 4294967295)], []) := by decide +kernel
theorem bound_L (i : Nat) (hi : i ∈ List.range 24) (h : (i : Int) ∈ withL) : PyKxd5.bound (i : Int) = ([], [(0, 4294967295, 0, 40)]) ∨ (PyKxd5.bound (i : Int) = ([], [(-2147483648, 2147483647, 0, 40)]) ∧ ¬ (i = 4 ∨ i = 21 ∨ i = 22)) := by
  have c : i = 1 ∨ i = 4 ∨ i = 9 ∨ i = 21 ∨ i = 22 := by
    unfold withL at h
    simp only [List.mem_cons, List.not_mem_nil, or_false] at h
    omega
  rcases c with rfl | rfl | rfl | rfl | rfl
  · exact .inr ⟨by decide, by decide⟩
  · exact .inl (by decide)
  · exact .inr ⟨by decide, by decide⟩
  · exact .inl (by decide)
  · exact .inl (by decide)
theorem num_L : ∀ i ∈ List.range 24, ¬ (i : Int) ∈ withL → ¬ (i = 4 ∨ i = 21 ∨ i = 22) := by decide +kernel
theorem disj_NL : ∀ x ∈ withN, ¬ x ∈ withL := by decide
/-- one call off the flat list -/
theorem call_at {p : Int} {r : List Int} {c : List (List Int)} {t : List Int} (h : PyFlat.call PyKxd5.shape (p :: r) = some (c, t)) (hb : PyInside.call PyKxd5.bound c = true) :
    ∃ k : Cl, p :: r = k.enc ++ t ∧ c = specC k ∧ k.Good ∧ k.Num := by
  change (match PyKxd5.shape p with
    | none => none
    | some (n, k) => if r.length < n then none else match PyFlat.rows k (r.drop n) with
      | none => none
      | some (xs, t) => some ((p :: r.take n) :: xs, t)) = some (c, t) at h
  cases hs : PyKxd5.shape p with
  | none => rw [hs] at h; cases h
  | some nk =>
    obtain ⟨n, kk⟩ := nk
    rw [hs] at h
    change (if r.length < n then none else match PyFlat.rows kk (r.drop n) with | none => none | some (xs, t) => some ((p :: r.take n) :: xs, t)) = some (c, t) at h
    by_cases hl : r.length < n
    · rw [if_pos hl] at h; cases h
    rw [if_neg hl] at h
    obtain ⟨i, lt, rfl, hc⟩ := shape_at hs
    have mr := List.mem_range.mpr lt
    rcases hc with ⟨c1, rfl, rfl⟩ | ⟨c1, c2, rfl, rfl⟩ | ⟨c1, c2, rfl, rfl⟩
    · cases r with
      | nil => exact absurd (by decide) hl
      | cons x r =>
        have h' : some ([[(i : Int), x]], r) = some (c, t) := h
        cases h'
        have b := bound_N i mr c1
        have hb' : (PyInside.each (PyKxd5.bound (i : Int)).1 [x] && PyInside.lists (PyKxd5.bound (i : Int)).2 []) = true := hb
        rw [b] at hb'
        have hb2 : ((decide (0 ≤ x) && decide (x ≤ 4294967295) && true) && true) = true := hb'
        rw [Bool.and_true, Bool.and_true, Bool.and_eq_true] at hb2
        have x0 := of_decide_eq_true hb2.1
        refine ⟨⟨i, x, []⟩, ?_, ?_, ⟨lt, fun z => absurd c1 z, fun _ => rfl, Nat.zero_le _⟩, ⟨x0, fun _ y hy => by cases hy⟩⟩
        · unfold Cl.enc
          rw [if_pos c1]
          rfl
        · exact (if_pos c1).symm
    · have h1 : (match PyFlat.rows 1 r with | none => none | some (xs, t) => some (([(i : Int)] : List Int) :: xs, t)) = some (c, t) := h
      cases r with
      | nil => cases h1
      | cons x r =>
        have h2 : (match (match (if 0 ≤ x ∧ x.toNat ≤ r.length then some (r.take x.toNat, r.drop x.toNat) else none) with | none => none | some (y, s) => some ([y], s)) with | none => none | some (xs, t) => some (([(i : Int)] : List Int) :: xs, t)) = some (c, t) := h1
        by_cases hx : 0 ≤ x ∧ x.toNat ≤ r.length
        · rw [if_pos hx] at h2
          have h3 : some ([[(i : Int)], r.take x.toNat], r.drop x.toNat) = some (c, t) := h2
          cases h3
          have hb' : (PyInside.each (PyKxd5.bound (i : Int)).1 [] && PyInside.lists (PyKxd5.bound (i : Int)).2 [r.take x.toNat]) = true := hb
          have lenr : (r.take x.toNat).length = x.toNat := by rw [List.length_take]; omega
          have xe : x = ((r.take x.toNat).length : Int) := by rw [lenr]; omega
          have good : ∀ (lo hi : Int), PyKxd5.bound (i : Int) = ([], [(lo, hi, 0, 40)]) → (r.take x.toNat).length ≤ 40 ∧ ∀ y ∈ r.take x.toNat, lo ≤ y := fun lo hi b => by
            rw [b] at hb'
            have hb2 : (true && (decide (0 ≤ (r.take x.toNat).length) && decide ((r.take x.toNat).length ≤ 40) && (r.take x.toNat).all (PyInside.within lo hi) && true)) = true := hb'
            rw [Bool.true_and, Bool.and_true, Bool.and_eq_true, Bool.and_eq_true] at hb2
            refine ⟨of_decide_eq_true hb2.1.2, fun y hy => ?_⟩
            have := List.all_eq_true.mp hb2.2 y hy
            unfold PyInside.within at this
            rw [Bool.and_eq_true] at this
            exact of_decide_eq_true this.1
          have both : (r.take x.toNat).length ≤ 100 ∧ (i = 4 ∨ i = 21 ∨ i = 22 → ∀ y ∈ r.take x.toNat, 0 ≤ y) := by
            rcases bound_L i mr c2 with b | ⟨b, nb⟩
            · obtain ⟨g1, g2⟩ := good _ _ b
              exact ⟨by omega, fun _ => g2⟩
            · obtain ⟨g1, _⟩ := good _ _ b
              exact ⟨by omega, fun z => absurd z nb⟩
          refine ⟨⟨i, 0, r.take x.toNat⟩, ?_, ?_, ⟨lt, fun _ => rfl, fun z => absurd c2 z, both.1⟩, ⟨Int.le_refl 0, both.2⟩⟩
          · unfold Cl.enc
            rw [if_neg c1, if_pos c2]
            show (i : Int) :: x :: r = (i : Int) :: ((r.take x.toNat).length : Int) :: (r.take x.toNat ++ r.drop x.toNat)
            rw [List.take_append_drop, ← xe]
          · exact ((if_neg c1).trans (if_pos c2)).symm
        · rw [if_neg hx] at h2
          cases h2
    · have h' : some ([[(i : Int)]], r) = some (c, t) := h
      cases h'
      refine ⟨⟨i, 0, []⟩, ?_, ?_, ⟨lt, fun _ => rfl, fun _ => rfl, Nat.zero_le _⟩, ⟨Int.le_refl 0, fun _ y hy => by cases hy⟩⟩
      · unfold Cl.enc
        rw [if_neg c1, if_neg c2]
        rfl
      · exact ((if_neg c1).trans (if_neg c2)).symm
theorem calls_at : ∀ (f : Nat) (l : List Int) (raw : List (List (List Int))), PyFlat.calls PyKxd5.shape f l = some raw → PyInside.calls PyKxd5.bound raw = true → ∃ cs : List Cl, l = encs cs ∧ raw = cs.map specC ∧ ∀ k ∈ cs, k.Good ∧ k.Num
  | f, [], raw, h, _ => by
    have h' : some ([] : List (List (List Int))) = some raw := by cases f <;> exact h
    cases h'
    exact ⟨[], rfl, rfl, fun k hk => by cases hk⟩
  | 0, _ :: _, _, h, _ => by cases h
  | f + 1, p :: r, raw, h, hb => by
    have h1 : (match PyFlat.call PyKxd5.shape (p :: r) with | none => none | some (c, t) => match PyFlat.calls PyKxd5.shape f t with | none => none | some cs => some (c :: cs)) = some raw := h
    cases e1 : PyFlat.call PyKxd5.shape (p :: r) with
    | none => rw [e1] at h1; cases h1
    | some ct =>
      obtain ⟨c, t⟩ := ct
      rw [e1] at h1
      have h2 : (match PyFlat.calls PyKxd5.shape f t with | none => none | some cs => some (c :: cs)) = some raw := h1
      cases e2 : PyFlat.calls PyKxd5.shape f t with
      | none => rw [e2] at h2; cases h2
      | some raw' =>
        rw [e2] at h2
        have h3 : some (c :: raw') = some raw := h2
        cases h3
        have hb' : (PyInside.call PyKxd5.bound c && raw'.all (PyInside.call PyKxd5.bound)) = true := hb
        rw [Bool.and_eq_true] at hb'
        obtain ⟨k, k1, k2, k3, k4⟩ := call_at e1 hb'.1
        obtain ⟨cs, s1, s2, s3⟩ := calls_at f t raw' e2 hb'.2
        refine ⟨k :: cs, ?_, by rw [List.map_cons, ← k2, s2], fun k' hk' => ?_⟩
        · rw [k1, s1]
          rfl
        · rcases List.mem_cons.mp hk' with rfl | hk'
          · exact ⟨k3, k4⟩
          · exact s3 k' hk'
/-- what is asked of the flat list is enough -/
theorem law_all {l : List Int} (h : PyKxd5.answers_asked l = true) : ∃ cs : List Cl, l = encs cs ∧ (∀ c ∈ cs, c.Good) ∧ (PyFlat.told (play none cs)).length ≤ 10000000 ∧ PyKxd5.answers l = PyFlat.told (play none cs) := by
  unfold PyKxd5.answers_asked at h
  cases e : PyFlat.calls PyKxd5.shape l.length l with
  | none => rw [e] at h; cases h
  | some raw =>
    rw [e] at h
    have h' : (!raw.isEmpty && PyFlat.atMost 200 raw && PyInside.calls PyKxd5.bound raw && Kxd5Neutral.asked (raw.map PyKxd5.whole) && PyFlat.short 10000000 (PyKxd5.answers l)) = true := h
    rw [Bool.and_eq_true, Bool.and_eq_true, Bool.and_eq_true] at h'
    obtain ⟨⟨⟨_, hb⟩, _⟩, hsh⟩ := h'
    obtain ⟨cs, c1, c2, c3⟩ := calls_at _ l raw e hb
    have ea : PyKxd5.answers l = PyFlat.told (play none cs) := by
      unfold PyKxd5.answers PyKxd5.calls
      rw [e]
      show PyFlat.told (PyFlat.played Kxd5Neutral.step Kxd5Neutral.start (raw.map PyKxd5.whole)) = _
      have ew : raw.map PyKxd5.whole = raw := by
        have : raw.map PyKxd5.whole = raw.map id := List.map_congr_left fun c _ => whole_id c
        rw [this, List.map_id]
      rw [ew, c2, law_play cs Kxd5Neutral.start (fun d hd => by cases hd) c3]
      rfl
    refine ⟨cs, c1, fun c hc => (c3 c hc).1, ?_, ea⟩
    rw [← ea]
    exact of_decide_eq_true hsh
end Bd
set_option maxRecDepth 100000
set_option maxHeartbeats 4000000
namespace Bd
open PySem PySem.Spec PyProof.Rows L2
/-- the request, and what is due -/
theorem s_case (K : PySem.W.Frag) (H : Hp) (xs : List V) (a : PySem.W.Codec.denoteAll PySem.Challenge.rw_bestdesigns_s01_answers.args) (hO : L2.OnlyF H) (hwi : PySem.W.Codec.withinAll PySem.Challenge.rw_bestdesigns_s01_answers.args a = true)
    (hask : PySem.W.Codec.app PySem.Challenge.rw_bestdesigns_s01_answers.args PySem.Challenge.rw_bestdesigns_s01_answers.asked a = true) (hx : L2.DwAll K H xs (PySem.W.Codec.encAll PySem.Challenge.rw_bestdesigns_s01_answers.args a)) :
    spAnswers K xs H (fun v H' => L2.Dw K H' v (PySem.Challenge.rw_bestdesigns_s01_answers.ret.enc (PySem.W.Codec.app PySem.Challenge.rw_bestdesigns_s01_answers.args PySem.Challenge.rw_bestdesigns_s01_answers.f a))) fun _ _ _ => False := by
  cases hx with
  | cons h1 h2 =>
    cases h2
    cases h1 with
    | lst hs ha =>
      have e := L2.ints_dw a.1 _ ha
      subst e
      have q : PyKxd5.answers_asked a.1 = true := hask
      obtain ⟨cs, c1, c2, c3, c4⟩ := law_all q
      refine ⟨_, cs, rfl, by rw [← c1]; exact hs, c2, c3, fun H' p _ hp => ?_⟩
      show L2.Dw K H' _ (PySem.Challenge.rw_bestdesigns_s01_answers.ret.enc (PyKxd5.answers a.1))
      rw [c4]
      exact .lst (L2.SqL.of hp) (L2.dw_ints _)
end Bd
open PySem PySem.W PyProof.Rows
set_option maxRecDepth 100000 in
set_option maxHeartbeats 8000000 in
theorem PySem.Challenge.cw_bestdesigns_s01_answers_holds : PySem.Challenge.rw_bestdesigns_s01_answers.Holds := by
  w_on; k_headS; (case hw => exact ⟨[.list [.int 0, .int 1]], by decide +kernel, by decide +kernel⟩)
  k_fillS
  refine L2.walk_specK (r := PySem.Challenge.rw_bestdesigns_s01_answers) (k := 18) (CX := L2.CX0) (ps := ["calls"]) (sp := Bd.spAnswers) (by decide +kernel) rfl rfl ⟨rfl, by decide, by decide⟩ (fun w h Y => PySem.W.kIn_of Y) ?F ?S (fun _ _ _ _ z => z)
  case F =>
    intro w mg fa h Y KX G hmg
    refine' Bd.all_mk KX G hmg ?aD ?aE ?aR ?aN ?aL ?pgD ?hdD ?poD ?saD ?mkD ?kcD ?pgE ?hdE ?poE ?saE ?mkE ?kcE ?dc ?dr ?dn ?ed ?rc ?xR ?saR ?gaR ?ggR ?hdR ?kR ?bR ?tR ?iR ?xN ?kN ?bN ?tN ?iN ?xL ?kL ?bL ?tL ?iL ?sRR ?sNR ?sNN ?sLR ?sLN ?sLL ?vV ?n_len ?n_abs ?n_sum ?n_all ?n_int ?n_list ?n_range ?n_zip ?n_enumerate ?n_ValueError ?i_MOST_COUNT ?i_MOST_LISTS ?i_NO_DESIGN ?i_NO_CANDIDATE ?i_THERE_ALREADY ?i_OUT_OF_RANGE ?i_TOO_MANY ?i_NOT_THERE ?i_CREATE ?i_MOST_COLUMNS ?i_MOST_ENTRY ?i_MOST_CANDIDATES ?i_MOST_SIZE ?i_MOST_BOUND ?i_MOST_LIMIT ?i_MOST_STEPS ?g_NOUGHT ?r_NOUGHT ?g_WITH_NUMBER ?r_WITH_NUMBER ?g_WITH_LIST ?r_WITH_LIST ?g_DEEDS ?r_DEEDS ?a_common ?l_common ?c_common ?k_common ?a_ratio ?l_ratio ?c_ratio ?k_ratio ?a_plus ?l_plus ?c_plus ?k_plus ?a_times ?l_times ?c_times ?k_times ?a_is_less ?l_is_less ?c_is_less ?k_is_less ?a_moved ?l_moved ?c_moved ?k_moved ?a_nothing ?l_nothing ?c_nothing ?k_nothing ?a_information ?l_information ?c_information ?k_information ?a_less ?l_less ?c_less ?k_less ?a_without ?l_without ?c_without ?k_without ?a_determinant ?l_determinant ?c_determinant ?k_determinant ?a_cofactor ?l_cofactor ?c_cofactor ?k_cofactor ?a_cofactors ?l_cofactors ?c_cofactors ?k_cofactors ?a_weighed ?l_weighed ?c_weighed ?k_weighed ?a_variance ?l_variance ?c_variance ?k_variance ?a_trace ?l_trace ?c_trace ?k_trace ?a_chosen ?l_chosen ?c_chosen ?k_chosen ?a_all_places ?l_all_places ?c_all_places ?k_all_places ?a_has_no_negative_minor ?l_has_no_negative_minor ?c_has_no_negative_minor ?k_has_no_negative_minor ?a_Design_init ?y_Design_init ?l_Design_init ?c_Design_init ?k_Design_init ?a_Design_size ?y_Design_size ?l_Design_size ?c_Design_size ?k_Design_size ?a_Design_with_counts ?y_Design_with_counts ?l_Design_with_counts ?c_Design_with_counts ?k_Design_with_counts ?a_Design_matrix ?y_Design_matrix ?l_Design_matrix ?c_Design_matrix ?k_Design_matrix ?a_Design_worth ?y_Design_worth ?l_Design_worth ?c_Design_worth ?k_Design_worth ?a_Design_regular_matrix ?y_Design_regular_matrix ?l_Design_regular_matrix ?c_Design_regular_matrix ?k_Design_regular_matrix ?a_Design_own_trace ?y_Design_own_trace ?l_Design_own_trace ?c_Design_own_trace ?k_Design_own_trace ?a_Design_variances ?y_Design_variances ?l_Design_variances ?c_Design_variances ?k_Design_variances ?a_Design_worst ?y_Design_worst ?l_Design_worst ?c_Design_worst ?k_Design_worst ?a_power ?l_power ?c_power ?k_power ?a_Design_bound ?y_Design_bound ?l_Design_bound ?c_Design_bound ?k_Design_bound ?a_stepped ?l_stepped ?c_stepped ?k_stepped ?a_exchanged ?l_exchanged ?c_exchanged ?k_exchanged ?a_best_exchange ?l_best_exchange ?c_best_exchange ?k_best_exchange ?a_best_step ?l_best_step ?c_best_step ?k_best_step ?a_lists_of ?l_lists_of ?c_lists_of ?k_lists_of ?a_all_counts ?l_all_counts ?c_all_counts ?k_all_counts ?a_regular_designs ?l_regular_designs ?c_regular_designs ?k_regular_designs ?a_best_design ?l_best_design ?c_best_design ?k_best_design ?a_best_by_trace ?l_best_by_trace ?c_best_by_trace ?k_best_by_trace ?a_shared_below ?l_shared_below ?c_shared_below ?k_shared_below ?a_stepped_on ?l_stepped_on ?c_stepped_on ?k_stepped_on ?a_weights_behind ?l_weights_behind ?c_weights_behind ?k_weights_behind ?a_Refused_init ?l_Refused_init ?c_Refused_init ?k_Refused_init ?a_need ?l_need ?c_need ?k_need ?a_need_range ?l_need_range ?c_need_range ?k_need_range ?a_told ?l_told ?c_told ?k_told ?a_sign_of ?l_sign_of ?c_sign_of ?k_sign_of ?a_Desk_init ?y_Desk_init ?l_Desk_init ?c_Desk_init ?k_Desk_init ?a_Desk_need_row ?y_Desk_need_row ?l_Desk_need_row ?c_Desk_need_row ?k_Desk_need_row ?a_Desk_need_counts ?y_Desk_need_counts ?l_Desk_need_counts ?c_Desk_need_counts ?k_Desk_need_counts ?a_Desk_need_candidate ?y_Desk_need_candidate ?l_Desk_need_candidate ?c_Desk_need_candidate ?k_Desk_need_candidate ?a_create ?l_create ?c_create ?k_create ?a_add_candidate ?l_add_candidate ?c_add_candidate ?k_add_candidate ?a_remove_candidate ?l_remove_candidate ?c_remove_candidate ?k_remove_candidate ?a_get_candidate ?l_get_candidate ?c_get_candidate ?k_get_candidate ?a_set_counts ?l_set_counts ?c_set_counts ?k_set_counts ?a_ask_counts ?l_ask_counts ?c_ask_counts ?k_ask_counts ?a_ask_determinant ?l_ask_determinant ?c_ask_determinant ?k_ask_determinant ?a_summary ?l_summary ?c_summary ?k_summary ?a_ask_information ?l_ask_information ?c_ask_information ?k_ask_information ?a_ask_trace ?l_ask_trace ?c_ask_trace ?k_ask_trace ?a_ask_variance ?l_ask_variance ?c_ask_variance ?k_ask_variance ?a_candidate_variances ?l_candidate_variances ?c_candidate_variances ?k_candidate_variances ?a_ask_bound ?l_ask_bound ?c_ask_bound ?k_ask_bound ?a_exchange ?l_exchange ?c_exchange ?k_exchange ?a_improve ?l_improve ?c_improve ?k_improve ?a_is_optimal ?l_is_optimal ?c_is_optimal ?k_is_optimal ?a_take_step ?l_take_step ?c_take_step ?k_take_step ?a_add ?l_add ?c_add ?k_add ?a_remove ?l_remove ?c_remove ?k_remove ?a_best ?l_best ?c_best ?k_best ?a_take_best ?l_take_best ?c_take_best ?k_take_best ?a_ask_best_by_trace ?l_ask_best_by_trace ?c_ask_best_by_trace ?k_ask_best_by_trace ?a_ask_weights ?l_ask_weights ?c_ask_weights ?k_ask_weights ?a_compare ?l_compare ?c_compare ?k_compare ?a_is_at_least_as_good ?l_is_at_least_as_good ?c_is_at_least_as_good ?k_is_at_least_as_good ?a_answer ?l_answer ?c_answer ?k_answer ?a_answers ?l_answers ?c_answers ?k_answers ?tRi
    (case aD => k_is)
    (case aE => k_is)
    (case aR => k_is)
    (case aN => k_is)
    (case aL => k_is)
    (case pgD => k_is)
    (case hdD => k_is)
    (case poD => k_is)
    (case saD => k_is)
    (case mkD => k_is)
    (case kcD => k_is)
    (case pgE => k_is)
    (case hdE => k_is)
    (case poE => k_is)
    (case saE => k_is)
    (case mkE => k_is)
    (case kcE => k_is)
    (case dc => k_is)
    (case dr => k_is)
    (case dn => k_is)
    (case ed => k_is)
    (case rc => k_is)
    (case xR => k_is)
    (case saR => k_is)
    (case gaR => k_is)
    (case ggR => k_is)
    (case hdR => k_is)
    (case kR => k_is)
    (case bR => k_is)
    (case tR => k_is)
    (case iR => k_is)
    (case xN => k_exc)
    (case kN => k_is)
    (case bN => k_is)
    (case tN => k_is)
    (case iN => k_is)
    (case xL => k_exc)
    (case kL => k_is)
    (case bL => k_is)
    (case tL => k_is)
    (case iL => k_is)
    (case sRR => first | rfl | k_is)
    (case sNR => k_is)
    (case sNN => first | rfl | k_is)
    (case sLR => k_is)
    (case sLN => k_is)
    (case sLL => first | rfl | k_is)
    (case vV => k_is)
    (case n_len => k_is)
    (case n_abs => k_is)
    (case n_sum => k_is)
    (case n_all => k_is)
    (case n_int => k_is)
    (case n_list => k_is)
    (case n_range => k_is)
    (case n_zip => k_is)
    (case n_enumerate => k_is)
    (case n_ValueError => k_is)
    (case i_MOST_COUNT => k_is)
    (case i_MOST_LISTS => k_is)
    (case i_NO_DESIGN => k_is)
    (case i_NO_CANDIDATE => k_is)
    (case i_THERE_ALREADY => k_is)
    (case i_OUT_OF_RANGE => k_is)
    (case i_TOO_MANY => k_is)
    (case i_NOT_THERE => k_is)
    (case i_CREATE => k_is)
    (case i_MOST_COLUMNS => k_is)
    (case i_MOST_ENTRY => k_is)
    (case i_MOST_CANDIDATES => k_is)
    (case i_MOST_SIZE => k_is)
    (case i_MOST_BOUND => k_is)
    (case i_MOST_LIMIT => k_is)
    (case i_MOST_STEPS => k_is)
    (case g_NOUGHT => k_is)
    (case r_NOUGHT => k_is)
    (case g_WITH_NUMBER => k_is)
    (case r_WITH_NUMBER => k_is)
    (case g_WITH_LIST => k_is)
    (case r_WITH_LIST => k_is)
    (case g_DEEDS => k_is)
    (case r_DEEDS => k_is)
    (case a_common => k_is)
    (case l_common => k_is)
    (case c_common => k_is)
    (case k_common => k_is)
    (case a_ratio => k_is)
    (case l_ratio => k_is)
    (case c_ratio => k_is)
    (case k_ratio => k_is)
    (case a_plus => k_is)
    (case l_plus => k_is)
    (case c_plus => k_is)
    (case k_plus => k_is)
    (case a_times => k_is)
    (case l_times => k_is)
    (case c_times => k_is)
    (case k_times => k_is)
    (case a_is_less => k_is)
    (case l_is_less => k_is)
    (case c_is_less => k_is)
    (case k_is_less => k_is)
    (case a_moved => k_is)
    (case l_moved => k_is)
    (case c_moved => k_is)
    (case k_moved => k_is)
    (case a_nothing => k_is)
    (case l_nothing => k_is)
    (case c_nothing => k_is)
    (case k_nothing => k_is)
    (case a_information => k_is)
    (case l_information => k_is)
    (case c_information => k_is)
    (case k_information => k_is)
    (case a_less => k_is)
    (case l_less => k_is)
    (case c_less => k_is)
    (case k_less => k_is)
    (case a_without => k_is)
    (case l_without => k_is)
    (case c_without => k_is)
    (case k_without => k_is)
    (case a_determinant => k_is)
    (case l_determinant => k_is)
    (case c_determinant => k_is)
    (case k_determinant => k_is)
    (case a_cofactor => k_is)
    (case l_cofactor => k_is)
    (case c_cofactor => k_is)
    (case k_cofactor => k_is)
    (case a_cofactors => k_is)
    (case l_cofactors => k_is)
    (case c_cofactors => k_is)
    (case k_cofactors => k_is)
    (case a_weighed => k_is)
    (case l_weighed => k_is)
    (case c_weighed => k_is)
    (case k_weighed => k_is)
    (case a_variance => k_is)
    (case l_variance => k_is)
    (case c_variance => k_is)
    (case k_variance => k_is)
    (case a_trace => k_is)
    (case l_trace => k_is)
    (case c_trace => k_is)
    (case k_trace => k_is)
    (case a_chosen => k_is)
    (case l_chosen => k_is)
    (case c_chosen => k_is)
    (case k_chosen => k_is)
    (case a_all_places => k_is)
    (case l_all_places => k_is)
    (case c_all_places => k_is)
    (case k_all_places => k_is)
    (case a_has_no_negative_minor => k_is)
    (case l_has_no_negative_minor => k_is)
    (case c_has_no_negative_minor => k_is)
    (case k_has_no_negative_minor => k_is)
    (case a_Design_init => k_is)
    (case y_Design_init => k_is)
    (case l_Design_init => k_is)
    (case c_Design_init => k_is)
    (case k_Design_init => k_is)
    (case a_Design_size => k_is)
    (case y_Design_size => k_is)
    (case l_Design_size => k_is)
    (case c_Design_size => k_is)
    (case k_Design_size => k_is)
    (case a_Design_with_counts => k_is)
    (case y_Design_with_counts => k_is)
    (case l_Design_with_counts => k_is)
    (case c_Design_with_counts => k_is)
    (case k_Design_with_counts => k_is)
    (case a_Design_matrix => k_is)
    (case y_Design_matrix => k_is)
    (case l_Design_matrix => k_is)
    (case c_Design_matrix => k_is)
    (case k_Design_matrix => k_is)
    (case a_Design_worth => k_is)
    (case y_Design_worth => k_is)
    (case l_Design_worth => k_is)
    (case c_Design_worth => k_is)
    (case k_Design_worth => k_is)
    (case a_Design_regular_matrix => k_is)
    (case y_Design_regular_matrix => k_is)
    (case l_Design_regular_matrix => k_is)
    (case c_Design_regular_matrix => k_is)
    (case k_Design_regular_matrix => k_is)
    (case a_Design_own_trace => k_is)
    (case y_Design_own_trace => k_is)
    (case l_Design_own_trace => k_is)
    (case c_Design_own_trace => k_is)
    (case k_Design_own_trace => k_is)
    (case a_Design_variances => k_is)
    (case y_Design_variances => k_is)
    (case l_Design_variances => k_is)
    (case c_Design_variances => k_is)
    (case k_Design_variances => k_is)
    (case a_Design_worst => k_is)
    (case y_Design_worst => k_is)
    (case l_Design_worst => k_is)
    (case c_Design_worst => k_is)
    (case k_Design_worst => k_is)
    (case a_power => k_is)
    (case l_power => k_is)
    (case c_power => k_is)
    (case k_power => k_is)
    (case a_Design_bound => k_is)
    (case y_Design_bound => k_is)
    (case l_Design_bound => k_is)
    (case c_Design_bound => k_is)
    (case k_Design_bound => k_is)
    (case a_stepped => k_is)
    (case l_stepped => k_is)
    (case c_stepped => k_is)
    (case k_stepped => k_is)
    (case a_exchanged => k_is)
    (case l_exchanged => k_is)
    (case c_exchanged => k_is)
    (case k_exchanged => k_is)
    (case a_best_exchange => k_is)
    (case l_best_exchange => k_is)
    (case c_best_exchange => k_is)
    (case k_best_exchange => k_is)
    (case a_best_step => k_is)
    (case l_best_step => k_is)
    (case c_best_step => k_is)
    (case k_best_step => k_is)
    (case a_lists_of => k_is)
    (case l_lists_of => k_is)
    (case c_lists_of => k_is)
    (case k_lists_of => k_is)
    (case a_all_counts => k_is)
    (case l_all_counts => k_is)
    (case c_all_counts => k_is)
    (case k_all_counts => k_is)
    (case a_regular_designs => k_is)
    (case l_regular_designs => k_is)
    (case c_regular_designs => k_is)
    (case k_regular_designs => k_is)
    (case a_best_design => k_is)
    (case l_best_design => k_is)
    (case c_best_design => k_is)
    (case k_best_design => k_is)
    (case a_best_by_trace => k_is)
    (case l_best_by_trace => k_is)
    (case c_best_by_trace => k_is)
    (case k_best_by_trace => k_is)
    (case a_shared_below => k_is)
    (case l_shared_below => k_is)
    (case c_shared_below => k_is)
    (case k_shared_below => k_is)
    (case a_stepped_on => k_is)
    (case l_stepped_on => k_is)
    (case c_stepped_on => k_is)
    (case k_stepped_on => k_is)
    (case a_weights_behind => k_is)
    (case l_weights_behind => k_is)
    (case c_weights_behind => k_is)
    (case k_weights_behind => k_is)
    (case a_Refused_init => k_is)
    (case l_Refused_init => k_is)
    (case c_Refused_init => k_is)
    (case k_Refused_init => k_is)
    (case a_need => k_is)
    (case l_need => k_is)
    (case c_need => k_is)
    (case k_need => k_is)
    (case a_need_range => k_is)
    (case l_need_range => k_is)
    (case c_need_range => k_is)
    (case k_need_range => k_is)
    (case a_told => k_is)
    (case l_told => k_is)
    (case c_told => k_is)
    (case k_told => k_is)
    (case a_sign_of => k_is)
    (case l_sign_of => k_is)
    (case c_sign_of => k_is)
    (case k_sign_of => k_is)
    (case a_Desk_init => k_is)
    (case y_Desk_init => k_is)
    (case l_Desk_init => k_is)
    (case c_Desk_init => k_is)
    (case k_Desk_init => k_is)
    (case a_Desk_need_row => k_is)
    (case y_Desk_need_row => k_is)
    (case l_Desk_need_row => k_is)
    (case c_Desk_need_row => k_is)
    (case k_Desk_need_row => k_is)
    (case a_Desk_need_counts => k_is)
    (case y_Desk_need_counts => k_is)
    (case l_Desk_need_counts => k_is)
    (case c_Desk_need_counts => k_is)
    (case k_Desk_need_counts => k_is)
    (case a_Desk_need_candidate => k_is)
    (case y_Desk_need_candidate => k_is)
    (case l_Desk_need_candidate => k_is)
    (case c_Desk_need_candidate => k_is)
    (case k_Desk_need_candidate => k_is)
    (case a_create => k_is)
    (case l_create => k_is)
    (case c_create => k_is)
    (case k_create => k_is)
    (case a_add_candidate => k_is)
    (case l_add_candidate => k_is)
    (case c_add_candidate => k_is)
    (case k_add_candidate => k_is)
    (case a_remove_candidate => k_is)
    (case l_remove_candidate => k_is)
    (case c_remove_candidate => k_is)
    (case k_remove_candidate => k_is)
    (case a_get_candidate => k_is)
    (case l_get_candidate => k_is)
    (case c_get_candidate => k_is)
    (case k_get_candidate => k_is)
    (case a_set_counts => k_is)
    (case l_set_counts => k_is)
    (case c_set_counts => k_is)
    (case k_set_counts => k_is)
    (case a_ask_counts => k_is)
    (case l_ask_counts => k_is)
    (case c_ask_counts => k_is)
    (case k_ask_counts => k_is)
    (case a_ask_determinant => k_is)
    (case l_ask_determinant => k_is)
    (case c_ask_determinant => k_is)
    (case k_ask_determinant => k_is)
    (case a_summary => k_is)
    (case l_summary => k_is)
    (case c_summary => k_is)
    (case k_summary => k_is)
    (case a_ask_information => k_is)
    (case l_ask_information => k_is)
    (case c_ask_information => k_is)
    (case k_ask_information => k_is)
    (case a_ask_trace => k_is)
    (case l_ask_trace => k_is)
    (case c_ask_trace => k_is)
    (case k_ask_trace => k_is)
    (case a_ask_variance => k_is)
    (case l_ask_variance => k_is)
    (case c_ask_variance => k_is)
    (case k_ask_variance => k_is)
    (case a_candidate_variances => k_is)
    (case l_candidate_variances => k_is)
    (case c_candidate_variances => k_is)
    (case k_candidate_variances => k_is)
    (case a_ask_bound => k_is)
    (case l_ask_bound => k_is)
    (case c_ask_bound => k_is)
    (case k_ask_bound => k_is)
    (case a_exchange => k_is)
    (case l_exchange => k_is)
    (case c_exchange => k_is)
    (case k_exchange => k_is)
    (case a_improve => k_is)
    (case l_improve => k_is)
    (case c_improve => k_is)
    (case k_improve => k_is)
    (case a_is_optimal => k_is)
    (case l_is_optimal => k_is)
    (case c_is_optimal => k_is)
    (case k_is_optimal => k_is)
    (case a_take_step => k_is)
    (case l_take_step => k_is)
    (case c_take_step => k_is)
    (case k_take_step => k_is)
    (case a_add => k_is)
    (case l_add => k_is)
    (case c_add => k_is)
    (case k_add => k_is)
    (case a_remove => k_is)
    (case l_remove => k_is)
    (case c_remove => k_is)
    (case k_remove => k_is)
    (case a_best => k_is)
    (case l_best => k_is)
    (case c_best => k_is)
    (case k_best => k_is)
    (case a_take_best => k_is)
    (case l_take_best => k_is)
    (case c_take_best => k_is)
    (case k_take_best => k_is)
    (case a_ask_best_by_trace => k_is)
    (case l_ask_best_by_trace => k_is)
    (case c_ask_best_by_trace => k_is)
    (case k_ask_best_by_trace => k_is)
    (case a_ask_weights => k_is)
    (case l_ask_weights => k_is)
    (case c_ask_weights => k_is)
    (case k_ask_weights => k_is)
    (case a_compare => k_is)
    (case l_compare => k_is)
    (case c_compare => k_is)
    (case k_compare => k_is)
    (case a_is_at_least_as_good => k_is)
    (case l_is_at_least_as_good => k_is)
    (case c_is_at_least_as_good => k_is)
    (case k_is_at_least_as_good => k_is)
    (case a_answer => k_is)
    (case l_answer => k_is)
    (case c_answer => k_is)
    (case k_answer => k_is)
    (case a_answers => k_is)
    (case l_answers => k_is)
    (case c_answers => k_is)
    (case k_answers => k_is)
    (case tRi => k_is)
  case S =>
    intro K H xs a hO hwi hask hx
    exact Bd.s_case K H xs a hO hwi hask hx
