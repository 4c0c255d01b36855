/- Floats that are not below nought: their words are ordered as whole numbers. (and what goes with it: 8 parts.) -/
import Derived.Test.YthopjahoaljhaaaMa
/-! ## Floats that are not below nought: their words are ordered as whole numbers. -/
set_option linter.unusedVariables false
set_option linter.unusedSimpArgs false
namespace Go.Proofs.Ythopjahoaljhaaa.X
open Go

/-- What a word below infinity stands for, in units of the least place. -/
def val (x : Nat) : Nat := if x < 4503599627370496 then x else (4503599627370496 + x % 4503599627370496) * 2 ^ (x / 4503599627370496 - 1)
theorem val_lt_succ (x : Nat) : val x < val (x + 1) := by
  unfold val
  by_cases h1 : x + 1 < 4503599627370496
  · rw [if_pos (by omega), if_pos h1]; omega
  · by_cases h2 : x < 4503599627370496
    · have hx : x = 4503599627370495 := by omega
      subst hx; decide
    · rw [if_neg h2, if_neg h1]
      by_cases h3 : x % 4503599627370496 = 4503599627370495
      · have e1 : (x + 1) % 4503599627370496 = 0 := by omega
        have e2 : (x + 1) / 4503599627370496 = x / 4503599627370496 + 1 := by omega
        have e3 : x / 4503599627370496 + 1 - 1 = (x / 4503599627370496 - 1) + 1 := by omega
        rw [h3, e1, e2, e3, Nat.pow_succ]
        have hp : 0 < 2 ^ (x / 4503599627370496 - 1) := Nat.two_pow_pos _
        generalize 2 ^ (x / 4503599627370496 - 1) = P at *
        omega
      · have e1 : (x + 1) % 4503599627370496 = x % 4503599627370496 + 1 := by omega
        have e2 : (x + 1) / 4503599627370496 = x / 4503599627370496 := by omega
        rw [e1, e2]
        have hp : 0 < 2 ^ (x / 4503599627370496 - 1) := Nat.two_pow_pos _
        exact Nat.mul_lt_mul_of_pos_right (by omega) hp
theorem val_lt {x y : Nat} (h : x < y) : val x < val y := by
  induction y with
  | zero => omega
  | succ y ih =>
    by_cases e : x = y
    · subst e; exact val_lt_succ x
    · exact Nat.lt_trans (ih (by omega)) (val_lt_succ y)
theorem val_lt_iff {x y : Nat} : val x < val y ↔ x < y := by
  constructor
  · intro h
    by_cases h1 : x < y
    · exact h1
    · by_cases h2 : x = y
      · subst h2; omega
      · have := val_lt (show y < x by omega); omega
  · exact val_lt
/-- A word of a number that is not below nought, read. -/
theorem read_pos {x : Nat} (h : x < 9218868437227405312) : ∃ m p : Nat, F64.read x = .number false m (F64.leastPlace + (p : Int)) ∧ m * 2 ^ p = val x := by
  have e1 : x % 9223372036854775808 = x := by omega
  have e2 : (x / 9223372036854775808 % 2 == 1) = false := by
    have : x / 9223372036854775808 = 0 := by omega
    rw [this]; rfl
  have hr : F64.read x = (if x < 4503599627370496 then Ieee.Datum.number false x F64.leastPlace else .number false (4503599627370496 + x % 4503599627370496) (F64.leastPlace + (x / 4503599627370496 - 1 : Nat))) := by
    unfold Ieee.Format.read
    simp only [F64_infRung, F64_binade, F64_signWeight, e1, e2, if_pos h]
  rw [hr]
  unfold val
  split
  · exact ⟨x, 0, by simp, by simp⟩
  · exact ⟨_, _, rfl, rfl⟩
theorem signed_pos (m k : Nat) : Ieee.signed false m k = ((m * 2 ^ k : Nat) : Int) := by
  simp [Ieee.signed, Nat.shiftLeft_eq]
theorem order_pos {x y : Nat} (hx : x < 9218868437227405312) (hy : y < 9218868437227405312) : F64.order x y = some (compare x y) := by
  obtain ⟨m, p, e1, v1⟩ := read_pos hx
  obtain ⟨n, q, e2, v2⟩ := read_pos hy
  unfold Ieee.Format.order
  rw [e1, e2]
  simp only [Ieee.Datum.order, signed_pos]
  have key : ∀ a b : Nat, (compare ((m * 2 ^ a : Nat) : Int) ((n * 2 ^ b : Nat) : Int)) = compare (m * 2 ^ a) (n * 2 ^ b) := by
    intro a b
    simp only [compare, compareOfLessAndEq, Int.ofNat_lt, Int.natCast_inj]
  rw [key]
  have hc : ∃ c a b, p = c + a ∧ q = c + b ∧ (F64.leastPlace + (p : Int) - min (F64.leastPlace + (p : Int)) (F64.leastPlace + (q : Int))).toNat = a ∧ (F64.leastPlace + (q : Int) - min (F64.leastPlace + (p : Int)) (F64.leastPlace + (q : Int))).toNat = b :=
    ⟨min p q, p - min p q, q - min p q, by omega, by omega, by omega, by omega⟩
  obtain ⟨c, a, b, rfl, rfl, ha, hb⟩ := hc
  rw [ha, hb]
  have w1 : val x = 2 ^ c * (m * 2 ^ a) := by rw [← v1, Nat.pow_add]; ac_rfl
  have w2 : val y = 2 ^ c * (n * 2 ^ b) := by rw [← v2, Nat.pow_add]; ac_rfl
  have hp : 0 < 2 ^ c := Nat.two_pow_pos _
  have h1 : m * 2 ^ a < n * 2 ^ b ↔ x < y := by rw [← val_lt_iff (x := x) (y := y), w1, w2]; exact (Nat.mul_lt_mul_left hp).symm
  have h2 : n * 2 ^ b < m * 2 ^ a ↔ y < x := by rw [← val_lt_iff (x := y) (y := x), w1, w2]; exact (Nat.mul_lt_mul_left hp).symm
  congr 1
  by_cases h : x < y
  · rw [Nat.compare_eq_lt.2 h, Nat.compare_eq_lt.2 (h1.2 h)]
  · by_cases h' : y < x
    · rw [Nat.compare_eq_gt.2 h', Nat.compare_eq_gt.2 (h2.2 h')]
    · have e : x = y := by omega
      have e' : m * 2 ^ a = n * 2 ^ b := by omega
      rw [Nat.compare_eq_eq.2 e, Nat.compare_eq_eq.2 e']
end Go.Proofs.Ythopjahoaljhaaa.X

/-! ## Rounding of rational numbers to words of floats: the rung next to a number, and that the operations' results are those rungs. -/
set_option linter.unusedVariables false
set_option linter.unusedSimpArgs false
namespace Go.Proofs.Ythopjahoaljhaaa.X
open Go

/-! ### Values of rungs -/
theorem val_form (e K : Nat) (h : (e = 0 ∧ K ≤ 9007199254740992) ∨ (4503599627370496 ≤ K ∧ K ≤ 9007199254740992)) : val (e * 4503599627370496 + K) = K * 2 ^ e := by
  unfold val
  by_cases h1 : e * 4503599627370496 + K < 4503599627370496
  · rw [if_pos h1]
    have : e = 0 := by omega
    subst this; simp
  · rw [if_neg h1]
    by_cases h2 : K = 9007199254740992
    · have e1 : (e * 4503599627370496 + K) % 4503599627370496 = 0 := by omega
      have e2 : (e * 4503599627370496 + K) / 4503599627370496 - 1 = e + 1 := by omega
      rw [e1, e2, h2, Nat.pow_succ]; omega
    · have e1 : (e * 4503599627370496 + K) % 4503599627370496 = K - 4503599627370496 := by omega
      have e2 : (e * 4503599627370496 + K) / 4503599627370496 - 1 = e := by omega
      rw [e1, e2, show 4503599627370496 + (K - 4503599627370496) = K by omega]
theorem val_small {r : Nat} (h : r ≤ 9007199254740992) : val r = r := by
  have := val_form 0 r (.inl ⟨rfl, h⟩)
  simpa using this
/-- Every rung from the least normal one on has the form. -/
theorem rung_form (r : Nat) : ∃ e K, r = e * 4503599627370496 + K ∧ ((e = 0 ∧ K < 9007199254740992) ∨ (4503599627370496 ≤ K ∧ K < 9007199254740992)) := by
  by_cases h : r < 4503599627370496
  · exact ⟨0, r, by omega, .inl ⟨rfl, by omega⟩⟩
  · exact ⟨r / 4503599627370496 - 1, 4503599627370496 + r % 4503599627370496, by omega, .inr ⟨by omega, by omega⟩⟩
theorem val_le {x y : Nat} : val x ≤ val y ↔ x ≤ y := by
  have := val_lt_iff (x := y) (y := x)
  omega
theorem val_inj {x y : Nat} (h : val x = val y) : x = y := by
  have h1 := val_lt_iff (x := y) (y := x)
  have h2 := val_lt_iff (x := x) (y := y)
  omega
theorem le_val (r : Nat) : r ≤ val r := by
  induction r with
  | zero => omega
  | succ r ih => have := val_lt_succ r; omega

/-! ### The rung next to a number (in units of the least place) -/
def IsR (Q : Rat) (r : Nat) : Prop :=
  (∀ s, r = s + 1 → ((val s : Rat) + val r < 2 * Q ∨ ((val s : Rat) + val r = 2 * Q ∧ r % 2 = 0))) ∧
  (2 * Q < (val r : Rat) + val (r + 1) ∨ (2 * Q = (val r : Rat) + val (r + 1) ∧ r % 2 = 0))

theorem valR_le {x y : Nat} (h : x ≤ y) : (val x : Rat) ≤ val y := by exact_mod_cast val_le.2 h
theorem valR_lt {x y : Nat} (h : x < y) : (val x : Rat) < val y := by exact_mod_cast val_lt h
theorem valR_nonneg (x : Nat) : (0 : Rat) ≤ val x := Rat.natCast_nonneg

theorem isR_mono {Q Q' : Rat} {r r' : Nat} (h : IsR Q r) (h' : IsR Q' r') (hq : Q ≤ Q') : r ≤ r' := by
  apply Classical.byContradiction
  intro hn
  obtain ⟨s, rfl⟩ : ∃ s, r = s + 1 := ⟨r - 1, by omega⟩
  have h1 := h.1 s rfl
  have h2 := h'.2
  have h3 := valR_le (show r' ≤ s by omega)
  have h4 := valR_le (show r' + 1 ≤ s + 1 by omega)
  rcases h1 with h1 | ⟨h1, p1⟩
  · rcases h2 with h2 | ⟨h2, p2⟩ <;> grind
  · rcases h2 with h2 | ⟨h2, p2⟩
    · grind
    · have : r' = s := by
        apply Classical.byContradiction
        intro hne
        have := valR_lt (show r' < s by omega)
        grind
      omega
theorem isR_uniq {Q : Rat} {r r' : Nat} (h : IsR Q r) (h' : IsR Q r') : r = r' :=
  Nat.le_antisymm (isR_mono h h' Rat.le_refl) (isR_mono h' h Rat.le_refl)
theorem isR_val (r : Nat) : IsR (val r) r := by
  refine ⟨fun s hs => .inl ?_, .inl ?_⟩
  · have := valR_lt (show s < r by omega); grind
  · have := valR_lt (show r < r + 1 by omega); grind
theorem isR_ex {Q : Rat} (h : 0 ≤ Q) : ∃ r, IsR Q r := by
  -- the greatest rung whose value is not above Q
  have hb : ∃ n : Nat, Q < (n : Rat) := by
    refine ⟨(Q.floor + 1).toNat, ?_⟩
    have h1 := Rat.lt_floor_add_one Q
    have h2 : 0 ≤ Q.floor := by rw [Rat.le_floor_iff]; simpa using h
    have h3 : (((Q.floor + 1).toNat : Int) : Rat) = ((Q.floor + 1 : Int) : Rat) := by rw [Int.toNat_of_nonneg (by omega)]
    rw [← h3] at h1
    rw [Rat.intCast_natCast] at h1
    exact h1
  obtain ⟨n, hn⟩ := hb
  have key : ∀ n : Nat, Q < (val n : Rat) → ∃ r, (val r : Rat) ≤ Q ∧ Q < (val (r + 1) : Rat) := by
    intro n
    induction n with
    | zero => intro hq; have : (val 0 : Rat) = 0 := by simp [val]
              grind
    | succ n ih =>
      intro hq
      by_cases hc : Q < (val n : Rat)
      · exact ih hc
      · exact ⟨n, by grind, hq⟩
  have hq : Q < (val n : Rat) := by
    have : (n : Rat) ≤ val n := by exact_mod_cast le_val n
    grind
  obtain ⟨r, h1, h2⟩ := key n hq
  by_cases hc : 2 * Q < (val r : Rat) + val (r + 1) ∨ (2 * Q = (val r : Rat) + val (r + 1) ∧ r % 2 = 0)
  · refine ⟨r, fun s hs => .inl ?_, hc⟩
    have := valR_lt (show s < r by omega); grind
  · refine ⟨r + 1, fun s hs => ?_, .inl ?_⟩
    · have : s = r := by omega
      subst this
      by_cases he : (val s : Rat) + val (s + 1) = 2 * Q
      · refine .inr ⟨he, ?_⟩
        apply Classical.byContradiction
        intro hp
        exact hc (.inr ⟨he.symm, by omega⟩)
      · refine .inl ?_
        have : ¬ 2 * Q < (val s : Rat) + val (s + 1) := fun h => hc (.inl h)
        grind
    · have := valR_lt (show r + 1 < r + 1 + 1 by omega); grind

/-! ### What the cut gives -/
theorem cut_spec (neg : Bool) (n d : Nat) :
    (2 * (Ieee.Toward.even.cut neg n d) * 2 ^ d < 2 * n + 2 ^ d ∨ (2 * (Ieee.Toward.even.cut neg n d) * 2 ^ d = 2 * n + 2 ^ d ∧ (Ieee.Toward.even.cut neg n d) % 2 = 0)) ∧
    (2 * n < 2 * (Ieee.Toward.even.cut neg n d) * 2 ^ d + 2 ^ d ∨ (2 * n = 2 * (Ieee.Toward.even.cut neg n d) * 2 ^ d + 2 ^ d ∧ (Ieee.Toward.even.cut neg n d) % 2 = 0)) := by
  have hlog : n < 2 ^ (n.log2 + 1) := Nat.lt_log2_self
  by_cases hd : d ≤ n.log2 + 2
  · have e : Ieee.Toward.even.cut neg n d = n / 2 ^ d + (decide (2 ^ d < 2 * (n % 2 ^ d)) || (2 ^ d == 2 * (n % 2 ^ d) && n / 2 ^ d % 2 == 1)).toNat := by
      unfold Ieee.Toward.cut
      rw [Nat.min_eq_left hd, Nat.one_shiftLeft]
    rw [e]
    have hg : 0 < 2 ^ d := Nat.two_pow_pos d
    generalize 2 ^ d = g at *
    have hr := Nat.mod_lt n hg
    have hdm := Nat.div_add_mod n g
    generalize n / g = low at *
    generalize n % g = rest at *
    have hc : g * low = low * g := Nat.mul_comm _ _
    by_cases h1 : g < 2 * rest
    · simp only [h1, decide_true, Bool.true_or, Bool.toNat_true]
      have : 2 * (low + 1) * g = 2 * (low * g) + 2 * g := by rw [Nat.mul_assoc, Nat.add_mul]; omega
      omega
    · by_cases h2 : g = 2 * rest ∧ low % 2 = 1
      · have : (decide (g < 2 * rest) || (g == 2 * rest && low % 2 == 1)) = true := by simp [h2.1, h2.2]
        rw [this]
        have : 2 * (low + 1) * g = 2 * (low * g) + 2 * g := by rw [Nat.mul_assoc, Nat.add_mul]; omega
        simp only [Bool.toNat_true]
        omega
      · have : (decide (g < 2 * rest) || (g == 2 * rest && low % 2 == 1)) = false := by
          simp only [Bool.or_eq_false_iff, decide_eq_false_iff_not, Bool.and_eq_false_iff, beq_eq_false_iff_ne]
          omega
        rw [this]
        have : 2 * (low + 0) * g = 2 * (low * g) := by rw [Nat.mul_assoc]; simp
        simp only [Bool.toNat_false]
        omega
  · have hp : 2 ^ (n.log2 + 2) ≤ 2 ^ d := Nat.pow_le_pow_right (by omega) (by omega)
    have h2 : 2 ^ (n.log2 + 2) = 2 * 2 ^ (n.log2 + 1) := by rw [Nat.pow_succ]; omega
    have e : Ieee.Toward.even.cut neg n d = 0 := by
      unfold Ieee.Toward.cut
      rw [Nat.min_eq_right (by omega), Nat.one_shiftLeft]
      simp only []
      have h3 : n < 2 ^ (n.log2 + 2) := by omega
      rw [Nat.div_eq_of_lt h3, Nat.mod_eq_of_lt h3]
      have : (decide (2 ^ (n.log2 + 2) < 2 * n) || (2 ^ (n.log2 + 2) == 2 * n && 0 % 2 == 1)) = false := by
        simp only [Bool.or_eq_false_iff, decide_eq_false_iff_not, Bool.and_eq_false_iff, beq_eq_false_iff_ne]
        omega
      simp only [this, Bool.toNat_false]
    rw [e]
    omega

theorem two_ne : (2 : Rat) ≠ 0 := by decide
theorem two_pow_pos (n : Nat) : (0 : Rat) < 2 ^ n := Rat.pow_pos (by decide)
theorem two_zpow_pos (n : Int) : (0 : Rat) < 2 ^ n := Rat.zpow_pos (by decide)
theorem castPow (n : Nat) : ((2 ^ n : Nat) : Rat) = 2 ^ n := by push_cast; rfl
theorem zpow_nat (n : Nat) : (2 : Rat) ^ (n : Int) = 2 ^ n := Rat.zpow_natCast 2 n

/-- The word next to a number is that of its rung. -/
theorem nearest_spec (neg : Bool) (mag : Nat) (place : Int) (hm : mag ≠ 0) :
    ∃ r, F64.nearest neg mag place = F64.word neg (min r F64.infRung) ∧ IsR ((mag : Rat) * 2 ^ (place + 1074)) r := by
  have e0 : F64.nearest neg mag place = F64.word neg (min ((max (place + mag.log2 - 52) (-1074) - (-1074)).toNat * 4503599627370496 + Ieee.Toward.even.cut neg (mag <<< (place - (max (place + mag.log2 - 52) (-1074))).toNat) ((max (place + mag.log2 - 52) (-1074)) - place).toNat) F64.infRung) := by
    unfold Ieee.Format.nearest
    rw [if_neg hm]
    rfl
  rw [e0]
  refine ⟨_, rfl, ?_⟩
  have hL1 : mag < 2 ^ (mag.log2 + 1) := Nat.lt_log2_self
  have hL2 : 2 ^ mag.log2 ≤ mag := Nat.log2_self_le hm
  generalize mag.log2 = L at *
  obtain ⟨e, he⟩ : ∃ e : Nat, max (place + L - 52) (-1074) = (e : Int) - 1074 := ⟨(max (place + L - 52) (-1074) + 1074).toNat, by omega⟩
  rw [he]
  have hecase : e = 0 ∨ place + (L : Int) - 52 = (e : Int) - 1074 := by omega
  have hle : place + (L : Int) - 52 ≤ (e : Int) - 1074 := by omega
  have ee : ((e : Int) - 1074 - (-1074)).toNat = e := by omega
  rw [ee]
  obtain ⟨a, ha⟩ : ∃ a, (place - ((e : Int) - 1074)).toNat = a := ⟨_, rfl⟩
  obtain ⟨d, hd⟩ : ∃ d, ((e : Int) - 1074 - place).toNat = d := ⟨_, rfl⟩
  rw [ha, hd]
  have had : (place + 1074) + (d : Int) = (a : Int) + (e : Int) := by omega
  rw [Nat.shiftLeft_eq]
  -- Q * g = N * E
  have hQ : (mag : Rat) * 2 ^ (place + 1074) * 2 ^ d = ((mag * 2 ^ a : Nat) : Rat) * 2 ^ e := by
    have h1 : (2 : Rat) ^ (place + 1074) * 2 ^ d = 2 ^ a * 2 ^ e := by
      rw [← zpow_nat d, ← zpow_nat a, ← zpow_nat e, ← Rat.zpow_add two_ne, ← Rat.zpow_add two_ne, had]
    rw [Rat.mul_assoc, h1, Rat.natCast_mul, castPow, Rat.mul_assoc]
  generalize hQe : (mag : Rat) * 2 ^ (place + 1074) = Q at *
  have hNu : mag * 2 ^ a < 9007199254740992 * 2 ^ d := by
    have h1 : mag * 2 ^ a < 2 ^ (L + 1) * 2 ^ a := Nat.mul_lt_mul_of_pos_right hL1 (Nat.two_pow_pos a)
    have h2 : 2 ^ (L + 1) * 2 ^ a = 2 ^ (L + 1 + a) := (Nat.pow_add 2 (L + 1) a).symm
    have h3 : 2 ^ (L + 1 + a) ≤ 2 ^ (53 + d) := Nat.pow_le_pow_right (by omega) (by omega)
    have h4 : 2 ^ (53 + d) = 9007199254740992 * 2 ^ d := Nat.pow_add 2 53 d
    omega
  have hNl : e ≠ 0 → 4503599627370496 * 2 ^ d ≤ mag * 2 ^ a := by
    intro hne
    have h1 : 2 ^ L * 2 ^ a ≤ mag * 2 ^ a := Nat.mul_le_mul_right _ hL2
    have h2 : 2 ^ L * 2 ^ a = 2 ^ (L + a) := (Nat.pow_add 2 L a).symm
    have h3 : 2 ^ (52 + d) ≤ 2 ^ (L + a) := Nat.pow_le_pow_right (by omega) (by omega)
    have h4 : 2 ^ (52 + d) = 4503599627370496 * 2 ^ d := Nat.pow_add 2 52 d
    omega
  obtain ⟨c1, c2⟩ := cut_spec neg (mag * 2 ^ a) d
  generalize Ieee.Toward.even.cut neg (mag * 2 ^ a) d = K at *
  generalize mag * 2 ^ a = N at *
  have hg : 0 < 2 ^ d := Nat.two_pow_pos d
  have hgR := two_pow_pos d
  rw [← castPow d] at hgR hQ
  generalize 2 ^ d = g at *
  have hKu : K ≤ 9007199254740992 := by
    apply Classical.byContradiction
    intro hn
    have h1 : 9007199254740993 * g ≤ K * g := Nat.mul_le_mul_right _ (by omega)
    have h2 : 2 * K * g = 2 * (K * g) := Nat.mul_assoc _ _ _
    omega
  have hKl : e ≠ 0 → 4503599627370496 ≤ K := by
    intro hne
    apply Classical.byContradiction
    intro hn
    have h1 : K * g ≤ 4503599627370495 * g := Nat.mul_le_mul_right _ (by omega)
    have h2 : 2 * K * g = 2 * (K * g) := Nat.mul_assoc _ _ _
    have := hNl hne
    omega
  have hE := two_pow_pos e
  have hvr : (val (e * 4503599627370496 + K) : Rat) = (K : Rat) * 2 ^ e := by
    rw [val_form e K (by omega), Rat.natCast_mul, castPow]
  -- comparisons
  have lt_of : ∀ A : Rat, A * g < 2 * N * 2 ^ e → A < 2 * Q := by
    intro A h
    refine Rat.lt_of_mul_lt_mul_right (c := g) ?_ (by grind)
    have : 2 * Q * g = 2 * N * 2 ^ e := by rw [Rat.mul_assoc, hQ, Rat.mul_assoc]
    rw [this]; exact h
  have gt_of : ∀ A : Rat, 2 * N * 2 ^ e < A * g → 2 * Q < A := by
    intro A h
    refine Rat.lt_of_mul_lt_mul_right (c := g) ?_ (by grind)
    have : 2 * Q * g = 2 * N * 2 ^ e := by rw [Rat.mul_assoc, hQ, Rat.mul_assoc]
    rw [this]; exact h
  have eq_of : ∀ A : Rat, A * g = 2 * N * 2 ^ e → A = 2 * Q := by
    intro A h
    have h2 : 2 * Q * g = 2 * N * 2 ^ e := by rw [Rat.mul_assoc, hQ, Rat.mul_assoc]
    refine Rat.le_antisymm ?_ ?_
    · exact Rat.le_of_mul_le_mul_right (c := g) (by rw [h, h2]; exact Rat.le_refl) hgR
    · exact Rat.le_of_mul_le_mul_right (c := g) (by rw [h, h2]; exact Rat.le_refl) hgR
  constructor
  · intro s hs
    by_cases hk : e = 0 ∨ 4503599627370496 < K
    · have hK1 : ∃ k, K = k + 1 := ⟨K - 1, by omega⟩
      obtain ⟨k, rfl⟩ := hK1
      have hs' : s = e * 4503599627370496 + k := by omega
      have hvs : (val s : Rat) = (k : Rat) * 2 ^ e := by
        rw [hs', val_form e k (by omega), Rat.natCast_mul, castPow]
      rw [hvr, hvs]
      rcases c1 with c1 | ⟨c1, p⟩
      · left
        apply lt_of
        have c : ((2 * (k + 1) * g : Nat) : Rat) < ((2 * N + g : Nat) : Rat) := by exact_mod_cast c1
        push_cast at c ⊢
        have h2 := Rat.mul_lt_mul_of_pos_right c hE
        grind
      · right
        refine ⟨eq_of _ ?_, by omega⟩
        have c : ((2 * (k + 1) * g : Nat) : Rat) = ((2 * N + g : Nat) : Rat) := by exact_mod_cast c1
        push_cast at c ⊢
        grind
    · left
      have hne : e ≠ 0 := by omega
      have hK : K = 4503599627370496 := by have := hKl hne; omega
      have hv1 : (val s : Rat) < val (e * 4503599627370496 + K) := valR_lt (by omega)
      have hN := hNl hne
      have c : ((4503599627370496 * g : Nat) : Rat) ≤ (N : Rat) := by exact_mod_cast hN
      apply lt_of
      have h3 : ((val s : Rat) + val (e * 4503599627370496 + K)) * g < 2 * ((K : Rat) * 2 ^ e) * g :=
        Rat.mul_lt_mul_of_pos_right (by grind) hgR
      subst hK
      push_cast at c h3 ⊢
      have h2 := Rat.mul_le_mul_of_nonneg_right c (Rat.le_of_lt hE)
      grind
  · by_cases hk : K < 9007199254740992
    · have hv2 : (val (e * 4503599627370496 + K + 1) : Rat) = ((K : Rat) + 1) * 2 ^ e := by
        rw [show e * 4503599627370496 + K + 1 = e * 4503599627370496 + (K + 1) by omega, val_form e (K + 1) (by omega), Rat.natCast_mul, castPow]; push_cast; rfl
      rw [hvr, hv2]
      rcases c2 with c2 | ⟨c2, p⟩
      · left
        apply gt_of
        have c : ((2 * N : Nat) : Rat) < ((2 * K * g + g : Nat) : Rat) := by exact_mod_cast c2
        push_cast at c ⊢
        have h2 := Rat.mul_lt_mul_of_pos_right c hE
        grind
      · right
        refine ⟨(eq_of _ ?_).symm, by omega⟩
        have c : ((2 * N : Nat) : Rat) = ((2 * K * g + g : Nat) : Rat) := by exact_mod_cast c2
        push_cast at c ⊢
        grind
    · left
      have hK : K = 9007199254740992 := by omega
      subst hK
      have hv2 : (val (e * 4503599627370496 + 9007199254740992 + 1) : Rat) = 4503599627370497 * (2 ^ e * 2) := by
        rw [show e * 4503599627370496 + 9007199254740992 + 1 = (e + 1) * 4503599627370496 + 4503599627370497 by omega, val_form (e + 1) 4503599627370497 (by omega), Rat.natCast_mul, castPow, Rat.pow_succ]; rfl
      rw [hvr, hv2]
      apply gt_of
      have c : ((2 * N : Nat) : Rat) < ((2 * 9007199254740992 * g + 2 * g : Nat) : Rat) := by
        have : 2 * N < 2 * 9007199254740992 * g + 2 * g := by omega
        exact_mod_cast this
      push_cast at c ⊢
      have h2 := Rat.mul_lt_mul_of_pos_right c hE
      grind
end Go.Proofs.Ythopjahoaljhaaa.X

/-! ## Words of floats as rational numbers, and the operations as rounded ones. -/
set_option linter.unusedVariables false
set_option linter.unusedSimpArgs false
namespace Go.Proofs.Ythopjahoaljhaaa.X
open Go
noncomputable section

abbrev infR : Nat := 9218868437227405312
def u : Rat := (2 : Rat) ^ (-1074 : Int)
def iu : Rat := (2 : Rat) ^ (1074 : Int)
theorem u_pos : 0 < u := two_zpow_pos _
theorem iu_pos : 0 < iu := two_zpow_pos _
theorem u_iu : u * iu = 1 := by unfold u iu; rw [← Rat.zpow_add two_ne]; rfl
theorem iu_u : iu * u = 1 := by rw [Rat.mul_comm]; exact u_iu
/-- Magnitude and sign of a word. -/
def rg (x : Nat) : Nat := x % 9223372036854775808
def sg (x : Nat) : Bool := x / 9223372036854775808 % 2 == 1
def fin (x : Nat) : Prop := rg x < infR
instance (x : Nat) : Decidable (fin x) := inferInstanceAs (Decidable (_ < _))
/-- What a word stands for. -/
def V (x : Nat) : Rat := if sg x then -((val (rg x) : Rat) * u) else (val (rg x) : Rat) * u

theorem read_fin {x : Nat} (h : fin x) : ∃ m p : Nat, F64.read x = .number (sg x) m (-1074 + (p : Int)) ∧ m * 2 ^ p = val (rg x) := by
  have h' : x % 9223372036854775808 < 9218868437227405312 := h
  have hr : F64.read x = (if rg x < 4503599627370496 then Ieee.Datum.number (sg x) (rg x) F64.leastPlace else .number (sg x) (4503599627370496 + rg x % 4503599627370496) (F64.leastPlace + (rg x / 4503599627370496 - 1 : Nat))) := by
    unfold Ieee.Format.read rg sg
    simp only [F64_infRung, F64_binade, F64_signWeight]
    rw [if_pos h']
  have hl : F64.leastPlace = -1074 := by decide
  rw [hr, hl]
  unfold val
  split
  · exact ⟨rg x, 0, by simp, by simp⟩
  · exact ⟨_, _, rfl, rfl⟩
theorem isN_fin {x : Nat} (h : fin x) : isN x = false := by
  obtain ⟨m, p, e, _⟩ := read_fin h
  unfold isN; rw [e]; rfl
theorem isN_iff (x : Nat) : isN x = decide (infR < rg x) := by
  unfold isN Ieee.Format.read
  simp only [F64_infRung, F64_binade, F64_signWeight]
  unfold infR rg
  split
  · have : ¬ 9218868437227405312 < x % 9223372036854775808 := by omega
    simp [this, Ieee.Datum.isNaN]
  · split
    · have : ¬ 9218868437227405312 < x % 9223372036854775808 := by omega
      simp [this, Ieee.Datum.isNaN]
    · split
      · have : ¬ 9218868437227405312 < x % 9223372036854775808 := by omega
        simp [this, Ieee.Datum.isNaN]
      · have : 9218868437227405312 < x % 9223372036854775808 := by omega
        simp [this, Ieee.Datum.isNaN]

theorem rg_word (neg : Bool) {r : Nat} (h : r ≤ infR) : rg (F64.word neg r) = r := by
  unfold rg Ieee.Format.word
  rw [F64_signWeight]
  unfold infR at h
  split <;> omega
theorem sg_word (neg : Bool) {r : Nat} (h : r ≤ infR) : sg (F64.word neg r) = neg := by
  unfold sg Ieee.Format.word
  rw [F64_signWeight]
  unfold infR at h
  cases neg
  · simp only [Bool.false_eq_true, if_false]
    rw [show r / 9223372036854775808 = 0 by omega]; rfl
  · simp only [if_true]
    rw [show (9223372036854775808 + r) / 9223372036854775808 = 1 by omega]; rfl
theorem V_word (neg : Bool) {r : Nat} (h : r ≤ infR) : V (F64.word neg r) = if neg then -((val r : Rat) * u) else (val r : Rat) * u := by
  unfold V
  rw [rg_word neg h, sg_word neg h]
theorem rg_lt (x : Nat) : rg x < 9223372036854775808 := Nat.mod_lt _ (by decide)
theorem word_eta {x : Nat} (h : x < 2 ^ 64) : F64.word (sg x) (rg x) = x := by
  unfold sg rg Ieee.Format.word
  rw [F64_signWeight]
  by_cases hx : x / 9223372036854775808 % 2 = 1
  · rw [show (x / 9223372036854775808 % 2 == 1) = true by simp [hx]]; simp only [if_true]; omega
  · rw [show (x / 9223372036854775808 % 2 == 1) = false by simp [hx]]; simp only [Bool.false_eq_true, if_false]; omega

/-! ### The rounded number -/
def rr (Q : Rat) : Nat := if h : 0 ≤ Q then Classical.choose (isR_ex h) else 0
theorem rr_spec {Q : Rat} (h : 0 ≤ Q) : IsR Q (rr Q) := by
  unfold rr; rw [dif_pos h]; exact Classical.choose_spec (isR_ex h)
theorem rr_eq {Q : Rat} (h0 : 0 ≤ Q) {r : Nat} (h : IsR Q r) : rr Q = r := isR_uniq (rr_spec h0) h
/-- A number rounded to a float's (those too great: to what stands for infinity). -/
def rs (q : Rat) : Rat := if q < 0 then -((val (min (rr (-q * iu)) infR) : Rat) * u) else (val (min (rr (q * iu)) infR) : Rat) * u

theorem rs_neg (q : Rat) : rs (-q) = -(rs q) := by
  unfold rs
  by_cases h : q < 0
  · rw [if_pos h, if_neg (by grind)]; grind
  · by_cases h0 : q = 0
    · subst h0
      have e : (-(0 : Rat)) = 0 := by grind
      have hz : rr (0 * iu) = 0 := by
        have : (0 : Rat) * iu = (val 0 : Nat) := by simp [val]
        rw [this]; exact rr_eq (by simp [val]) (isR_val 0)
      rw [e, if_neg (by grind), hz]
      simp [val]
    · rw [if_neg h, if_pos (by grind), Rat.neg_neg]
theorem rs_pos {A : Rat} (hA : 0 ≤ A) {r : Nat} (h : IsR A r) : rs (A * u) = (val (min r infR) : Rat) * u := by
  unfold rs
  have h1 : 0 ≤ A * u := Rat.mul_nonneg hA (Rat.le_of_lt u_pos)
  rw [if_neg (by grind), Rat.mul_assoc, u_iu, Rat.mul_one, rr_eq hA h]
theorem rs_zero : rs 0 = 0 := by
  have := rs_pos (A := 0) (by decide) (r := 0) (by have := isR_val 0; simpa [val] using this)
  simpa [val] using this
theorem zpow_u (p : Int) : (2 : Rat) ^ p = 2 ^ (p + 1074) * u := by
  unfold u; rw [← Rat.zpow_add two_ne]; congr 1; omega
theorem V_nearest (neg : Bool) (mag : Nat) (place : Int) : V (F64.nearest neg mag place) = rs (if neg then -((mag : Rat) * 2 ^ place) else (mag : Rat) * 2 ^ place) := by
  by_cases hm : mag = 0
  · subst hm
    have : F64.nearest neg 0 place = F64.word neg 0 := by unfold Ieee.Format.nearest; simp
    rw [this, V_word neg (by decide)]
    have h0 : rs ((0 : Nat) * (2 : Rat) ^ place) = 0 := by simp [rs_zero]
    cases neg
    · simp only [Bool.false_eq_true, if_false, h0]; simp [val]
    · simp only [if_true]; rw [rs_neg, h0]; simp [val]
  · obtain ⟨r, e, h⟩ := nearest_spec neg mag place hm
    rw [e, V_word neg (by rw [F64_infRung]; exact Nat.min_le_right _ _), F64_infRung]
    have hA : 0 ≤ (mag : Rat) * 2 ^ (place + 1074) := Rat.mul_nonneg Rat.natCast_nonneg (Rat.le_of_lt (two_zpow_pos _))
    have := rs_pos hA h
    rw [Rat.mul_assoc, ← zpow_u] at this
    cases neg
    · simp only [Bool.false_eq_true, if_false]; rw [this]
    · simp only [if_true]; rw [rs_neg, this]
/-- What is written lies below or at infinity. -/
theorem nearest_word (neg : Bool) (mag : Nat) (place : Int) : ∃ r, r ≤ infR ∧ F64.nearest neg mag place = F64.word neg r := by
  unfold Ieee.Format.nearest
  split
  · exact ⟨0, by decide, rfl⟩
  · exact ⟨_, Nat.le_trans (Nat.min_le_right _ _) (by rw [F64_infRung]; exact Nat.le_refl _), rfl⟩

theorem V_number {x : Nat} {s : Bool} {m p : Nat} (hs : sg x = s) (hm : m * 2 ^ p = val (rg x)) : V x = if s then -((m : Rat) * 2 ^ (-1074 + (p : Int))) else (m : Rat) * 2 ^ (-1074 + (p : Int)) := by
  unfold V
  rw [hs, ← hm]
  have : (((m * 2 ^ p : Nat) : Rat)) * u = (m : Rat) * 2 ^ (-1074 + (p : Int)) := by
    rw [Rat.natCast_mul, castPow, zpow_u, show (-1074 + (p : Int) + 1074) = (p : Int) by omega, zpow_nat, Rat.mul_assoc]
  rw [this]

theorem signed_rat (s : Bool) (m k : Nat) : ((Ieee.signed s m k : Int) : Rat) = if s then -((m : Rat) * 2 ^ k) else (m : Rat) * 2 ^ k := by
  unfold Ieee.signed
  cases s <;> simp [Nat.shiftLeft_eq, Rat.intCast_natCast]
theorem natAbs_rat (t : Int) : (if t < 0 then -((t.natAbs : Nat) : Rat) else ((t.natAbs : Nat) : Rat)) = (t : Rat) := by
  split
  · have : ((t.natAbs : Nat) : Int) = -t := by omega
    have h2 : (((t.natAbs : Nat) : Int) : Rat) = ((-t : Int) : Rat) := by rw [this]
    rw [Rat.intCast_natCast, Rat.intCast_neg] at h2
    rw [h2]; grind
  · have : ((t.natAbs : Nat) : Int) = t := by omega
    have h2 : (((t.natAbs : Nat) : Int) : Rat) = (t : Rat) := by rw [this]
    rw [Rat.intCast_natCast] at h2
    exact h2

/-! ### Sums, differences, products -/
theorem sum_spec {s t : Bool} {m n p q : Nat} : ∃ z, Ieee.Datum.sum (.number s m (-1074 + (p : Int))) (.number t n (-1074 + (q : Int))) = some z ∧
    V (F64.write z) = rs ((if s then -((m : Rat) * 2 ^ (-1074 + (p : Int))) else (m : Rat) * 2 ^ (-1074 + (p : Int))) + (if t then -((n : Rat) * 2 ^ (-1074 + (q : Int))) else (n : Rat) * 2 ^ (-1074 + (q : Int)))) ∧
    (∃ neg r, r ≤ infR ∧ F64.write z = F64.word neg r) := by
  refine ⟨_, rfl, ?_, ?_⟩
  · unfold Ieee.Format.write
    rw [V_nearest]
    congr 1
    obtain ⟨b, a, c, hb, ha, hc, h1, h2⟩ : ∃ b a c : Nat, min (-1074 + (p : Int)) (-1074 + (q : Int)) = -1074 + (b : Int) ∧ (-1074 + (p : Int) - (-1074 + (b : Int))).toNat = a ∧ (-1074 + (q : Int) - (-1074 + (b : Int))).toNat = c ∧ p = b + a ∧ q = b + c :=
      ⟨min p q, p - min p q, q - min p q, by omega, by omega, by omega, by omega, by omega⟩
    simp only [hb, ha, hc]
    have key : ((Ieee.signed s m a + Ieee.signed t n c : Int) : Rat) * 2 ^ (-1074 + (b : Int)) = (if s then -((m : Rat) * 2 ^ (-1074 + (p : Int))) else (m : Rat) * 2 ^ (-1074 + (p : Int))) + (if t then -((n : Rat) * 2 ^ (-1074 + (q : Int))) else (n : Rat) * 2 ^ (-1074 + (q : Int))) := by
      rw [Rat.intCast_add, signed_rat, signed_rat]
      have e1 : (2 : Rat) ^ (-1074 + (p : Int)) = 2 ^ a * 2 ^ (-1074 + (b : Int)) := by
        rw [← zpow_nat a, ← Rat.zpow_add two_ne]; congr 1; omega
      have e2 : (2 : Rat) ^ (-1074 + (q : Int)) = 2 ^ c * 2 ^ (-1074 + (b : Int)) := by
        rw [← zpow_nat c, ← Rat.zpow_add two_ne]; congr 1; omega
      rw [e1, e2]
      cases s <;> cases t <;> simp only [Bool.false_eq_true, if_false, if_true] <;> grind
    rw [← key]
    generalize Ieee.signed s m a + Ieee.signed t n c = T
    by_cases h0 : T = 0
    · subst h0
      simp
    · rw [if_neg h0]
      have := natAbs_rat T
      by_cases hT : T < 0
      · simp only [hT, decide_true, if_true] at this ⊢
        rw [← this]; grind
      · simp only [hT, decide_false, Bool.false_eq_true, if_false] at this ⊢
        rw [← this]
  · unfold Ieee.Format.write
    exact ⟨_, nearest_word _ _ _⟩

/-- A result: its value, and that it is no NaN. -/
structure Res (w : Nat) (q : Rat) : Prop where
  v : V w = rs q
  le : rg w ≤ infR
  lt : w < 2 ^ 64

theorem word_lt (neg : Bool) {r : Nat} (h : r ≤ infR) : F64.word neg r < 2 ^ 64 := by
  unfold Ieee.Format.word
  rw [F64_signWeight]
  unfold infR at h
  split <;> omega
theorem res_of {z : Ieee.Datum} {q : Rat} (h1 : V (F64.write z) = rs q) (h2 : ∃ neg r, r ≤ infR ∧ F64.write z = F64.word neg r) : Res (F64.write z) q := by
  obtain ⟨neg, r, h, e⟩ := h2
  exact ⟨h1, by rw [e, rg_word neg h]; exact h, by rw [e]; exact word_lt neg h⟩

theorem add_res {x y : Nat} (hx : fin x) (hy : fin y) : Res (fadd x y) (V x + V y) := by
  obtain ⟨m, p, e1, v1⟩ := read_fin hx
  obtain ⟨n, q, e2, v2⟩ := read_fin hy
  have w1 := V_number rfl v1
  have w2 := V_number rfl v2
  obtain ⟨z, hz, hv, hw⟩ := sum_spec (s := sg x) (t := sg y) (m := m) (n := n) (p := p) (q := q)
  have : fadd x y = F64.write z := by unfold fadd Ieee.Format.add; rw [e1, e2, hz]; rfl
  rw [this, w1, w2]
  exact res_of hv hw
theorem sub_res {x y : Nat} (hx : fin x) (hy : fin y) : Res (fsub x y) (V x - V y) := by
  obtain ⟨m, p, e1, v1⟩ := read_fin hx
  obtain ⟨n, q, e2, v2⟩ := read_fin hy
  have w1 := V_number rfl v1
  have w2 := V_number rfl v2
  obtain ⟨z, hz, hv, hw⟩ := sum_spec (s := sg x) (t := !sg y) (m := m) (n := n) (p := p) (q := q)
  have : fsub x y = F64.write z := by unfold fsub Ieee.Format.sub; rw [e1, e2]; simp only [Ieee.Datum.opposite]; rw [hz]; rfl
  rw [this, w1, w2]
  have e : ∀ A B : Rat, A - (if sg y then -B else B) = A + (if !sg y then -B else B) := by intro A B; cases sg y <;> simp <;> grind
  rw [e]
  exact res_of hv hw
theorem mul_res {x y : Nat} (hx : fin x) (hy : fin y) : Res (fmul x y) (V x * V y) := by
  obtain ⟨m, p, e1, v1⟩ := read_fin hx
  obtain ⟨n, q, e2, v2⟩ := read_fin hy
  have w1 := V_number rfl v1
  have w2 := V_number rfl v2
  have : fmul x y = F64.write (.number (sg x ^^ sg y) (m * n) ((-1074 + (p : Int)) + (-1074 + (q : Int)))) := by unfold fmul Ieee.Format.mul; rw [e1, e2]; rfl
  rw [this]
  refine res_of ?_ ⟨_, nearest_word _ _ _⟩
  unfold Ieee.Format.write
  rw [V_nearest, w1, w2, Rat.zpow_add two_ne, Rat.natCast_mul]
  congr 1
  cases sg x <;> cases sg y <;> simp <;> grind
end
end Go.Proofs.Ythopjahoaljhaaa.X

/-! ## Quotients and square roots of floats as rounded numbers; the order of floats is that of what they stand for. -/
set_option linter.unusedVariables false
set_option linter.unusedSimpArgs false
namespace Go.Proofs.Ythopjahoaljhaaa.X
open Go
noncomputable section

/-- Twice the middle between a rung and the next one: an odd number of binary digits' place. -/
theorem mid_form (s : Nat) : ∃ e K : Nat, (val s : Rat) + val (s + 1) = ((2 * K + 1 : Nat) : Rat) * 2 ^ e ∧ 2 * K + 1 < 18014398509481984 := by
  obtain ⟨e, K, hs, h⟩ := rung_form s
  refine ⟨e, K, ?_, by omega⟩
  have h1 : (val s : Rat) = (K : Rat) * 2 ^ e := by rw [hs, val_form e K (by omega), Rat.natCast_mul, castPow]
  have h2 : (val (s + 1) : Rat) = ((K + 1 : Nat) : Rat) * 2 ^ e := by
    rw [hs, show e * 4503599627370496 + K + 1 = e * 4503599627370496 + (K + 1) by omega, val_form e (K + 1) (by omega), Rat.natCast_mul, castPow]
  rw [h1, h2]; push_cast; grind
/-- A middle against what lies from w to w + 1 times T: below w T, or a multiple of T. -/
theorem mid_cases (s w : Nat) (p : Int) (hw : 9007199254740992 ≤ w) : ((val s : Rat) + val (s + 1)) < w * 2 ^ p ∨ ∃ j : Nat, w ≤ j ∧ (val s : Rat) + val (s + 1) = (j : Rat) * 2 ^ p := by
  obtain ⟨e, K, h1, h2⟩ := mid_form s
  rw [h1]
  by_cases hp : (e : Int) < p
  · left
    have hpp : p = (e : Int) + 1 + ((p - e - 1).toNat : Int) := by omega
    generalize (p - e - 1).toNat = d at hpp
    have e1 : (2 : Rat) ^ p = 2 ^ e * (2 * 2 ^ d) := by
      rw [hpp, Rat.zpow_add two_ne, Rat.zpow_add two_ne, zpow_nat, zpow_nat, Rat.zpow_one, Rat.mul_assoc]
    rw [e1]
    have hd : 1 ≤ 2 ^ d := Nat.one_le_two_pow
    have hn : 2 * K + 1 < w * (2 * 2 ^ d) := by
      have : w * 2 ≤ w * (2 * 2 ^ d) := Nat.mul_le_mul_left _ (by omega)
      omega
    have hc : ((2 * K + 1 : Nat) : Rat) < ((w * (2 * 2 ^ d) : Nat) : Rat) := by exact_mod_cast hn
    have he := two_pow_pos e
    have := Rat.mul_lt_mul_of_pos_right hc he
    rw [Rat.natCast_mul, Rat.natCast_mul, castPow] at this
    grind
  · obtain ⟨d, hd⟩ : ∃ d : Nat, (e : Int) = p + d := ⟨(e - p).toNat, by omega⟩
    have e1 : (2 : Rat) ^ e = 2 ^ d * 2 ^ p := by
      rw [← zpow_nat e, hd, Rat.zpow_add two_ne, zpow_nat, Rat.mul_comm]
    by_cases hj : w ≤ (2 * K + 1) * 2 ^ d
    · right
      exact ⟨(2 * K + 1) * 2 ^ d, hj, by rw [e1, Rat.natCast_mul ((2 * K + 1)), castPow, Rat.mul_assoc]⟩
    · left
      rw [e1]
      have hc : (((2 * K + 1) * 2 ^ d : Nat) : Rat) < (w : Rat) := by exact_mod_cast (show (2 * K + 1) * 2 ^ d < w by omega)
      have := Rat.mul_lt_mul_of_pos_right hc (two_zpow_pos p)
      rw [Rat.natCast_mul ((2 * K + 1)), castPow] at this
      grind

/-- A number given to enough digits, and one digit more that tells whether anything is left over, has the rung of the number itself. -/
theorem sticky {w b : Nat} {p : Int} {Q : Rat} (hw : 9007199254740992 ≤ w) (hb : (b = 0 ∧ Q = w * 2 ^ (p + 1)) ∨ (b = 1 ∧ (w : Rat) * 2 ^ (p + 1) < Q ∧ Q < ((w : Rat) + 1) * 2 ^ (p + 1)))
    {r : Nat} (h : IsR (((2 * w + b : Nat) : Rat) * 2 ^ p) r) : IsR Q r := by
  have hT := two_zpow_pos p
  have e1 : (2 : Rat) ^ (p + 1) = 2 * 2 ^ p := by rw [Rat.zpow_add two_ne, Rat.zpow_one, Rat.mul_comm]
  have e2 : (2 : Rat) ^ (p + 2) = 4 * 2 ^ p := by rw [Rat.zpow_add two_ne, Rat.mul_comm]; congr 1
  have key : ∀ s, ((val s : Rat) + val (s + 1) < 2 * Q ↔ (val s : Rat) + val (s + 1) < 2 * (((2 * w + b : Nat) : Rat) * 2 ^ p)) ∧
      (2 * Q < (val s : Rat) + val (s + 1) ↔ 2 * (((2 * w + b : Nat) : Rat) * 2 ^ p) < (val s : Rat) + val (s + 1)) := by
    intro s
    have hc := mid_cases s w (p + 2) hw
    rw [e1] at hb
    rw [e2] at hc
    generalize (2 : Rat) ^ p = T at *
    generalize (val s : Rat) + val (s + 1) = H at *
    push_cast
    rcases hc with hc | ⟨j, hj, rfl⟩
    · rcases hb with ⟨rfl, rfl⟩ | ⟨rfl, h1, h2⟩
      · grind
      · grind
    · rcases Nat.eq_or_lt_of_le hj with rfl | hj
      · rcases hb with ⟨rfl, rfl⟩ | ⟨rfl, h1, h2⟩
        · constructor <;> constructor <;> intro h <;> grind
        · constructor <;> constructor <;> intro h <;> grind
      · have hc : ((w + 1 : Nat) : Rat) ≤ (j : Rat) := by exact_mod_cast hj
        have := Rat.mul_le_mul_of_nonneg_right hc (Rat.le_of_lt hT)
        push_cast at this
        rcases hb with ⟨rfl, rfl⟩ | ⟨rfl, h1, h2⟩
        · constructor <;> constructor <;> intro h <;> grind
        · constructor <;> constructor <;> intro h <;> grind
  refine ⟨fun s hs => ?_, ?_⟩
  · have k := key s
    subst hs
    rcases h.1 s rfl with h1 | ⟨h1, h2⟩
    · exact .inl (k.1.2 h1)
    · refine .inr ⟨?_, h2⟩
      have a1 : ¬ ((val s : Rat) + val (s + 1) < 2 * Q) := fun h => by have := k.1.1 h; grind
      have a2 : ¬ (2 * Q < (val s : Rat) + val (s + 1)) := fun h => by have := k.2.1 h; grind
      grind
  · have k := key r
    rcases h.2 with h1 | ⟨h1, h2⟩
    · exact .inl (k.2.2 h1)
    · refine .inr ⟨?_, h2⟩
      have a1 : ¬ ((val r : Rat) + val (r + 1) < 2 * Q) := fun h => by have := k.1.1 h; grind
      have a2 : ¬ (2 * Q < (val r : Rat) + val (r + 1)) := fun h => by have := k.2.1 h; grind
      grind

/-! ### Quotients -/
theorem isR_nearest {neg : Bool} {mag : Nat} {place : Int} (hm : mag ≠ 0) {Q : Rat} (hQ : 0 ≤ Q) (h : ∀ r, IsR ((mag : Rat) * 2 ^ (place + 1074)) r → IsR Q r) :
    V (F64.nearest neg mag place) = rs (if neg then -(Q * u) else Q * u) := by
  obtain ⟨r, e, h1⟩ := nearest_spec neg mag place hm
  have h2 := rs_pos hQ (h r h1)
  rw [e, V_word neg (by rw [F64_infRung]; exact Nat.min_le_right _ _), F64_infRung]
  cases neg
  · simp only [Bool.false_eq_true, if_false]; rw [h2]
  · simp only [if_true]; rw [rs_neg, h2]

theorem div_mag {m n : Nat} (hm : m ≠ 0) (hn : n ≠ 0) : 9007199254740992 ≤ (m <<< (54 + n.log2 - m.log2)) / n := by
  rw [Nat.le_div_iff_mul_le (by omega), Nat.shiftLeft_eq]
  have h1 : n < 2 ^ (n.log2 + 1) := Nat.lt_log2_self
  have h2 : 2 ^ m.log2 ≤ m := Nat.log2_self_le hm
  have h3 : 2 ^ m.log2 * 2 ^ (54 + n.log2 - m.log2) ≤ m * 2 ^ (54 + n.log2 - m.log2) := Nat.mul_le_mul_right _ h2
  rw [← Nat.pow_add] at h3
  have h4 : 2 ^ (53 + (n.log2 + 1)) ≤ 2 ^ (m.log2 + (54 + n.log2 - m.log2)) := Nat.pow_le_pow_right (by omega) (by omega)
  have h5 : 2 ^ (53 + (n.log2 + 1)) = 9007199254740992 * 2 ^ (n.log2 + 1) := Nat.pow_add 2 53 _
  have h6 : 9007199254740992 * n ≤ 9007199254740992 * 2 ^ (n.log2 + 1) := Nat.mul_le_mul_left _ (by omega)
  omega

theorem div_abs {m n : Nat} {i j : Int} (hm : m ≠ 0) (hn : n ≠ 0) (neg : Bool) :
    V (F64.nearest neg (2 * ((m <<< (54 + n.log2 - m.log2)) / n) + ((m <<< (54 + n.log2 - m.log2)) % n != 0).toNat) (i - j - (54 + n.log2 - m.log2 : Nat) - 1)) =
      rs (if neg then -(((m : Rat) * 2 ^ i) / ((n : Rat) * 2 ^ j)) else ((m : Rat) * 2 ^ i) / ((n : Rat) * 2 ^ j)) := by
  have hw := div_mag hm hn
  have hn' : (0 : Rat) < n := by exact_mod_cast Nat.pos_of_ne_zero hn
  have hd : 0 < (n : Rat) * 2 ^ j := Rat.mul_pos hn' (two_zpow_pos _)
  have hnn : 0 ≤ ((m : Rat) * 2 ^ i) / ((n : Rat) * 2 ^ j) := by
    rw [Rat.div_def]
    exact Rat.mul_nonneg (Rat.mul_nonneg Rat.natCast_nonneg (Rat.le_of_lt (two_zpow_pos _))) (Rat.le_of_lt (Rat.inv_pos.2 hd))
  have hq : ((m : Rat) * 2 ^ i) / ((n : Rat) * 2 ^ j) = (((m : Rat) * 2 ^ i) / ((n : Rat) * 2 ^ j) * iu) * u := by
    rw [Rat.mul_assoc, iu_u, Rat.mul_one]
  rw [hq]
  generalize hk : 54 + n.log2 - m.log2 = k at *
  refine isR_nearest (by omega) (Rat.mul_nonneg hnn (Rat.le_of_lt iu_pos)) ?_
  intro r hr
  refine sticky hw ?_ hr
  have hpl : i - j - (k : Int) - 1 + 1074 + 1 = i - j - k + 1074 := by omega
  rw [hpl]
  -- Q * n = m <<< k * T
  have hQn : (((m : Rat) * 2 ^ i) / ((n : Rat) * 2 ^ j) * iu) * n = ((m <<< k : Nat) : Rat) * 2 ^ (i - j - (k : Int) + 1074) := by
    have h1 : ((m : Rat) * 2 ^ i) / ((n : Rat) * 2 ^ j) * ((n : Rat) * 2 ^ j) = (m : Rat) * 2 ^ i := Rat.div_mul_cancel (by grind)
    have h2 : (2 : Rat) ^ i = 2 ^ j * (2 ^ (k : Int) * 2 ^ (i - j - (k : Int))) := by
      rw [← Rat.zpow_add two_ne, ← Rat.zpow_add two_ne]; congr 1; omega
    have h3 : ((m <<< k : Nat) : Rat) = (m : Rat) * 2 ^ (k : Int) := by rw [Nat.shiftLeft_eq, Rat.natCast_mul, castPow, zpow_nat]
    have h4 : (2 : Rat) ^ (i - j - (k : Int) + 1074) = 2 ^ (i - j - (k : Int)) * iu := by unfold iu; rw [← Rat.zpow_add two_ne]
    rw [h3, h4]
    have hj := two_zpow_pos j
    generalize ((m : Rat) * 2 ^ i) / ((n : Rat) * 2 ^ j) = D at *
    rw [h2] at h1
    generalize (2 : Rat) ^ j = J at *
    have : D * n = m * (2 ^ (k : Int) * 2 ^ (i - j - (k : Int))) := by
      have h5 : (D * n) * J = (m * (2 ^ (k : Int) * 2 ^ (i - j - (k : Int)))) * J := by grind
      refine Rat.le_antisymm ?_ ?_
      · exact Rat.le_of_mul_le_mul_right (c := J) (by rw [h5]; exact Rat.le_refl) hj
      · exact Rat.le_of_mul_le_mul_right (c := J) (by rw [h5]; exact Rat.le_refl) hj
    grind
  have hT := two_zpow_pos (i - j - (k : Int) + 1074)
  generalize (2 : Rat) ^ (i - j - (k : Int) + 1074) = T at *
  generalize ((m : Rat) * 2 ^ i) / ((n : Rat) * 2 ^ j) * iu = Q at *
  generalize m <<< k = N at *
  have hdm := Nat.div_add_mod N n
  have hml := Nat.mod_lt N (Nat.pos_of_ne_zero hn)
  generalize N / n = w at *
  generalize N % n = rest at *
  have hN : (N : Rat) = (n : Rat) * w + rest := by rw [← hdm]; push_cast; rfl
  have hrl : (rest : Rat) < n := by exact_mod_cast hml
  by_cases h0 : rest = 0
  · left
    refine ⟨by simp [h0], ?_⟩
    have h5 : Q * n = (w * T) * n := by rw [hQn, hN, h0]; push_cast; grind
    refine Rat.le_antisymm ?_ ?_
    · exact Rat.le_of_mul_le_mul_right (c := n) (by rw [h5]; exact Rat.le_refl) hn'
    · exact Rat.le_of_mul_le_mul_right (c := n) (by rw [h5]; exact Rat.le_refl) hn'
  · right
    have hr0 : (0 : Rat) < rest := by exact_mod_cast Nat.pos_of_ne_zero h0
    have t1 := Rat.mul_pos hr0 hT
    have t2 := Rat.mul_lt_mul_of_pos_right hrl hT
    refine ⟨by simp [h0], ?_, ?_⟩
    · refine Rat.lt_of_mul_lt_mul_right (c := n) ?_ (Rat.le_of_lt hn')
      rw [hQn, hN]; grind
    · refine Rat.lt_of_mul_lt_mul_right (c := n) ?_ (Rat.le_of_lt hn')
      rw [hQn, hN]; grind

theorem V_zero_mag {x : Nat} : V x = 0 ↔ rg x = 0 := by
  unfold V
  constructor
  · intro h
    have hu := u_pos
    have h1 : (val (rg x) : Rat) * u = 0 := by split at h <;> grind
    rcases Rat.mul_eq_zero.1 h1 with h2 | h2
    · have h3 : val (rg x) = 0 := by exact_mod_cast h2
      have := le_val (rg x); omega
    · grind
  · intro h
    rw [h]
    have : (val 0 : Rat) = 0 := by simp [val]
    rw [this]; split <;> grind

theorem div_res {x y : Nat} (hx : fin x) (hy : fin y) (h0 : V y ≠ 0) : Res (fdiv x y) (V x / V y) := by
  obtain ⟨m, p, e1, v1⟩ := read_fin hx
  obtain ⟨n, q, e2, v2⟩ := read_fin hy
  have w1 := V_number rfl v1
  have w2 := V_number rfl v2
  have hn : n ≠ 0 := by
    intro h; apply h0; rw [V_zero_mag]; subst h
    have := le_val (rg y); omega
  have : fdiv x y = F64.write (.number (sg x ^^ sg y) (2 * ((m <<< (54 + n.log2 - m.log2)) / n) + ((m <<< (54 + n.log2 - m.log2)) % n != 0).toNat) ((-1074 + (p : Int)) - (-1074 + (q : Int)) - (54 + n.log2 - m.log2 : Nat) - 1)) := by
    unfold fdiv Ieee.Format.div
    rw [e1, e2]
    simp only [Ieee.Datum.quotient, if_neg hn]
    rfl
  rw [this]
  refine res_of ?_ ⟨_, nearest_word _ _ _⟩
  unfold Ieee.Format.write
  have hs : V x / V y = if (sg x ^^ sg y) then -(((m : Rat) * 2 ^ (-1074 + (p : Int))) / ((n : Rat) * 2 ^ (-1074 + (q : Int)))) else ((m : Rat) * 2 ^ (-1074 + (p : Int))) / ((n : Rat) * 2 ^ (-1074 + (q : Int))) := by
    rw [w1, w2]
    have neg_div : ∀ A B : Rat, -A / B = -(A / B) := by intro A B; rw [Rat.div_def, Rat.div_def, Rat.neg_mul]
    have div_neg : ∀ A B : Rat, A / -B = -(A / B) := by
      intro A B
      by_cases hB : B = 0
      · subst hB; simp [Rat.div_def]
      · have h1 : A / -B * -B = A := Rat.div_mul_cancel (by grind)
        have h2 : A / B * B = A := Rat.div_mul_cancel hB
        have h3 : (A / -B + A / B) * B = 0 := by grind
        rcases Rat.mul_eq_zero.1 h3 with h | h
        · grind
        · exact absurd h hB
    cases sg x <;> cases sg y <;> simp [neg_div, div_neg]
  rw [hs]
  by_cases hm : m = 0
  · subst hm
    have : V (F64.nearest (sg x ^^ sg y) (2 * ((0 <<< (54 + n.log2 - Nat.log2 0)) / n) + ((0 <<< (54 + n.log2 - Nat.log2 0)) % n != 0).toNat) ((-1074 + (p : Int)) - (-1074 + (q : Int)) - (54 + n.log2 - Nat.log2 0 : Nat) - 1)) = 0 := by
      have e : 2 * ((0 <<< (54 + n.log2 - Nat.log2 0)) / n) + ((0 <<< (54 + n.log2 - Nat.log2 0)) % n != 0).toNat = 0 := by simp
      rw [e, V_nearest]
      have : (((0 : Nat) : Rat)) * 2 ^ ((-1074 + (p : Int)) - (-1074 + (q : Int)) - (54 + n.log2 - Nat.log2 0 : Nat) - 1) = 0 := by simp
      rw [this]
      split <;> simp [rs_zero]
    rw [this]
    have : ((((0 : Nat) : Rat)) * 2 ^ (-1074 + (p : Int))) / ((n : Rat) * 2 ^ (-1074 + (q : Int))) = 0 := by simp [Rat.div_def]
    rw [this]
    split <;> simp [rs_zero]
  · exact div_abs hm hn _
end
end Go.Proofs.Ythopjahoaljhaaa.X

/-! ## Square roots of floats; the order of floats is that of what they stand for. -/
set_option linter.unusedVariables false
set_option linter.unusedSimpArgs false
namespace Go.Proofs.Ythopjahoaljhaaa.X
open Go
noncomputable section

/-! ### The whole root -/
theorem rootFrom_spec (n : Nat) : ∀ (t r : Nat), (∃ q, r = q * 2 ^ t) → r * r ≤ n → n < (r + 2 ^ t) * (r + 2 ^ t) →
    (Ieee.Datum.rootFrom n t r) * (Ieee.Datum.rootFrom n t r) ≤ n ∧ n < (Ieee.Datum.rootFrom n t r + 1) * (Ieee.Datum.rootFrom n t r + 1) := by
  intro t
  induction t with
  | zero => intro r _ h1 h2; simpa [Ieee.Datum.rootFrom] using ⟨h1, h2⟩
  | succ t ih =>
    intro r ⟨q, hq⟩ h1 h2
    have hl : (r + 1 <<< t) = r + 2 ^ t := by rw [Nat.one_shiftLeft]
    have e : Ieee.Datum.rootFrom n (t + 1) r = Ieee.Datum.rootFrom n t (if (r + 2 ^ t) * (r + 2 ^ t) ≤ n then r + 2 ^ t else r) := by
      conv => lhs; unfold Ieee.Datum.rootFrom
      simp only [hl]
    rw [e]
    have hp : 2 ^ (t + 1) = 2 ^ t + 2 ^ t := by rw [Nat.pow_succ]; omega
    by_cases h : (r + 2 ^ t) * (r + 2 ^ t) ≤ n
    · rw [if_pos h]
      refine ih (r + 2 ^ t) ⟨2 * q + 1, ?_⟩ h ?_
      · rw [hq, hp, Nat.add_mul, Nat.mul_assoc, Nat.mul_add]
        generalize q * 2 ^ t = A at *
        generalize 2 ^ t = B at *
        omega
      · rw [hp, ← Nat.add_assoc] at h2; exact h2
    · rw [if_neg h]
      refine ih r ⟨2 * q, ?_⟩ h1 (by omega)
      rw [hq, hp, Nat.mul_add, Nat.mul_assoc]
      generalize q * 2 ^ t = A at *
      omega

/-! ### Square roots -/
/-- The rung next to the root of a number. -/
def IsRsq (Z : Rat) (r : Nat) : Prop :=
  (∀ s, r = s + 1 → (((val s : Rat) + val r) * ((val s : Rat) + val r) < 4 * Z ∨ (((val s : Rat) + val r) * ((val s : Rat) + val r) = 4 * Z ∧ r % 2 = 0))) ∧
  (4 * Z < ((val r : Rat) + val (r + 1)) * ((val r : Rat) + val (r + 1)) ∨ (4 * Z = ((val r : Rat) + val (r + 1)) * ((val r : Rat) + val (r + 1)) ∧ r % 2 = 0))

theorem mul_self_lt {a b : Rat} (ha : 0 ≤ a) (h : a < b) : a * a < b * b := by
  have h1 := Rat.mul_le_mul_of_nonneg_left (Rat.le_of_lt h) ha
  have h2 := Rat.mul_lt_mul_of_pos_right h (show 0 < b by grind)
  grind
theorem mul_self_le {a b : Rat} (ha : 0 ≤ a) (h : a ≤ b) : a * a ≤ b * b := by
  have h1 := Rat.mul_le_mul_of_nonneg_left h ha
  have h2 := Rat.mul_le_mul_of_nonneg_right h (show 0 ≤ b by grind)
  grind
theorem lt_of_mul_self {a b : Rat} (hb : 0 ≤ b) (h : a * a < b * b) : a < b := by
  apply Classical.byContradiction
  intro hn
  have := mul_self_le hb (show b ≤ a by grind)
  grind
theorem le_of_mul_self {a b : Rat} (hb : 0 ≤ b) (h : a * a ≤ b * b) : a ≤ b := by
  apply Classical.byContradiction
  intro hn
  have := mul_self_lt hb (show b < a by grind)
  grind

theorem sticky_sq {w b n : Nat} {p : Int} (hw : 9007199254740992 ≤ w) (h1 : w * w ≤ n) (h2 : n < (w + 1) * (w + 1)) (hb : (b = 0 ∧ w * w = n) ∨ (b = 1 ∧ w * w ≠ n)) {Z : Rat} (hZ : Z = (n : Rat) * (2 ^ (p + 1) * 2 ^ (p + 1)))
    {r : Nat} (h : IsR (((2 * w + b : Nat) : Rat) * 2 ^ p) r) : IsRsq Z r := by
  have hT := two_zpow_pos p
  have e1 : (2 : Rat) ^ (p + 1) = 2 * 2 ^ p := by rw [Rat.zpow_add two_ne, Rat.zpow_one, Rat.mul_comm]
  have e2 : (2 : Rat) ^ (p + 2) = 4 * 2 ^ p := by rw [Rat.zpow_add two_ne, Rat.mul_comm]; congr 1
  have key : ∀ s, (((val s : Rat) + val (s + 1)) * ((val s : Rat) + val (s + 1)) < 4 * Z ↔ (val s : Rat) + val (s + 1) < 2 * (((2 * w + b : Nat) : Rat) * 2 ^ p)) ∧
      (4 * Z < ((val s : Rat) + val (s + 1)) * ((val s : Rat) + val (s + 1)) ↔ 2 * (((2 * w + b : Nat) : Rat) * 2 ^ p) < (val s : Rat) + val (s + 1)) := by
    intro s
    have hc := mid_cases s w (p + 2) hw
    have hH : 0 ≤ (val s : Rat) + val (s + 1) := by have := valR_nonneg s; have := valR_nonneg (s + 1); grind
    rw [e1] at hZ
    rw [e2] at hc
    generalize (2 : Rat) ^ p = T at *
    generalize (val s : Rat) + val (s + 1) = H at *
    have hTT := Rat.mul_pos hT hT
    push_cast
    have h1' : (w : Rat) * w ≤ n := by exact_mod_cast h1
    have h2' : (n : Rat) < ((w : Rat) + 1) * (w + 1) := by exact_mod_cast h2
    have a1 := Rat.mul_le_mul_of_nonneg_right h1' (Rat.le_of_lt hTT)
    have a2 := Rat.mul_lt_mul_of_pos_right h2' hTT
    rcases hc with hc | ⟨j, hj, rfl⟩
    · have h3 := mul_self_lt hH hc
      have hb0 : (0 : Rat) ≤ b := Rat.natCast_nonneg
      have hbT := Rat.mul_nonneg hb0 (Rat.le_of_lt hT)
      constructor <;> constructor <;> intro h <;> grind
    · rcases Nat.eq_or_lt_of_le hj with rfl | hj
      · rcases hb with ⟨rfl, hn⟩ | ⟨rfl, hn⟩
        · have hn' : (w : Rat) * w = n := by exact_mod_cast hn
          have a3 : (w : Rat) * w * (T * T) = n * (T * T) := by rw [hn']
          constructor <;> constructor <;> intro h <;> grind
        · have hn' : (w : Rat) * w < n := by exact_mod_cast (show w * w < n by omega)
          have a3 := Rat.mul_lt_mul_of_pos_right hn' hTT
          constructor <;> constructor <;> intro h <;> grind
      · have hc : ((w + 1 : Nat) : Rat) ≤ (j : Rat) := by exact_mod_cast hj
        have a3 := Rat.mul_le_mul_of_nonneg_right hc (Rat.le_of_lt hT)
        have hw0 : (0 : Rat) ≤ w := Rat.natCast_nonneg
        have a4 : ((w + 1 : Nat) : Rat) * (w + 1 : Nat) ≤ (j : Rat) * j := mul_self_le Rat.natCast_nonneg hc
        have a5 := Rat.mul_le_mul_of_nonneg_right a4 (Rat.le_of_lt hTT)
        have hbl : b ≤ 1 := by omega
        have hb1 : (b : Rat) ≤ 1 := by exact_mod_cast hbl
        have hb2 := Rat.mul_le_mul_of_nonneg_right hb1 (Rat.le_of_lt hT)
        push_cast at a3 a5
        constructor <;> constructor <;> intro h <;> grind
  refine ⟨fun s hs => ?_, ?_⟩
  · have k := key s
    subst hs
    rcases h.1 s rfl with h1 | ⟨h1, h2⟩
    · exact .inl (k.1.2 h1)
    · refine .inr ⟨?_, h2⟩
      have a1 : ¬ (((val s : Rat) + val (s + 1)) * ((val s : Rat) + val (s + 1)) < 4 * Z) := fun h => by have := k.1.1 h; grind
      have a2 : ¬ (4 * Z < ((val s : Rat) + val (s + 1)) * ((val s : Rat) + val (s + 1))) := fun h => by have := k.2.1 h; grind
      exact Rat.le_antisymm (Rat.not_lt.1 a2) (Rat.not_lt.1 a1)
  · have k := key r
    rcases h.2 with h1 | ⟨h1, h2⟩
    · exact .inl (k.2.2 h1)
    · refine .inr ⟨?_, h2⟩
      have a1 : ¬ (((val r : Rat) + val (r + 1)) * ((val r : Rat) + val (r + 1)) < 4 * Z) := fun h => by have := k.1.1 h; grind
      have a2 : ¬ (4 * Z < ((val r : Rat) + val (r + 1)) * ((val r : Rat) + val (r + 1))) := fun h => by have := k.2.1 h; grind
      exact Rat.le_antisymm (Rat.not_lt.1 a1) (Rat.not_lt.1 a2)

theorem root_mag {m : Nat} (hm : m ≠ 0) {k : Nat} (hk : 108 - m.log2 ≤ k) {w : Nat} (hw : (m <<< k) < (w + 1) * (w + 1)) : 9007199254740992 ≤ w := by
  apply Classical.byContradiction
  intro hn
  have h2 : 2 ^ m.log2 ≤ m := Nat.log2_self_le hm
  have h3 : 2 ^ m.log2 * 2 ^ k ≤ m * 2 ^ k := Nat.mul_le_mul_right _ h2
  rw [← Nat.pow_add] at h3
  have h4 : 2 ^ 108 ≤ 2 ^ (m.log2 + k) := Nat.pow_le_pow_right (by omega) (by omega)
  rw [Nat.shiftLeft_eq] at hw
  have h5 : (w + 1) * (w + 1) ≤ 9007199254740992 * 9007199254740992 := Nat.mul_le_mul (by omega) (by omega)
  omega

theorem rootFrom_zero (n : Nat) : (Ieee.Datum.rootFrom n (n.log2 / 2 + 1) 0) * (Ieee.Datum.rootFrom n (n.log2 / 2 + 1) 0) ≤ n ∧ n < (Ieee.Datum.rootFrom n (n.log2 / 2 + 1) 0 + 1) * (Ieee.Datum.rootFrom n (n.log2 / 2 + 1) 0 + 1) := by
  refine rootFrom_spec n _ 0 ⟨0, by simp⟩ (by omega) ?_
  have h1 : n < 2 ^ (n.log2 + 1) := Nat.lt_log2_self
  have h2 : 2 ^ (n.log2 + 1) ≤ 2 ^ ((n.log2 / 2 + 1) + (n.log2 / 2 + 1)) := Nat.pow_le_pow_right (by omega) (by omega)
  rw [Nat.pow_add 2 (n.log2 / 2 + 1) (n.log2 / 2 + 1)] at h2
  rw [Nat.zero_add]; omega

/-- The root of a number above nought. -/
theorem sqrt_res {x : Nat} (hx : fin x) (h0 : 0 < V x) : ∃ r, r < infR ∧ fsqrt x = r ∧ V (fsqrt x) = (val r : Rat) * u ∧ IsRsq (V x * (iu * iu)) r := by
  obtain ⟨m, p, e1, v1⟩ := read_fin hx
  have w1 := V_number rfl v1
  have hs : sg x = false := by
    cases h : sg x with
    | false => rfl
    | true =>
      rw [h] at w1; simp only [if_true] at w1
      have : 0 ≤ (m : Rat) * 2 ^ (-1074 + (p : Int)) := Rat.mul_nonneg Rat.natCast_nonneg (Rat.le_of_lt (two_zpow_pos _))
      grind
  rw [hs] at w1 e1
  simp only [Bool.false_eq_true, if_false] at w1
  have hm : m ≠ 0 := by
    intro h; subst h
    have : V x = 0 := by rw [w1]; simp
    grind
  obtain ⟨k, hk, hk2, hke⟩ : ∃ k : Nat, 108 - m.log2 ≤ k ∧ (∃ h : Int, -1074 + (p : Int) - k = 2 * h) ∧ fsqrt x = F64.nearest false (2 * (Ieee.Datum.rootFrom (m <<< k) ((m <<< k).log2 / 2 + 1) 0) + ((Ieee.Datum.rootFrom (m <<< k) ((m <<< k).log2 / 2 + 1) 0) * (Ieee.Datum.rootFrom (m <<< k) ((m <<< k).log2 / 2 + 1) 0) != m <<< k).toNat) ((-1074 + (p : Int) - k) / 2 - 1) := by
    refine ⟨2 * 54 - m.log2 + ((-1074 + (p : Int) - (2 * 54 - m.log2 : Nat)) % 2).toNat, by omega, ?_, ?_⟩
    · refine ⟨(-1074 + (p : Int) - (2 * 54 - m.log2 + ((-1074 + (p : Int) - (2 * 54 - m.log2 : Nat)) % 2).toNat : Nat)) / 2, by omega⟩
    · unfold fsqrt Ieee.Format.sqrt
      rw [e1]
      simp only [Ieee.Datum.root, if_neg hm, Bool.false_eq_true, if_false]
      rfl
  obtain ⟨h, hh⟩ := hk2
  have hdiv : (-1074 + (p : Int) - k) / 2 - 1 = h - 1 := by omega
  rw [hdiv] at hke
  obtain ⟨r1, r2⟩ := rootFrom_zero (m <<< k)
  have hw := root_mag hm hk r2
  generalize hn : m <<< k = n at *
  generalize Ieee.Datum.rootFrom n (n.log2 / 2 + 1) 0 = w at *
  obtain ⟨r, he, hr⟩ := nearest_spec false (2 * w + (w * w != n).toNat) (h - 1) (by omega)
  have hZ : V x * (iu * iu) = (n : Rat) * (2 ^ (h - 1 + 1074 + 1) * 2 ^ (h - 1 + 1074 + 1)) := by
    have h3 : (n : Rat) = (m : Rat) * 2 ^ (k : Int) := by rw [← hn, Nat.shiftLeft_eq, Rat.natCast_mul, castPow, zpow_nat]
    rw [w1, h3]
    unfold iu
    rw [Rat.mul_assoc, Rat.mul_assoc, ← Rat.zpow_add two_ne, ← Rat.zpow_add two_ne, ← Rat.zpow_add two_ne, ← Rat.zpow_add two_ne]
    congr 2
    omega
  have hsq : IsRsq (V x * (iu * iu)) r := by
    refine sticky_sq hw r1 r2 ?_ hZ hr
    by_cases hc : w * w = n
    · left; exact ⟨by simp [hc], hc⟩
    · right; exact ⟨by simp [hc], hc⟩
  -- the root of a float is no infinity
  have hfin : r < infR := by
    apply Classical.byContradiction
    intro hge
    have hge' : infR ≤ r := by omega
    obtain ⟨s, rfl⟩ : ∃ s, r = s + 1 := ⟨r - 1, by unfold infR at hge'; omega⟩
    have h1 := hsq.1 s rfl
    have h2 : (val infR : Rat) ≤ val (s + 1) := valR_le hge'
    have h3 : (0 : Rat) ≤ val s := valR_nonneg s
    have h4 : (val infR : Rat) * val infR ≤ ((val s : Rat) + val (s + 1)) * ((val s : Rat) + val (s + 1)) := mul_self_le (valR_nonneg _) (by grind)
    have h5 : (val (rg x) : Rat) ≤ val infR := valR_le (Nat.le_of_lt hx)
    have h6 : V x = (val (rg x) : Rat) * u := by unfold V; rw [hs]; simp
    have h7 : (val infR : Rat) * val infR ≤ 4 * (V x * (iu * iu)) := by grind
    have h8 : V x * (iu * iu) = (val (rg x) : Rat) * iu := by
      have := u_iu
      rw [h6]
      have : (val (rg x) : Rat) * u * (iu * iu) = (val (rg x) : Rat) * (u * iu) * iu := by grind
      rw [this, u_iu, Rat.mul_one]
    rw [h8] at h7
    have h9 := Rat.mul_le_mul_of_nonneg_right h5 (Rat.le_of_lt iu_pos)
    have h10 : (val infR : Rat) * val infR ≤ (val infR : Rat) * (4 * iu) := by grind
    have hpos : (0 : Rat) < val infR := by have := valR_lt (show 0 < infR by decide); have := valR_nonneg 0; grind
    have h11 := Rat.le_of_mul_le_mul_left h10 hpos
    -- 2^(1024+1074) against 4 * 2^1074
    obtain ⟨k2, hk2⟩ : ∃ k2 : Nat, k2 = 2046 := ⟨2046, rfl⟩
    have h12 : val infR = 4503599627370496 * 2 ^ k2 := by
      have := val_form k2 4503599627370496 (.inr ⟨by omega, by omega⟩)
      rw [← this, hk2]
    obtain ⟨k1, hk1⟩ : ∃ k1 : Nat, (k1 : Int) = 1074 := ⟨1074, rfl⟩
    have h13 : iu = ((2 ^ k1 : Nat) : Rat) := by unfold iu; rw [← hk1, castPow, zpow_nat]
    rw [h12, h13] at h11
    have h14 : ((4503599627370496 * 2 ^ k2 : Nat) : Rat) ≤ ((4 * 2 ^ k1 : Nat) : Rat) := by rw [Rat.natCast_mul 4]; exact h11
    rw [Rat.natCast_le_natCast] at h14
    have h15 : 2 ^ k1 ≤ 2 ^ k2 := Nat.pow_le_pow_right (by omega) (by omega)
    have h16 : 0 < 2 ^ k1 := Nat.two_pow_pos _
    generalize 2 ^ k1 = A at *
    generalize 2 ^ k2 = B at *
    omega
  have hmin : min r F64.infRung = r := by rw [F64_infRung]; unfold infR at hfin; omega
  rw [hmin] at he
  have hfs : fsqrt x = r := by rw [hke, he]; rfl
  refine ⟨r, hfin, hfs, ?_, hsq⟩
  rw [hke, he, V_word false (Nat.le_of_lt hfin)]; simp
theorem sqrt_zero {x : Nat} (h : V x = 0) (hx : fin x) : V (fsqrt x) = 0 ∧ fin (fsqrt x) := by
  have h1 := V_zero_mag.1 h
  obtain ⟨m, p, e1, v1⟩ := read_fin hx
  have hm : m = 0 := by
    rw [h1] at v1
    have : val 0 = 0 := by simp [val]
    rw [this] at v1
    rcases Nat.mul_eq_zero.1 v1 with h | h
    · exact h
    · have := Nat.two_pow_pos p; omega
  have : fsqrt x = F64.word (sg x) 0 := by
    unfold fsqrt Ieee.Format.sqrt
    rw [e1, hm]
    simp [Ieee.Datum.root, fo, Ieee.Format.write, Ieee.Format.nearest]
  rw [this]
  refine ⟨?_, ?_⟩
  · rw [V_zero_mag, rg_word _ (by decide)]
  · unfold fin; rw [rg_word _ (by decide)]; decide
end
end Go.Proofs.Ythopjahoaljhaaa.X

/-! ## Laws of rounding: order, error, exactness, powers of two; the order of words. -/
set_option linter.unusedVariables false
set_option linter.unusedSimpArgs false
namespace Go.Proofs.Ythopjahoaljhaaa.X
open Go
noncomputable section

/-! ### Order -/
theorem rs_nonneg {q : Rat} (h : 0 ≤ q) : 0 ≤ rs q := by
  unfold rs; rw [if_neg (by grind)]
  exact Rat.mul_nonneg (valR_nonneg _) (Rat.le_of_lt u_pos)
theorem rs_nonneg_eq {q : Rat} (h : 0 ≤ q) : rs q = (val (min (rr (q * iu)) infR) : Rat) * u := by
  unfold rs; rw [if_neg (by grind)]
theorem rs_mono_pos {p q : Rat} (hp : 0 ≤ p) (h : p ≤ q) : rs p ≤ rs q := by
  rw [rs_nonneg_eq hp, rs_nonneg_eq (by grind)]
  have hi := Rat.le_of_lt iu_pos
  have h1 := isR_mono (rr_spec (Rat.mul_nonneg hp hi)) (rr_spec (Rat.mul_nonneg (show 0 ≤ q by grind) hi)) (Rat.mul_le_mul_of_nonneg_right h hi)
  exact Rat.mul_le_mul_of_nonneg_right (valR_le (by omega)) (Rat.le_of_lt u_pos)
theorem rs_mono {p q : Rat} (h : p ≤ q) : rs p ≤ rs q := by
  by_cases hp : 0 ≤ p
  · exact rs_mono_pos hp h
  · by_cases hq : 0 ≤ q
    · have h1 := rs_nonneg hq
      have h2 := rs_nonneg (q := -p) (by grind)
      rw [rs_neg] at h2; grind
    · have := rs_mono_pos (p := -q) (q := -p) (by grind) (by grind)
      rw [rs_neg, rs_neg] at this; grind
theorem V_pos_of {x : Nat} (h : sg x = false) : V x = (val (rg x) : Rat) * u := by unfold V; rw [h]; simp
theorem V_neg_of {x : Nat} (h : sg x = true) : V x = -((val (rg x) : Rat) * u) := by unfold V; rw [h]; simp
theorem rs_val {r : Nat} (h : r ≤ infR) : rs ((val r : Rat) * u) = (val r : Rat) * u := by
  rw [rs_pos (valR_nonneg r) (isR_val r), Nat.min_eq_left h]
theorem rs_V {x : Nat} (h : rg x ≤ infR) : rs (V x) = V x := by
  cases hs : sg x
  · rw [V_pos_of hs, rs_val h]
  · rw [V_neg_of hs, rs_neg, rs_val h]

/-! ### Great bounds -/
/-- A number that no step here comes to. -/
def bnd : Rat := (2 : Rat) ^ (1000 : Int)
theorem bnd_pos : 0 < bnd := two_zpow_pos _
theorem ex_rung (e N : Nat) (h : N ≤ 9007199254740992) : ∃ r, val r = N * 2 ^ e := by
  induction e generalizing N with
  | zero => exact ⟨N, by rw [val_small h]; simp⟩
  | succ e ih =>
    by_cases hN : 4503599627370496 ≤ N
    · exact ⟨_, val_form (e + 1) N (.inr ⟨hN, h⟩)⟩
    · obtain ⟨r, hr⟩ := ih (2 * N) (by omega)
      exact ⟨r, by rw [hr, Nat.pow_succ]; rw [Nat.mul_comm 2 N, Nat.mul_assoc, Nat.mul_comm 2]⟩
theorem u_mul (e : Nat) : ((2 ^ e : Nat) : Rat) * u = 2 ^ ((e : Int) - 1074) := by
  unfold u; rw [castPow, ← zpow_nat, ← Rat.zpow_add two_ne]; rfl
theorem zpow_le {a b : Int} (h : a ≤ b) : (2 : Rat) ^ a ≤ 2 ^ b := by
  obtain ⟨d, rfl⟩ : ∃ d : Nat, b = a + d := ⟨(b - a).toNat, by omega⟩
  rw [Rat.zpow_add two_ne, zpow_nat]
  have h1 : (1 : Rat) ≤ 2 ^ d := by rw [← castPow]; exact_mod_cast Nat.one_le_two_pow
  have := Rat.mul_le_mul_of_nonneg_left h1 (Rat.le_of_lt (two_zpow_pos a))
  grind
theorem zpow_lt {a b : Int} (h : a < b) : (2 : Rat) ^ a < 2 ^ b := by
  have h1 := zpow_le (show a + 1 ≤ b by omega)
  have h2 : (2 : Rat) ^ (a + 1) = 2 * 2 ^ a := by rw [Rat.zpow_add two_ne, Rat.zpow_one, Rat.mul_comm]
  have := two_zpow_pos a
  grind
theorem inf_val : (val infR : Rat) * u = 2 ^ (1024 : Int) := by
  obtain ⟨k, hk⟩ : ∃ k : Nat, k = 2046 := ⟨2046, rfl⟩
  have h1 : val infR = 4503599627370496 * 2 ^ k := by
    have := val_form k 4503599627370496 (.inr ⟨by omega, by omega⟩)
    rw [← this, hk]
  have h2 : 4503599627370496 * 2 ^ k = 2 ^ (52 + k) := by rw [Nat.pow_add]
  have h3 : ((52 + k : Nat) : Int) - 1074 = 1024 := by omega
  rw [h1, h2, u_mul, h3]
theorem bnd_lt_inf : bnd < (val infR : Rat) * u := by rw [inf_val]; exact zpow_lt (by omega)
theorem rs_bnd : rs bnd = bnd := by
  obtain ⟨k, hk⟩ : ∃ k : Nat, k = 2074 := ⟨2074, rfl⟩
  obtain ⟨r, hr⟩ := ex_rung k 1 (by omega)
  have h1 : bnd = (val r : Rat) * u := by
    have h3 : (k : Int) - 1074 = 1000 := by omega
    rw [hr, Nat.one_mul, u_mul, h3]; rfl
  rw [h1]
  refine rs_val ?_
  have h2 := bnd_lt_inf
  rw [h1] at h2
  have h3 := (Rat.mul_lt_mul_right u_pos).1 h2
  have h4 : val r < val infR := by exact_mod_cast h3
  exact Nat.le_of_lt (val_lt_iff.1 h4)
theorem rs_le_bnd {q : Rat} (h : q ≤ bnd) : rs q ≤ bnd := by have := rs_mono h; rw [rs_bnd] at this; exact this
theorem bnd_le_rs {q : Rat} (h : -bnd ≤ q) : -bnd ≤ rs q := by have := rs_mono h; rw [rs_neg, rs_bnd] at this; exact this
theorem fin_of {x : Nat} (h : rg x ≤ infR) (h1 : V x ≤ bnd) (h2 : -bnd ≤ V x) : fin x := by
  apply Classical.byContradiction
  intro hn
  have he : rg x = infR := by unfold fin at hn; omega
  have hb := bnd_lt_inf
  cases hs : sg x
  · rw [V_pos_of hs, he] at h1; grind
  · rw [V_neg_of hs, he] at h2; grind
/-- A result within the bound: a number, and its value. -/
theorem Res.fin {w : Nat} {q : Rat} (h : Res w q) (h1 : q ≤ bnd) (h2 : -bnd ≤ q) : fin w :=
  fin_of h.le (by rw [h.v]; exact rs_le_bnd h1) (by rw [h.v]; exact bnd_le_rs h2)

/-- Below the bound nothing is cut off. -/
theorem rs_rr {q : Rat} (h : 0 ≤ q) (hb : q ≤ bnd) : rs q = (val (rr (q * iu)) : Rat) * u ∧ IsR (q * iu) (rr (q * iu)) := by
  have hq : 0 ≤ q * iu := Rat.mul_nonneg h (Rat.le_of_lt iu_pos)
  refine ⟨?_, rr_spec hq⟩
  have h1 := rs_nonneg_eq h
  have h2 := rs_le_bnd hb
  have h3 : rr (q * iu) ≤ infR := by
    apply Classical.byContradiction
    intro hn
    rw [Nat.min_eq_right (by omega)] at h1
    have := bnd_lt_inf
    grind
  rw [h1, Nat.min_eq_left h3]

/-! ### Error -/
/-- 2^-53. -/
def eps : Rat := 1 / 9007199254740992
theorem eps_pos : 0 < eps := by unfold eps; grind
theorem gap_le (r : Nat) : (val (r + 1) : Rat) - val r ≤ 1 + val r * (2 * eps) ∧ (4503599627370496 ≤ r → (val (r + 1) : Rat) - val r ≤ val r * (2 * eps)) := by
  obtain ⟨e, K, hr, h⟩ := rung_form r
  have h1 : val r = K * 2 ^ e := by rw [hr]; exact val_form e K (by omega)
  have h2 : val (r + 1) = (K + 1) * 2 ^ e := by
    rw [hr, show e * 4503599627370496 + K + 1 = e * 4503599627370496 + (K + 1) by omega]
    exact val_form e (K + 1) (by omega)
  have h3 : val (r + 1) = val r + 2 ^ e := by rw [h1, h2, Nat.add_mul]; omega
  have h4 : (val (r + 1) : Rat) - val r = ((2 ^ e : Nat) : Rat) := by rw [h3]; push_cast; grind
  have big : 4503599627370496 ≤ K → ((2 ^ e : Nat) : Rat) ≤ val r * (2 * eps) := by
    intro hK
    have h5 : 4503599627370496 * 2 ^ e ≤ val r := by rw [h1]; exact Nat.mul_le_mul_right _ hK
    have h6 : ((4503599627370496 * 2 ^ e : Nat) : Rat) ≤ val r := by exact_mod_cast h5
    rw [Rat.natCast_mul] at h6
    unfold eps; grind
  rw [h4]
  constructor
  · rcases h with ⟨rfl, _⟩ | ⟨hK, _⟩
    · have := valR_nonneg r
      have := Rat.mul_nonneg this (show 0 ≤ 2 * eps by unfold eps; grind)
      simp; grind
    · have := big hK; grind
  · intro hr'
    exact big (by omega)
theorem isR_err {Q : Rat} (hQ : 0 ≤ Q) {r : Nat} (h : IsR Q r) : (val r : Rat) ≤ Q + Q * eps + 1 / 2 ∧ Q ≤ (val r : Rat) + Q * eps + 1 / 2 ∧
    (4503599627370496 ≤ Q → (val r : Rat) ≤ Q + Q * eps ∧ Q ≤ (val r : Rat) + Q * eps) := by
  have hep := eps_pos
  have hQe := Rat.mul_nonneg hQ (Rat.le_of_lt hep)
  have hbig : 4503599627370496 ≤ Q → 4503599627370496 ≤ r := by
    intro hb
    refine isR_mono (isR_val 4503599627370496) h ?_
    have : val 4503599627370496 = 4503599627370496 := val_small (by omega)
    rw [this]; simpa using hb
  by_cases hc : (val r : Rat) ≤ Q
  · have h2 : 2 * Q ≤ (val r : Rat) + val (r + 1) := by rcases h.2 with h | ⟨h, _⟩ <;> grind
    have g := gap_le r
    have m := Rat.mul_le_mul_of_nonneg_right hc (Rat.le_of_lt hep)
    refine ⟨by grind, by grind, fun hb => ⟨by grind, ?_⟩⟩
    have := g.2 (hbig hb)
    grind
  · have hr0 : r ≠ 0 := by
      intro h0; subst h0
      have : (val 0 : Rat) = 0 := by simp [val]
      grind
    obtain ⟨s, rfl⟩ : ∃ s, r = s + 1 := ⟨r - 1, by omega⟩
    have h1 : (val s : Rat) + val (s + 1) ≤ 2 * Q := by rcases h.1 s rfl with h | ⟨h, _⟩ <;> grind
    have hs : (val s : Rat) ≤ Q := by have := valR_lt (show s < s + 1 by omega); grind
    have g := gap_le s
    have m := Rat.mul_le_mul_of_nonneg_right hs (Rat.le_of_lt hep)
    refine ⟨by grind, by grind, fun hb => ⟨?_, by grind⟩⟩
    have hsb : 4503599627370496 ≤ s := by
      have := hbig hb
      apply Classical.byContradiction
      intro hn
      have : s + 1 = 4503599627370496 := by omega
      rw [this, val_small (by omega)] at hc
      exact hc (by simpa using hb)
    have := g.2 hsb
    grind
/-- The error of rounding. -/
theorem rs_err {q : Rat} (h : 0 ≤ q) (hb : q ≤ bnd) : rs q ≤ q + q * eps + u / 2 ∧ q ≤ rs q + q * eps + u / 2 := by
  obtain ⟨h1, h2⟩ := rs_rr h hb
  have h3 := isR_err (Rat.mul_nonneg h (Rat.le_of_lt iu_pos)) h2
  rw [h1]
  have e1 : q = q * iu * u := by rw [Rat.mul_assoc, iu_u, Rat.mul_one]
  have hu := u_pos
  generalize q * iu = Q at *
  have a := Rat.mul_le_mul_of_nonneg_right h3.1 (Rat.le_of_lt hu)
  have b := Rat.mul_le_mul_of_nonneg_right h3.2.1 (Rat.le_of_lt hu)
  rw [e1]
  constructor <;> grind
/-- 2^-1022: from here on the numbers are normal. -/
def nrm : Rat := 4503599627370496 * u
theorem nrm_pos : 0 < nrm := Rat.mul_pos (by decide) u_pos
theorem rs_err_nrm {q : Rat} (h : nrm ≤ q) (hb : q ≤ bnd) : rs q ≤ q + q * eps ∧ q ≤ rs q + q * eps := by
  have h0 : 0 ≤ q := by have := nrm_pos; grind
  obtain ⟨h1, h2⟩ := rs_rr h0 hb
  have h3 := isR_err (Rat.mul_nonneg h0 (Rat.le_of_lt iu_pos)) h2
  rw [h1]
  have e1 : q = q * iu * u := by rw [Rat.mul_assoc, iu_u, Rat.mul_one]
  have hu := u_pos
  have hn : 4503599627370496 ≤ q * iu := by
    have a := Rat.mul_le_mul_of_nonneg_right h (Rat.le_of_lt iu_pos)
    unfold nrm at a
    rw [Rat.mul_assoc, u_iu, Rat.mul_one] at a
    exact a
  have h4 := h3.2.2 hn
  generalize q * iu = Q at *
  have a := Rat.mul_le_mul_of_nonneg_right h4.1 (Rat.le_of_lt hu)
  have b := Rat.mul_le_mul_of_nonneg_right h4.2 (Rat.le_of_lt hu)
  rw [e1]
  constructor <;> grind

/-! ### Numbers that floats have -/
theorem rs_rep {N : Nat} (hN : N ≤ 9007199254740992) {k : Int} (hk : -1074 ≤ k) (hb : (N : Rat) * 2 ^ k ≤ bnd) : rs ((N : Rat) * 2 ^ k) = (N : Rat) * 2 ^ k := by
  obtain ⟨e, he⟩ : ∃ e : Nat, k = (e : Int) - 1074 := ⟨(k + 1074).toNat, by omega⟩
  obtain ⟨r, hr⟩ := ex_rung e N hN
  have h1 : (N : Rat) * 2 ^ k = (val r : Rat) * u := by rw [hr, Rat.natCast_mul, Rat.mul_assoc, u_mul, he]
  rw [h1] at hb ⊢
  refine rs_val ?_
  have h2 := bnd_lt_inf
  have h3 := (Rat.mul_lt_mul_right u_pos).1 (show (val r : Rat) * u < (val infR : Rat) * u by grind)
  have h4 : val r < val infR := by exact_mod_cast h3
  exact Nat.le_of_lt (val_lt_iff.1 h4)

/-! ### Powers of two -/
theorem val_up {r : Nat} (h : 4503599627370496 ≤ r) (k : Nat) : val (r + k * 4503599627370496) = val r * 2 ^ k := by
  obtain ⟨e, K, hr, hK⟩ := rung_form r
  have hK' : 4503599627370496 ≤ K := by omega
  rw [hr, val_form e K (by omega), show e * 4503599627370496 + K + k * 4503599627370496 = (e + k) * 4503599627370496 + K by omega, val_form (e + k) K (.inr ⟨hK', by omega⟩), Nat.pow_add, Nat.mul_assoc]
theorem isR_up {Q : Rat} (hQ : 4503599627370496 ≤ Q) {r : Nat} (h : IsR Q r) (k : Nat) : IsR (Q * 2 ^ k) (r + k * 4503599627370496) := by
  have hr : 4503599627370496 ≤ r := by
    refine isR_mono (isR_val 4503599627370496) h ?_
    have : val 4503599627370496 = 4503599627370496 := val_small (by omega)
    rw [this]; simpa using hQ
  have hk := two_pow_pos k
  have up : ∀ s, 4503599627370496 ≤ s → (val (s + k * 4503599627370496) : Rat) = val s * 2 ^ k := by
    intro s hs; rw [val_up hs, Rat.natCast_mul, castPow]
  have par : (r + k * 4503599627370496) % 2 = r % 2 := by omega
  constructor
  · intro s hs
    by_cases hr2 : r = 4503599627370496
    · left
      have h1 : (val s : Rat) < val (r + k * 4503599627370496) := valR_lt (by omega)
      rw [up r hr] at h1 ⊢
      have h2 : val r = 4503599627370496 := by rw [hr2]; exact val_small (by omega)
      rw [h2] at h1 ⊢
      have := Rat.mul_le_mul_of_nonneg_right hQ (Rat.le_of_lt hk)
      push_cast at *
      grind
    · obtain ⟨t, rfl⟩ : ∃ t, r = t + 1 := ⟨r - 1, by omega⟩
      have hs' : s = t + k * 4503599627370496 := by omega
      rw [hs', up t (by omega), up (t + 1) hr, par]
      rcases h.1 t rfl with h1 | ⟨h1, p⟩
      · left
        have := Rat.mul_lt_mul_of_pos_right h1 hk
        grind
      · right
        refine ⟨?_, p⟩
        have : ((val t : Rat) + val (t + 1)) * 2 ^ k = 2 * Q * 2 ^ k := by rw [h1]
        grind
  · rw [show r + k * 4503599627370496 + 1 = (r + 1) + k * 4503599627370496 by omega, up r hr, up (r + 1) (by omega), par]
    rcases h.2 with h1 | ⟨h1, p⟩
    · left
      have := Rat.mul_lt_mul_of_pos_right h1 hk
      grind
    · right
      refine ⟨?_, p⟩
      have : ((val r : Rat) + val (r + 1)) * 2 ^ k = 2 * Q * 2 ^ k := by rw [h1]
      grind
theorem rs_up {q : Rat} (hq : nrm ≤ q) (k : Nat) (hb : q * 2 ^ k ≤ bnd) : rs (q * 2 ^ k) = rs q * 2 ^ k := by
  have h0 : 0 ≤ q := by have := nrm_pos; grind
  have hk := two_pow_pos k
  have h1k : (1 : Rat) ≤ 2 ^ k := by rw [← castPow]; exact_mod_cast Nat.one_le_two_pow
  have hle : q ≤ q * 2 ^ k := by have := Rat.mul_le_mul_of_nonneg_left h1k h0; grind
  obtain ⟨a1, a2⟩ := rs_rr h0 (show q ≤ bnd by grind)
  obtain ⟨b1, b2⟩ := rs_rr (Rat.mul_nonneg h0 (Rat.le_of_lt hk)) hb
  have hn : 4503599627370496 ≤ q * iu := by
    have a := Rat.mul_le_mul_of_nonneg_right hq (Rat.le_of_lt iu_pos)
    unfold nrm at a
    rw [Rat.mul_assoc, u_iu, Rat.mul_one] at a
    exact a
  have c := isR_up hn a2 k
  have e : q * iu * 2 ^ k = q * 2 ^ k * iu := by grind
  rw [e] at c
  have hu := isR_uniq b2 c
  have hr : 4503599627370496 ≤ rr (q * iu) := by
    refine isR_mono (isR_val 4503599627370496) a2 ?_
    have : val 4503599627370496 = 4503599627370496 := val_small (by omega)
    rw [this]; simpa using hn
  rw [b1, hu, val_up hr, a1, Rat.natCast_mul, castPow]; grind
end
end Go.Proofs.Ythopjahoaljhaaa.X

/-! ## The order of words is that of what they stand for. -/
set_option linter.unusedVariables false
set_option linter.unusedSimpArgs false
namespace Go.Proofs.Ythopjahoaljhaaa.X
open Go
noncomputable section

/-- A word that is no NaN. -/
def num (x : Nat) : Prop := rg x ≤ infR
theorem num_of_fin {x : Nat} (h : fin x) : num x := Nat.le_of_lt h
theorem isN_num {x : Nat} : isN x = false ↔ num x := by
  rw [isN_iff]; unfold num; simp
theorem Res.num {w : Nat} {q : Rat} (h : Res w q) : num w := h.le
theorem read_inf {x : Nat} (h : rg x = infR) : F64.read x = .infinity (sg x) := by
  have h' : x % 9223372036854775808 = 9218868437227405312 := h
  unfold Ieee.Format.read sg
  simp only [F64_infRung, F64_binade, F64_signWeight, h']
  rfl
theorem V_lt_inf {x : Nat} (h : fin x) : V x < (val infR : Rat) * u ∧ -((val infR : Rat) * u) < V x := by
  have h1 := Rat.mul_lt_mul_of_pos_right (valR_lt h) u_pos
  have h2 : 0 ≤ (val (rg x) : Rat) * u := Rat.mul_nonneg (valR_nonneg _) (Rat.le_of_lt u_pos)
  unfold V
  cases sg x <;> simp <;> grind

/-- Which way a comparison of rational numbers goes. -/
def cmpR (a b : Rat) : Ordering := if a < b then .lt else if a = b then .eq else .gt
theorem cmpR_int (A B : Int) {T : Rat} (hT : 0 < T) : compare A B = cmpR ((A : Rat) * T) ((B : Rat) * T) := by
  unfold cmpR
  have h1 : ((A : Rat) * T < (B : Rat) * T) ↔ A < B := by rw [Rat.mul_lt_mul_right hT, Rat.intCast_lt_intCast]
  have h2 : ((A : Rat) * T = (B : Rat) * T) ↔ A = B := by
    constructor
    · intro h
      have a1 : ¬ ((A : Rat) * T < (B : Rat) * T) := by grind
      have a2 : ¬ ((B : Rat) * T < (A : Rat) * T) := by grind
      rw [Rat.mul_lt_mul_right hT, Rat.intCast_lt_intCast] at a1 a2
      omega
    · intro h; rw [h]
  by_cases c1 : A < B
  · rw [if_pos (h1.2 c1), Int.compare_eq_lt.2 c1]
  · rw [if_neg (fun h => c1 (h1.1 h))]
    by_cases c2 : A = B
    · rw [if_pos (h2.2 c2), Int.compare_eq_eq.2 c2]
    · rw [if_neg (fun h => c2 (h2.1 h)), Int.compare_eq_gt.2 (by omega)]
theorem order_fin {x y : Nat} (hx : fin x) (hy : fin y) : F64.order x y = some (cmpR (V x) (V y)) := by
  obtain ⟨m, p, e1, v1⟩ := read_fin hx
  obtain ⟨n, q, e2, v2⟩ := read_fin hy
  have w1 := V_number rfl v1
  have w2 := V_number rfl v2
  unfold Ieee.Format.order
  rw [e1, e2, w1, w2]
  simp only [Ieee.Datum.order]
  obtain ⟨b, a, c, hb, ha, hc, h1, h2⟩ : ∃ b a c : Nat, min (-1074 + (p : Int)) (-1074 + (q : Int)) = -1074 + (b : Int) ∧ (-1074 + (p : Int) - (-1074 + (b : Int))).toNat = a ∧ (-1074 + (q : Int) - (-1074 + (b : Int))).toNat = c ∧ p = b + a ∧ q = b + c :=
    ⟨min p q, p - min p q, q - min p q, by omega, by omega, by omega, by omega, by omega⟩
  simp only [hb, ha, hc]
  rw [cmpR_int _ _ (two_zpow_pos (-1074 + (b : Int))), signed_rat, signed_rat]
  have k1 : (2 : Rat) ^ (-1074 + (p : Int)) = 2 ^ a * 2 ^ (-1074 + (b : Int)) := by
    rw [← zpow_nat a, ← Rat.zpow_add two_ne]; congr 1; omega
  have k2 : (2 : Rat) ^ (-1074 + (q : Int)) = 2 ^ c * 2 ^ (-1074 + (b : Int)) := by
    rw [← zpow_nat c, ← Rat.zpow_add two_ne]; congr 1; omega
  rw [k1, k2]
  congr 2
  · cases sg x <;> simp only [Bool.false_eq_true, if_false, if_true] <;> grind
  · cases sg y <;> simp only [Bool.false_eq_true, if_false, if_true] <;> grind
theorem order_num {x y : Nat} (hx : num x) (hy : num y) : F64.order x y = some (cmpR (V x) (V y)) := by
  have hp : (0 : Rat) < (val infR : Rat) * u := by rw [inf_val]; exact two_zpow_pos _
  by_cases fx : fin x
  · by_cases fy : fin y
    · exact order_fin fx fy
    · have ey : rg y = infR := by unfold num at hy; unfold fin at fy; omega
      obtain ⟨m, p, e1, v1⟩ := read_fin fx
      have b := V_lt_inf fx
      unfold Ieee.Format.order
      rw [e1, read_inf ey]
      simp only [Ieee.Datum.order]
      cases hs : sg y
      · rw [V_pos_of hs, ey]; simp only [Bool.false_eq_true, if_false]; unfold cmpR; rw [if_pos b.1]
      · rw [V_neg_of hs, ey]; simp only [if_true]; unfold cmpR; rw [if_neg (by grind), if_neg (by grind)]
  · have ex : rg x = infR := by unfold num at hx; unfold fin at fx; omega
    by_cases fy : fin y
    · obtain ⟨m, p, e1, v1⟩ := read_fin fy
      have b := V_lt_inf fy
      unfold Ieee.Format.order
      rw [e1, read_inf ex]
      simp only [Ieee.Datum.order]
      cases hs : sg x
      · rw [V_pos_of hs, ex]; simp only [Bool.false_eq_true, if_false]; unfold cmpR; rw [if_neg (by grind), if_neg (by grind)]
      · rw [V_neg_of hs, ex]; simp only [if_true]; unfold cmpR; rw [if_pos b.2]
    · have ey : rg y = infR := by unfold num at hy; unfold fin at fy; omega
      unfold Ieee.Format.order
      rw [read_inf ex, read_inf ey]
      simp only [Ieee.Datum.order]
      cases hs : sg x <;> cases ht : sg y
      · rw [V_pos_of hs, V_pos_of ht, ex, ey]; unfold cmpR; rw [if_neg (by grind), if_pos rfl]; rfl
      · rw [V_pos_of hs, V_neg_of ht, ex, ey]; unfold cmpR; rw [if_neg (by grind), if_neg (by grind)]; rfl
      · rw [V_neg_of hs, V_pos_of ht, ex, ey]; unfold cmpR; rw [if_pos (by grind)]; rfl
      · rw [V_neg_of hs, V_neg_of ht, ex, ey]; unfold cmpR; rw [if_neg (by grind), if_pos rfl]; rfl
theorem fLt_iff {x y : Nat} (hx : num x) (hy : num y) : fLt x y = true ↔ V x < V y := by
  unfold fLt; rw [order_num hx hy]; unfold cmpR
  by_cases h : V x < V y
  · simp [h]
  · by_cases h2 : V x = V y
    · simp [h2]
    · simp [h, h2]
theorem fEq_iff {x y : Nat} (hx : num x) (hy : num y) : fEq x y = true ↔ V x = V y := by
  unfold fEq; rw [order_num hx hy]; unfold cmpR
  by_cases h : V x < V y
  · rw [if_pos h]; simp; grind
  · by_cases h2 : V x = V y
    · simp [h2]
    · simp [h, h2]
theorem fGt_iff {x y : Nat} (hx : num x) (hy : num y) : fGt x y = true ↔ V y < V x := by
  unfold fGt; rw [order_num hx hy]; unfold cmpR
  by_cases h : V x < V y
  · rw [if_pos h]; simp; grind
  · by_cases h2 : V x = V y
    · simp [h2]
    · rw [if_neg h, if_neg h2]; simp; grind
theorem fLe_iff {x y : Nat} (hx : num x) (hy : num y) : fLe x y = true ↔ V x ≤ V y := by
  have h1 := fLt_iff hx hy
  have h2 := fEq_iff hx hy
  unfold fLt at h1; unfold fEq at h2; unfold fLe
  rw [Bool.or_eq_true, h1, h2]; grind
theorem fGe_iff {x y : Nat} (hx : num x) (hy : num y) : fGe x y = true ↔ V y ≤ V x := by
  have h1 := fGt_iff hx hy
  have h2 := fEq_iff hx hy
  unfold fGt at h1; unfold fEq at h2; unfold fGe
  rw [Bool.or_eq_true, h1, h2]; grind
theorem fNe_iff {x y : Nat} (hx : num x) (hy : num y) : fNe x y = true ↔ V x ≠ V y := by
  have h2 := fEq_iff hx hy
  unfold fEq at h2; unfold fNe
  rw [bne, Bool.not_eq_true', ← Bool.not_eq_true, h2]
/-! With a NaN all are false. -/
theorem order_nan {x y : Nat} (h : isN x = true ∨ isN y = true) : F64.order x y = none := by
  unfold Ieee.Format.order
  rcases h with h | h
  · obtain ⟨s, t, e⟩ := read_nan h; rw [e, order_nan_left]
  · obtain ⟨s, t, e⟩ := read_nan h; rw [e, order_nan_right]
theorem num_of_order {x y : Nat} {o : Ordering} (h : F64.order x y = some o) : num x ∧ num y := by
  constructor
  · rw [← isN_num]
    cases hx : isN x with
    | false => rfl
    | true => rw [order_nan (.inl hx)] at h; cases h
  · rw [← isN_num]
    cases hx : isN y with
    | false => rfl
    | true => rw [order_nan (.inr hx)] at h; cases h
theorem num_of_fLe {x y : Nat} (h : fLe x y = true) : num x ∧ num y := by
  unfold fLe at h
  cases hc : F64.order x y with
  | none => rw [hc] at h; cases h
  | some o => exact num_of_order hc
theorem num_of_fGe {x y : Nat} (h : fGe x y = true) : num x ∧ num y := by
  unfold fGe at h
  cases hc : F64.order x y with
  | none => rw [hc] at h; cases h
  | some o => exact num_of_order hc
theorem num_of_fLt {x y : Nat} (h : fLt x y = true) : num x ∧ num y := by
  unfold fLt at h
  cases hc : F64.order x y with
  | none => rw [hc] at h; cases h
  | some o => exact num_of_order hc
theorem num_of_fGt {x y : Nat} (h : fGt x y = true) : num x ∧ num y := by
  unfold fGt at h
  cases hc : F64.order x y with
  | none => rw [hc] at h; cases h
  | some o => exact num_of_order hc
theorem num_of_fEq {x y : Nat} (h : fEq x y = true) : num x ∧ num y := by
  unfold fEq at h
  cases hc : F64.order x y with
  | none => rw [hc] at h; cases h
  | some o => exact num_of_order hc

/-! ### The sign turned -/
theorem negFloat_eq (x : Nat) : rg (Op.negFloat .f64 x) = rg x ∧ sg (Op.negFloat .f64 x) = !sg x := by
  have hk : Op.negFloat .f64 x = x ^^^ 2 ^ 63 := rfl
  rw [hk]
  constructor
  · unfold rg
    rw [show (9223372036854775808 : Nat) = 2 ^ 63 by decide, Nat.xor_mod_two_pow]; simp
  · have t := Nat.testBit_xor x (2 ^ 63) 63
    have b : ∀ z : Nat, sg z = z.testBit 63 := by
      intro z
      rw [Nat.testBit_eq_decide_div_mod_eq]
      rfl
    rw [b, b, t, Nat.testBit_two_pow_self]
    cases x.testBit 63 <;> rfl
theorem V_negFloat (x : Nat) : V (Op.negFloat .f64 x) = -V x := by
  obtain ⟨h1, h2⟩ := negFloat_eq x
  unfold V
  rw [h1, h2]
  cases sg x <;> simp
theorem fneg_num {x : Nat} (h : num x) : fneg x = Op.negFloat .f64 x := by
  unfold fneg
  exact nz_of_not (by rw [isN_neg]; exact isN_num.2 h)
theorem V_fneg {x : Nat} (h : num x) : V (fneg x) = -V x ∧ num (fneg x) ∧ (fin x → fin (fneg x)) := by
  rw [fneg_num h]
  refine ⟨V_negFloat x, ?_, ?_⟩
  · unfold num; rw [(negFloat_eq x).1]; exact h
  · intro hf; unfold fin; rw [(negFloat_eq x).1]; exact hf
end
end Go.Proofs.Ythopjahoaljhaaa.X

/-! ## Bounds by powers of two; roots: order and error. -/
set_option linter.unusedVariables false
set_option linter.unusedSimpArgs false
namespace Go.Proofs.Ythopjahoaljhaaa.X
open Go
noncomputable section

theorem pow_zpow (k : Nat) : (2 : Rat) ^ k = 2 ^ (k : Int) := (zpow_nat k).symm
theorem pow_le_bnd {k : Nat} (h : k ≤ 1000) : (2 : Rat) ^ k ≤ bnd := by
  rw [pow_zpow]; exact zpow_le (by omega)
theorem rs_pow2 {k : Nat} (h : k ≤ 1000) : rs ((2 : Rat) ^ k) = 2 ^ k := by
  have := rs_rep (N := 1) (by omega) (k := (k : Int)) (by omega) (by simpa [← pow_zpow] using pow_le_bnd h)
  rw [pow_zpow]; simpa using this
theorem rs_one : rs 1 = 1 := by have := rs_pow2 (k := 0) (by omega); simpa using this

/-- A float whose worth, without its sign, is at most 2^k. -/
structure Bd (k : Nat) (x : Nat) : Prop where
  f : fin x
  lo : -((2 : Rat) ^ k) ≤ V x
  hi : V x ≤ 2 ^ k
theorem Bd.num {k x : Nat} (h : Bd k x) : num x := num_of_fin h.f
theorem Bd.mono {j k x : Nat} (h : Bd j x) (hk : j ≤ k) : Bd k x := by
  have : (2 : Rat) ^ j ≤ 2 ^ k := by rw [pow_zpow, pow_zpow]; exact zpow_le (by omega)
  exact ⟨h.f, by have := h.lo; grind, by have := h.hi; grind⟩
theorem Res.bd {w : Nat} {q : Rat} {k : Nat} (h : Res w q) (hk : k ≤ 1000) (h1 : -((2 : Rat) ^ k) ≤ q) (h2 : q ≤ 2 ^ k) : Bd k w := by
  have hb := pow_le_bnd hk
  refine ⟨h.fin (by grind) (by grind), ?_, ?_⟩
  · rw [h.v]; have := rs_mono h1; rw [rs_neg, rs_pow2 hk] at this; exact this
  · rw [h.v]; have := rs_mono h2; rw [rs_pow2 hk] at this; exact this
theorem abs_mul {a b x y : Rat} (h1 : -a ≤ x) (h2 : x ≤ a) (h3 : -b ≤ y) (h4 : y ≤ b) : -(a * b) ≤ x * y ∧ x * y ≤ a * b := by
  have p1 := Rat.mul_nonneg (show 0 ≤ a - x by grind) (show 0 ≤ b - y by grind)
  have p2 := Rat.mul_nonneg (show 0 ≤ a + x by grind) (show 0 ≤ b + y by grind)
  have p3 := Rat.mul_nonneg (show 0 ≤ a - x by grind) (show 0 ≤ b + y by grind)
  have p4 := Rat.mul_nonneg (show 0 ≤ a + x by grind) (show 0 ≤ b - y by grind)
  constructor <;> grind
theorem Bd.add {k x y : Nat} (hx : Bd k x) (hy : Bd k y) (hk : k + 1 ≤ 1000) : Bd (k + 1) (fadd x y) ∧ V (fadd x y) = rs (V x + V y) := by
  have r := add_res hx.f hy.f
  refine ⟨r.bd hk ?_ ?_, r.v⟩
  · rw [Rat.pow_succ]; have := hx.lo; have := hy.lo; grind
  · rw [Rat.pow_succ]; have := hx.hi; have := hy.hi; grind
theorem Bd.sub {k x y : Nat} (hx : Bd k x) (hy : Bd k y) (hk : k + 1 ≤ 1000) : Bd (k + 1) (fsub x y) ∧ V (fsub x y) = rs (V x - V y) := by
  have r := sub_res hx.f hy.f
  refine ⟨r.bd hk ?_ ?_, r.v⟩
  · rw [Rat.pow_succ]; have := hx.lo; have := hy.hi; grind
  · rw [Rat.pow_succ]; have := hx.hi; have := hy.lo; grind
theorem Bd.mul {j k x y : Nat} (hx : Bd j x) (hy : Bd k y) (hk : j + k ≤ 1000) : Bd (j + k) (fmul x y) ∧ V (fmul x y) = rs (V x * V y) := by
  have r := mul_res hx.f hy.f
  have e : (2 : Rat) ^ (j + k) = 2 ^ j * 2 ^ k := by rw [← castPow, Nat.pow_add, Rat.natCast_mul, castPow, castPow]
  have m := abs_mul hx.lo hx.hi hy.lo hy.hi
  exact ⟨r.bd hk (by rw [e]; exact m.1) (by rw [e]; exact m.2), r.v⟩

/-! ### The error of a rounding, of whichever sign -/
theorem rs_abs {q M : Rat} (h1 : -M ≤ q) (h2 : q ≤ M) (hM : M ≤ bnd) : rs q ≤ q + M * eps + u / 2 ∧ q ≤ rs q + M * eps + u / 2 := by
  have he := eps_pos
  by_cases h : 0 ≤ q
  · have := rs_err h (by grind)
    have := Rat.mul_le_mul_of_nonneg_right h2 (Rat.le_of_lt he)
    constructor <;> grind
  · have := rs_err (q := -q) (by grind) (by grind)
    rw [rs_neg] at this
    have := Rat.mul_le_mul_of_nonneg_right (show -q ≤ M by grind) (Rat.le_of_lt he)
    constructor <;> grind

/-! ### Roots -/
theorem sq_le_iff {a b : Rat} (ha : 0 ≤ a) (hb : 0 ≤ b) : a * a ≤ b * b ↔ a ≤ b := ⟨le_of_mul_self hb, mul_self_le ha⟩
theorem sqrt_fin {x : Nat} (hx : fin x) (h : 0 ≤ V x) : fin (fsqrt x) ∧ 0 ≤ V (fsqrt x) := by
  by_cases h0 : V x = 0
  · obtain ⟨h1, h2⟩ := sqrt_zero h0 hx
    exact ⟨h2, by rw [h1]; exact Rat.le_refl⟩
  · obtain ⟨r, h1, h2, h3, h4⟩ := sqrt_res hx (by grind)
    refine ⟨?_, by rw [h3]; exact Rat.mul_nonneg (valR_nonneg _) (Rat.le_of_lt u_pos)⟩
    rw [h2]; unfold fin rg; rw [Nat.mod_eq_of_lt (by unfold infR at h1; omega)]; exact h1
theorem sqrt_le {x : Nat} (hx : fin x) (h : 0 ≤ V x) {R : Rat} (hR : 0 ≤ R) (hle : V x ≤ R * R) : V (fsqrt x) ≤ rs R := by
  by_cases h0 : V x = 0
  · rw [(sqrt_zero h0 hx).1]; exact rs_nonneg hR
  · obtain ⟨r, h1, h2, h3, h4⟩ := sqrt_res hx (by grind)
    have hi := iu_pos
    have hQ : 0 ≤ R * iu := Rat.mul_nonneg hR (Rat.le_of_lt hi)
    rw [h3, rs_nonneg_eq hR]
    have i2 := rr_spec hQ
    generalize rr (R * iu) = r' at *
    have hZ : V x * (iu * iu) ≤ (R * iu) * (R * iu) := by
      have := Rat.mul_le_mul_of_nonneg_right hle (Rat.le_of_lt (Rat.mul_pos hi hi))
      grind
    generalize V x * (iu * iu) = Z at *
    generalize R * iu = Q at *
    have key : r ≤ r' := by
      apply Classical.byContradiction
      intro hn
      obtain ⟨s, rfl⟩ : ∃ s, r = s + 1 := ⟨r - 1, by omega⟩
      have a1 := h4.1 s rfl
      have a2 := i2.2
      have b1 := valR_le (show r' ≤ s by omega)
      have b2 := valR_le (show r' + 1 ≤ s + 1 by omega)
      have n1 := valR_nonneg s
      have n2 := valR_nonneg (s + 1)
      have c1 : ((val s : Rat) + val (s + 1)) * ((val s : Rat) + val (s + 1)) ≤ (2 * Q) * (2 * Q) := by rcases a1 with a | ⟨a, _⟩ <;> grind
      have c2 := le_of_mul_self (by grind) c1
      rcases a2 with a2 | ⟨a2, p2⟩
      · grind
      · have c3 : (val s : Rat) + val (s + 1) = 2 * Q := by grind
        rcases a1 with a1 | ⟨a1, p1⟩
        · rw [c3] at a1; grind
        · have : r' = s := by
            apply Classical.byContradiction
            intro hne
            have := valR_lt (show r' < s by omega)
            grind
          omega
    exact Rat.mul_le_mul_of_nonneg_right (valR_le (by omega)) (Rat.le_of_lt u_pos)
theorem sqrt_ge {x : Nat} (hx : fin x) (h : 0 ≤ V x) {R : Rat} (hR : 0 ≤ R) (hle : R * R ≤ V x) : rs R ≤ V (fsqrt x) := by
  by_cases h0 : V x = 0
  · rw [(sqrt_zero h0 hx).1]
    have : R = 0 := by
      have := le_of_mul_self (a := R) (b := 0) (by grind) (by grind)
      grind
    rw [this, rs_zero]; exact Rat.le_refl
  · obtain ⟨r, h1, h2, h3, h4⟩ := sqrt_res hx (by grind)
    have hi := iu_pos
    have hQ : 0 ≤ R * iu := Rat.mul_nonneg hR (Rat.le_of_lt hi)
    rw [h3, rs_nonneg_eq hR]
    have i2 := rr_spec hQ
    generalize rr (R * iu) = r' at *
    have hZ : (R * iu) * (R * iu) ≤ V x * (iu * iu) := by
      have := Rat.mul_le_mul_of_nonneg_right hle (Rat.le_of_lt (Rat.mul_pos hi hi))
      grind
    generalize V x * (iu * iu) = Z at *
    generalize R * iu = Q at *
    have key : r' ≤ r := by
      apply Classical.byContradiction
      intro hn
      obtain ⟨s, rfl⟩ : ∃ s, r' = s + 1 := ⟨r' - 1, by omega⟩
      have a1 := i2.1 s rfl
      have a2 := h4.2
      have b1 := valR_le (show r ≤ s by omega)
      have b2 := valR_le (show r + 1 ≤ s + 1 by omega)
      have n1 := valR_nonneg r
      have n2 := valR_nonneg (r + 1)
      have c1 : (2 * Q) * (2 * Q) ≤ ((val r : Rat) + val (r + 1)) * ((val r : Rat) + val (r + 1)) := by rcases a2 with a | ⟨a, _⟩ <;> grind
      have c2 := le_of_mul_self (by grind) c1
      rcases a1 with a1 | ⟨a1, p1⟩
      · grind
      · have c3 : (val r : Rat) + val (r + 1) = 2 * Q := by grind
        rcases a2 with a2 | ⟨a2, p2⟩
        · rw [c3] at a2; grind
        · have : r = s := by
            apply Classical.byContradiction
            intro hne
            have := valR_lt (show r < s by omega)
            grind
          omega
    exact Rat.mul_le_mul_of_nonneg_right (valR_le (by omega)) (Rat.le_of_lt u_pos)
/-- A number against the square of its root. -/
theorem sqrt_err {x : Nat} (hx : fin x) (h : 0 ≤ V x) : V x ≤ (V (fsqrt x) * (1 + eps) + u / 2) * (V (fsqrt x) * (1 + eps) + u / 2) := by
  have hu := u_pos
  have he := eps_pos
  by_cases h0 : V x = 0
  · rw [(sqrt_zero h0 hx).1, h0]
    have := Rat.mul_pos hu hu
    grind
  · obtain ⟨r, h1, h2, h3, h4⟩ := sqrt_res hx (by grind)
    have a2 : 4 * (V x * (iu * iu)) ≤ ((val r : Rat) + val (r + 1)) * ((val r : Rat) + val (r + 1)) := by rcases h4.2 with a | ⟨a, _⟩ <;> grind
    have g := (gap_le r).1
    have n1 := valR_nonneg r
    have n2 := valR_nonneg (r + 1)
    have n3 := Rat.mul_nonneg n1 (Rat.le_of_lt he)
    have a3 : ((val r : Rat) + val (r + 1)) * ((val r : Rat) + val (r + 1)) ≤ (2 * val r + 1 + val r * (2 * eps)) * (2 * val r + 1 + val r * (2 * eps)) := mul_self_le (by grind) (by grind)
    have a4 : 4 * (V x * (iu * iu)) ≤ (2 * val r + 1 + val r * (2 * eps)) * (2 * val r + 1 + val r * (2 * eps)) := by grind
    have a5 := Rat.mul_le_mul_of_nonneg_right a4 (Rat.le_of_lt (Rat.mul_pos hu hu))
    have e1 : 4 * (V x * (iu * iu)) * (u * u) = 4 * V x := by
      have : 4 * (V x * (iu * iu)) * (u * u) = 4 * V x * ((iu * u) * (iu * u)) := by grind
      rw [this, iu_u]; grind
    rw [e1] at a5
    rw [h3]
    grind
end
end Go.Proofs.Ythopjahoaljhaaa.X
