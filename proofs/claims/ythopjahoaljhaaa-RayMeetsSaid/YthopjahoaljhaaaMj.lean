/- Whole numbers among the floats: sums, differences and products of small ones are exact. (and what goes with it: 4 parts.) -/
import Derived.Test.YthopjahoaljhaaaMg
import Derived.Test.YthopjahoaljhaaaMi
import Derived.Test.YthopjahoaljhaaaMh
/-! ## Whole numbers among the floats: sums, differences and products of small ones are exact. -/
set_option linter.unusedVariables false
set_option linter.unusedSimpArgs false
namespace Go.Proofs.Ythopjahoaljhaaa.X
open Go
noncomputable section

/-- A float that is a whole number. -/
structure IW (x : Nat) (a : Int) : Prop where
  f : fin x
  v : V x = (a : Rat)
theorem IW.num {x : Nat} {a : Int} (h : IW x a) : num x := num_of_fin h.f
theorem rs_nat {k : Nat} (h : k ≤ 9007199254740992) : rs (k : Rat) = k := by
  have hb := bnd_bigger
  have hk : (k : Rat) ≤ ((9007199254740992 : Nat) : Rat) := by exact_mod_cast h
  have e : (k : Rat) * 2 ^ (0 : Int) = k := by rw [Rat.zpow_zero, Rat.mul_one]
  have := rs_rep h (k := 0) (by omega) (by rw [e]; push_cast at hk; grind)
  rw [e] at this; exact this
theorem rs_int {a : Int} (h1 : -9007199254740992 ≤ a) (h2 : a ≤ 9007199254740992) : rs (a : Rat) = a := by
  rcases Int.le_total 0 a with h | h
  · have := rs_nat (k := a.toNat) (by omega)
    have e : ((a.toNat : Nat) : Rat) = (a : Rat) := by rw [← Rat.intCast_natCast, Int.toNat_of_nonneg h]
    rw [e] at this; exact this
  · have := rs_nat (k := (-a).toNat) (by omega)
    have e : (((-a).toNat : Nat) : Rat) = -(a : Rat) := by rw [← Rat.intCast_natCast, Int.toNat_of_nonneg (by omega), Rat.intCast_neg]
    rw [e, rs_neg] at this; grind
theorem int_bnd {a : Int} (h1 : -9007199254740992 ≤ a) (h2 : a ≤ 9007199254740992) : (a : Rat) ≤ bnd ∧ -bnd ≤ (a : Rat) := by
  have hb := bnd_bigger
  have c1 : (a : Rat) ≤ ((9007199254740992 : Int) : Rat) := Rat.intCast_le_intCast.2 h2
  have c2 : (((-9007199254740992 : Int)) : Rat) ≤ (a : Rat) := Rat.intCast_le_intCast.2 h1
  have e1 : ((9007199254740992 : Int) : Rat) = 9007199254740992 := rfl
  have e2 : (((-9007199254740992 : Int)) : Rat) = -9007199254740992 := rfl
  rw [e1] at c1
  rw [e2] at c2
  constructor <;> grind
theorem IW.of {w : Nat} {q : Rat} {a : Int} (h : Res w q) (hq : q = (a : Rat)) (h1 : -9007199254740992 ≤ a) (h2 : a ≤ 9007199254740992) : IW w a := by
  have b := int_bnd h1 h2
  subst hq
  exact ⟨h.fin b.1 b.2, by rw [h.v, rs_int h1 h2]⟩
theorem IW.add {x y : Nat} {a b : Int} (hx : IW x a) (hy : IW y b) (h1 : -9007199254740992 ≤ a + b) (h2 : a + b ≤ 9007199254740992) : IW (fadd x y) (a + b) :=
  IW.of (add_res hx.f hy.f) (by rw [hx.v, hy.v, Rat.intCast_add]) h1 h2
theorem IW.sub {x y : Nat} {a b : Int} (hx : IW x a) (hy : IW y b) (h1 : -9007199254740992 ≤ a - b) (h2 : a - b ≤ 9007199254740992) : IW (fsub x y) (a - b) :=
  IW.of (sub_res hx.f hy.f) (by rw [hx.v, hy.v, Rat.intCast_sub]) h1 h2
theorem IW.mul {x y : Nat} {a b : Int} (hx : IW x a) (hy : IW y b) (h1 : -9007199254740992 ≤ a * b) (h2 : a * b ≤ 9007199254740992) : IW (fmul x y) (a * b) :=
  IW.of (mul_res hx.f hy.f) (by rw [hx.v, hy.v, Rat.intCast_mul]) h1 h2
theorem IW.neg {x : Nat} {a : Int} (hx : IW x a) : IW (fneg x) (-a) := by
  obtain ⟨h1, h2, h3⟩ := V_fneg hx.num
  exact ⟨h3 hx.f, by rw [h1, hx.v, Rat.intCast_neg]⟩
theorem IW0 : IW 0 0 := ⟨V0.2, by rw [V0.1]; rfl⟩
theorem IW.lt {x y : Nat} {a b : Int} (hx : IW x a) (hy : IW y b) : fLt x y = decide (a < b) := by
  have := fLt_iff hx.num hy.num
  rw [hx.v, hy.v, Rat.intCast_lt_intCast] at this
  rw [Bool.eq_iff_iff, this, decide_eq_true_iff]
theorem IW.gt {x y : Nat} {a b : Int} (hx : IW x a) (hy : IW y b) : fGt x y = decide (b < a) := by
  have := fGt_iff hx.num hy.num
  rw [hx.v, hy.v, Rat.intCast_lt_intCast] at this
  rw [Bool.eq_iff_iff, this, decide_eq_true_iff]
theorem IW.le {x y : Nat} {a b : Int} (hx : IW x a) (hy : IW y b) : fLe x y = decide (a ≤ b) := by
  have := fLe_iff hx.num hy.num
  rw [hx.v, hy.v, Rat.intCast_le_intCast] at this
  rw [Bool.eq_iff_iff, this, decide_eq_true_iff]
theorem IW.ge {x y : Nat} {a b : Int} (hx : IW x a) (hy : IW y b) : fGe x y = decide (b ≤ a) := by
  have := fGe_iff hx.num hy.num
  rw [hx.v, hy.v, Rat.intCast_le_intCast] at this
  rw [Bool.eq_iff_iff, this, decide_eq_true_iff]
theorem IW.eq {x y : Nat} {a b : Int} (hx : IW x a) (hy : IW y b) : fEq x y = decide (a = b) := by
  have := fEq_iff hx.num hy.num
  rw [hx.v, hy.v, Rat.intCast_inj] at this
  rw [Bool.eq_iff_iff, this, decide_eq_true_iff]

/-! ### Made whole -/
theorem ab_num {s : Bool} {q : Rat} (h : 0 ≤ q) : ab (if s then -q else q) = q := by
  unfold ab
  cases s
  · simp [h]
  · simp only [if_true]
    by_cases h0 : q = 0
    · subst h0; simp
    · rw [if_neg (by grind)]; grind
theorem trunc_int {x : Nat} (hx : fin x) : ∃ k : Nat, V (math_Trunc x) = rs (if sg x then -((k : Nat) : Rat) else ((k : Nat) : Rat)) ∧ (k : Rat) ≤ ab (V x) ∧ num (math_Trunc x) := by
  obtain ⟨m, p, e1, v1⟩ := read_fin hx
  have w1 := V_number rfl v1
  have e2 : math_Trunc x = F64.nearest (sg x) (Ieee.Toward.cut .zero (sg x) (m <<< (-1074 + (p : Int)).toNat) (-(-1074 + (p : Int))).toNat) 0 := by
    unfold math_Trunc ftruncA
    rw [e1]
    rfl
  rw [e2]
  refine ⟨Ieee.Toward.cut .zero (sg x) (m <<< (-1074 + (p : Int)).toNat) (-(-1074 + (p : Int))).toNat, by rw [V_nearest, Rat.zpow_zero]; simp only [Rat.mul_one], ?_, ?_⟩
  · have hnn : 0 ≤ (m : Rat) * 2 ^ (-1074 + (p : Int)) := Rat.mul_nonneg Rat.natCast_nonneg (Rat.le_of_lt (two_zpow_pos _))
    rw [w1, ab_num hnn]
    have hc : ∀ n d : Nat, Ieee.Toward.cut .zero (sg x) n d = n / 2 ^ (min d (n.log2 + 2)) := by
      intro n d
      unfold Ieee.Toward.cut
      rw [Nat.one_shiftLeft]
      rfl
    rw [hc, Nat.shiftLeft_eq]
    by_cases hp : 1074 ≤ p
    · obtain ⟨e, rfl⟩ : ∃ e, p = 1074 + e := ⟨p - 1074, by omega⟩
      have a1 : (-1074 + ((1074 + e : Nat) : Int)).toNat = e := by omega
      have a2 : (-(-1074 + ((1074 + e : Nat) : Int))).toNat = 0 := by omega
      have a3 : -1074 + ((1074 + e : Nat) : Int) = (e : Int) := by omega
      rw [a1, a2, a3, Nat.zero_min, Nat.pow_zero, Nat.div_one, Rat.natCast_mul, castPow, zpow_nat]
      exact Rat.le_refl
    · obtain ⟨d, hd⟩ : ∃ d : Nat, -1074 + (p : Int) = -(d : Int) := ⟨1074 - p, by omega⟩
      have a1 : (-(d : Int)).toNat = 0 := by omega
      have a2 : (- -(d : Int)).toNat = d := by omega
      rw [hd, a1, a2, Nat.pow_zero, Nat.mul_one]
      have hd2 := two_pow_pos d
      refine Rat.le_of_mul_le_mul_right (c := 2 ^ d) ?_ hd2
      have e3 : (m : Rat) * 2 ^ (-(d : Int)) * 2 ^ d = m := by
        rw [Rat.mul_assoc, ← zpow_nat d, ← Rat.zpow_add two_ne, show -(d : Int) + d = 0 by omega, Rat.zpow_zero, Rat.mul_one]
      rw [e3]
      have hq : (m / 2 ^ (min d (m.log2 + 2))) * 2 ^ d ≤ m := by
        by_cases hdl : d ≤ m.log2 + 2
        · rw [Nat.min_eq_left hdl]; exact Nat.div_mul_le_self m _
        · rw [Nat.min_eq_right (by omega)]
          have : m < 2 ^ (m.log2 + 2) := Nat.lt_trans Nat.lt_log2_self (by rw [Nat.pow_succ 2 (m.log2 + 1)]; have := Nat.two_pow_pos (m.log2 + 1); omega)
          rw [Nat.div_eq_of_lt this]; omega
      have c : (((m / 2 ^ (min d (m.log2 + 2))) * 2 ^ d : Nat) : Rat) ≤ (m : Rat) := by exact_mod_cast hq
      rw [Rat.natCast_mul, castPow] at c
      exact c
  · obtain ⟨r, hr, e⟩ := nearest_word (sg x) (Ieee.Toward.cut .zero (sg x) (m <<< (-1074 + (p : Int)).toNat) (-(-1074 + (p : Int))).toNat) 0
    unfold num
    rw [e, rg_word _ hr]; exact hr

theorem V1000 : V 4652007308841189376 = 1000 ∧ fin 4652007308841189376 := by
  obtain ⟨j, hj⟩ : ∃ j : Nat, j = 1031 := ⟨1031, rfl⟩
  have h1 : rg 4652007308841189376 = j * 4503599627370496 + 8796093022208000 := by rw [hj]; decide
  have h2 : sg 4652007308841189376 = false := by decide
  refine ⟨?_, by decide⟩
  rw [V_pos_of h2, h1, val_form j 8796093022208000 (.inr ⟨by omega, by omega⟩)]
  have e : (8796093022208000 : Nat) * 2 ^ j = 1000 * 2 ^ (43 + j) := by
    rw [Nat.pow_add, ← Nat.mul_assoc]
  rw [e, Rat.natCast_mul, Rat.mul_assoc, u_mul, show ((43 + j : Nat) : Int) - 1074 = 0 by omega, Rat.zpow_zero, Rat.mul_one]; rfl

/-- A whole float of at most 1000. -/
theorem small_int {x : Nat} (h1 : fEq x (math_Trunc x) = true) (h2 : ab (V x) ≤ 1000) (hn : num x) : ∃ a : Int, IW x a ∧ -1000 ≤ a ∧ a ≤ 1000 := by
  have hb := bnd_bigger
  have hab := ab_le (V x)
  have hf : fin x := fin_of hn (by grind) (by grind)
  obtain ⟨k, hk, hle, hnt⟩ := trunc_int hf
  rw [fEq_iff hn hnt, hk] at h1
  have hk1 : (k : Rat) ≤ ((1000 : Nat) : Rat) := by
    have : ((1000 : Nat) : Rat) = 1000 := rfl
    rw [this]; grind
  have hk2 : k ≤ 1000 := by exact_mod_cast hk1
  have hr := rs_nat (k := k) (by omega)
  cases hs : sg x
  · rw [hs] at h1
    simp only [Bool.false_eq_true, if_false] at h1
    rw [hr] at h1
    exact ⟨(k : Int), ⟨hf, by rw [h1, Rat.intCast_natCast]⟩, by omega, by omega⟩
  · rw [hs] at h1
    simp only [if_true] at h1
    rw [rs_neg, hr] at h1
    exact ⟨-(k : Int), ⟨hf, by rw [h1, Rat.intCast_neg, Rat.intCast_natCast]⟩, by omega, by omega⟩
/-- A small place. -/
structure Lat (p : Pr2) (a b : Int) : Prop where
  x : IW p.1 a
  y : IW p.2 b
  xl : -1000 ≤ a
  xh : a ≤ 1000
  yl : -1000 ≤ b
  yh : b ≤ 1000
/-- A word without its sign. -/
theorem absW' (x : Nat) : Int.toNat (Go.IntKind.wrap Go.IntKind.u64 (Nat.cast (BitVec.toNat (HAnd.hAnd (BitVec.ofInt (Go.IntKind.bits Go.IntKind.u64) (Nat.cast x : Int)) (Complement.complement (BitVec.ofInt (Go.IntKind.bits Go.IntKind.u64) (9223372036854775808 : Int))))) : Int)) = rg x := by
  have h1 : BitVec.ofInt (Go.IntKind.bits Go.IntKind.u64) (Nat.cast x : Int) = BitVec.ofInt (Go.IntKind.bits Go.IntKind.u64) (Nat.cast (x % 2 ^ 64) : Int) := by
    apply BitVec.eq_of_toNat_eq
    show (BitVec.ofInt 64 (x : Int)).toNat = (BitVec.ofInt 64 ((x % 2 ^ 64 : Nat) : Int)).toNat
    rw [BitVec.toNat_ofInt, BitVec.toNat_ofInt]
    congr 1
    omega
  rw [h1, absW (Nat.mod_lt _ (by decide))]
  unfold rg; omega
theorem abs_small {x : Nat} (hn : num x) (h : fLe (nz (Int.toNat (Go.IntKind.wrap Go.IntKind.u64 (Nat.cast (BitVec.toNat (HAnd.hAnd (BitVec.ofInt (Go.IntKind.bits Go.IntKind.u64) (Nat.cast x : Int)) (Complement.complement (BitVec.ofInt (Go.IntKind.bits Go.IntKind.u64) (9223372036854775808 : Int))))) : Int)))) (4652007308841189376 : Nat) = true) : ab (V x) ≤ 1000 := by
  rw [absW'] at h
  have hnum : num (rg x) := by unfold num rg at *; omega
  rw [nz_of_not (isN_num.2 hnum), fLe_iff hnum (num_of_fin V1000.2), V1000.1, V_rg] at h
  exact h
theorem small_lat {p : Pr2} (h : law12_small p.1 p.2 = true) : ∃ a b, Lat p a b := by
  unfold law12_small at h
  simp only [Bool.and_eq_true] at h
  obtain ⟨h1, h2, h3, h4⟩ := h
  have n1 := (num_of_fEq h1).1
  have n2 := (num_of_fEq h2).1
  obtain ⟨a, ha, a1, a2⟩ := small_int h1 (abs_small n1 h3) n1
  obtain ⟨b, hb, b1, b2⟩ := small_int h2 (abs_small n2 h4) n2
  exact ⟨a, b, ha, hb, a1, a2, b1, b2⟩

/-! ### Ways between small places -/
theorem mul_bound {a b : Int} {A B : Int} (h1 : -A ≤ a) (h2 : a ≤ A) (h3 : -B ≤ b) (h4 : b ≤ B) : -(A * B) ≤ a * b ∧ a * b ≤ A * B := by
  have p1 := Int.mul_nonneg (show 0 ≤ A - a by omega) (show 0 ≤ B - b by omega)
  have p2 := Int.mul_nonneg (show 0 ≤ A + a by omega) (show 0 ≤ B + b by omega)
  have p3 := Int.mul_nonneg (show 0 ≤ A - a by omega) (show 0 ≤ B + b by omega)
  have p4 := Int.mul_nonneg (show 0 ≤ A + a by omega) (show 0 ≤ B - b by omega)
  constructor <;> grind
/-- A way of whole numbers up to 2000. -/
structure Way (x y : Nat) (a b : Int) : Prop where
  x : IW x a
  y : IW y b
  xl : -2000 ≤ a
  xh : a ≤ 2000
  yl : -2000 ≤ b
  yh : b ≤ 2000
theorem Lat.sub {p q : Pr2} {a b c d : Int} (hp : Lat p a b) (hq : Lat q c d) : Way (fsub q.1 p.1) (fsub q.2 p.2) (c - a) (d - b) := by
  have := hp.xl; have := hp.xh; have := hp.yl; have := hp.yh
  have := hq.xl; have := hq.xh; have := hq.yl; have := hq.yh
  exact ⟨hq.x.sub hp.x (by omega) (by omega), hq.y.sub hp.y (by omega) (by omega), by omega, by omega, by omega, by omega⟩
theorem Way.cross {x y z w : Nat} {a b c d : Int} (h : Way x y a b) (k : Way z w c d) : IW (vec_Cross x y z w) (a * d - b * c) ∧ -8000000 ≤ a * d - b * c ∧ a * d - b * c ≤ 8000000 := by
  have m1 := mul_bound (A := 2000) (B := 2000) h.xl h.xh k.yl k.yh
  have m2 := mul_bound (A := 2000) (B := 2000) h.yl h.yh k.xl k.xh
  have i1 := h.x.mul k.y (by omega) (by omega)
  have i2 := h.y.mul k.x (by omega) (by omega)
  exact ⟨i1.sub i2 (by omega) (by omega), by omega, by omega⟩
theorem Way.dot {x y z w : Nat} {a b c d : Int} (h : Way x y a b) (k : Way z w c d) : IW (vec_Dot x y z w) (a * c + b * d) ∧ -8000000 ≤ a * c + b * d ∧ a * c + b * d ≤ 8000000 := by
  have m1 := mul_bound (A := 2000) (B := 2000) h.xl h.xh k.xl k.xh
  have m2 := mul_bound (A := 2000) (B := 2000) h.yl h.yh k.yl k.yh
  have i1 := h.x.mul k.x (by omega) (by omega)
  have i2 := h.y.mul k.y (by omega) (by omega)
  exact ⟨i1.add i2 (by omega) (by omega), by omega, by omega⟩
theorem int_sq (a : Int) : 0 ≤ a * a := by
  rcases Int.le_total 0 a with h | h
  · exact Int.mul_nonneg h h
  · have := Int.mul_nonneg (show 0 ≤ -a by omega) (show 0 ≤ -a by omega)
    grind
theorem Way.square {x y : Nat} {a b : Int} (h : Way x y a b) : IW (vec_Square x y) (a * a + b * b) ∧ 0 ≤ a * a + b * b ∧ a * a + b * b ≤ 8000000 := by
  have d := h.dot h
  have n1 := int_sq a
  have n2 := int_sq b
  exact ⟨d.1, by omega, d.2.2⟩
theorem Lat.within {p : Pr2} {a b : Int} (h : Lat p a b) : vec_Within p.1 p.2 4787326403894837248 = true := by
  have q := Vp40
  have w : ∀ {x : Nat} {a : Int}, IW x a → -1000 ≤ a → a ≤ 1000 → num_Within x 4787326403894837248 = true := by
    intro x a hx h1 h2
    have f := V_fneg (num_of_fin q.2)
    have c1 : (a : Rat) ≤ ((1000 : Int) : Rat) := Rat.intCast_le_intCast.2 h2
    have c2 : (((-1000 : Int)) : Rat) ≤ (a : Rat) := Rat.intCast_le_intCast.2 h1
    have e1 : ((1000 : Int) : Rat) = 1000 := rfl
    have e2 : (((-1000 : Int)) : Rat) = -1000 := rfl
    have p40 : (2 : Rat) ^ 40 = 1099511627776 := by grind
    rw [e1] at c1
    rw [e2] at c2
    unfold num_Within
    rw [Bool.and_eq_true, fLe_iff f.2.1 hx.num, fLe_iff hx.num (num_of_fin q.2), f.1, q.1, hx.v, p40]
    constructor <;> grind
  unfold vec_Within
  rw [w h.x h.xl h.xh, w h.y h.yl h.yh]; rfl
end
end Go.Proofs.Ythopjahoaljhaaa.X

/-! ## Of whole numbers: a ray from outside a circle to a place within it meets it on its way. -/
set_option linter.unusedVariables false
set_option linter.unusedSimpArgs false
namespace Go.Proofs.Ythopjahoaljhaaa.X
open Go
noncomputable section

theorem iw_within {x : Nat} {a : Int} (hx : IW x a) (h1 : -2000 ≤ a) (h2 : a ≤ 2000) : num_Within x 4787326403894837248 = true := by
  have q := Vp40
  have f := V_fneg (num_of_fin q.2)
  have c1 : (a : Rat) ≤ ((2000 : Int) : Rat) := Rat.intCast_le_intCast.2 h2
  have c2 : (((-2000 : Int)) : Rat) ≤ (a : Rat) := Rat.intCast_le_intCast.2 h1
  have e1 : ((2000 : Int) : Rat) = 2000 := rfl
  have e2 : (((-2000 : Int)) : Rat) = -2000 := rfl
  have p40 : (2 : Rat) ^ 40 = 1099511627776 := by grind
  rw [e1] at c1
  rw [e2] at c2
  unfold num_Within
  rw [Bool.and_eq_true, fLe_iff f.2.1 hx.num, fLe_iff hx.num (num_of_fin q.2), f.1, q.1, hx.v, p40]
  constructor <;> grind
theorem Way.within {x y : Nat} {a b : Int} (h : Way x y a b) : vec_Within x y 4787326403894837248 = true := by
  unfold vec_Within
  rw [iw_within h.x h.xl h.xh, iw_within h.y h.yl h.yh]; rfl
/-- A way that is not nought has a length of at least 1. -/
theorem Way.length {x y : Nat} {a b : Int} (h : Way x y a b) (hne : a ≠ 0 ∨ b ≠ 0) : fin (vec_Length x y) ∧ 1 ≤ V (vec_Length x y) ∧ 1 ≤ a * a + b * b := by
  obtain ⟨i, n, u⟩ := h.square
  have h1 : 1 ≤ a * a + b * b := by
    have p1 := int_sq a
    have p2 := int_sq b
    rcases hne with hne | hne
    · have : a * a ≠ 0 := fun h0 => hne (by rcases Int.mul_eq_zero.1 h0 with h | h <;> exact h)
      omega
    · have : b * b ≠ 0 := fun h0 => hne (by rcases Int.mul_eq_zero.1 h0 with h | h <;> exact h)
      omega
  have hv : (1 : Rat) ≤ V (vec_Square x y) := by
    rw [i.v]
    have : ((1 : Int) : Rat) ≤ ((a * a + b * b : Int) : Rat) := Rat.intCast_le_intCast.2 h1
    exact this
  have f := sqrt_fin i.f (by grind)
  have g := sqrt_ge i.f (by grind) (R := 1) (by grind) (by grind)
  rw [rs_one] at g
  exact ⟨f.1, g, h1⟩
theorem asked_ok {p : Pr2} {a b : Int} {x y : Nat} {c d : Int} (hp : Lat p a b) (hw : Way x y c d) (hne : c ≠ 0 ∨ d ≠ 0) : ray_asked p.1 p.2 x y = 0 := by
  unfold ray_asked ray_real
  rw [hp.within, hw.within]
  obtain ⟨f, g, _⟩ := hw.length hne
  have m := Vm30
  have : fLt (vec_Length x y) 4472074429978902528 = false := by
    cases h : fLt (vec_Length x y) 4472074429978902528
    · rfl
    · rw [fLt_iff (num_of_fin f) (num_of_fin m.2), m.1, m30] at h; grind
  rw [this]; rfl

/-- Numbers of the form N * 2^k are kept. -/
theorem rs_dyad {N : Nat} (hN : N ≤ 9007199254740992) {k : Nat} (hk : k ≤ 1000) : rs ((N : Rat) / 2 ^ k) = (N : Rat) / 2 ^ k := by
  have e : (N : Rat) / 2 ^ k = (N : Rat) * 2 ^ (-(k : Int)) := by
    rw [Rat.zpow_neg, zpow_nat, Rat.div_def]
  rw [e]
  refine rs_rep hN (by omega) ?_
  have hb := bnd_bigger
  have h1 : (2 : Rat) ^ (-(k : Int)) ≤ 2 ^ (0 : Int) := zpow_le (by omega)
  rw [Rat.zpow_zero] at h1
  have h2 : (N : Rat) ≤ ((9007199254740992 : Nat) : Rat) := by exact_mod_cast hN
  have h3 := Rat.mul_le_mul_of_nonneg_left h1 (show (0 : Rat) ≤ N from Rat.natCast_nonneg)
  push_cast at h2
  grind

/-- The circle's law in numbers: whole numbers a, b, c with a + 2 b + c < 0, 1 <= a, 1 <= c. -/
theorem circ_int {a b c : Int} (ha : 1 ≤ a) (ha2 : a ≤ 8000000) (hb1 : -8000000 ≤ b) (hc : 1 ≤ c) (h : a + 2 * b + c < 0) : b < 0 ∧ a * c + 1 ≤ b * b ∧ (0 ≤ -b - a → (-b - a) * (-b - a) + 1 ≤ b * b - a * c) := by
  have hb : b < 0 := by omega
  refine ⟨hb, ?_, ?_⟩
  · -- 4 b^2 >= (a + c + 1)^2 > 4 a c
    have h1 : a + c + 1 ≤ -(2 * b) := by omega
    have h2 := Int.mul_le_mul h1 h1 (by omega) (by omega)
    have h3 := int_sq (a - c)
    have e1 : (a + c + 1) * (a + c + 1) = (a - c) * (a - c) + 4 * (a * c) + 2 * (a + c) + 1 := by grind
    have e2 : -(2 * b) * -(2 * b) = 4 * (b * b) := by grind
    rw [e1, e2] at h2
    omega
  · intro h0
    have h1 := Int.mul_le_mul_of_nonneg_left (show 1 ≤ -(a + 2 * b + c) by omega) (show 0 ≤ a by omega)
    have e : b * b - a * c - (-b - a) * (-b - a) = a * -(a + 2 * b + c) := by grind
    omega

theorem law_circ {d0 d1 e0 e1 b0 b1 c : Nat} (s0 : law12_small d0 d1 = true) (s1 : law12_small e0 e1 = true) (s2 : fLt (vec_Square (vec_Sub_0 e0 e1 b0 b1) (vec_Sub_1 e0 e1 b0 b1)) (fmul c c) = true)
    (s3 : law12_small b0 b1 = true) (s4 : fNe c (math_Trunc c) = false) (s5 : fGe c 4607182418800017408 = true) (s6 : fLe c 4652007308841189376 = true) (s7 : (fEq d0 e0 && (fEq d1 e1 && true)) = false) :
    ray_Circle_5 b0 b1 c d0 d1 (vec_Sub_0 e0 e1 d0 d1) (vec_Sub_1 e0 e1 d0 d1) = true ∧ (ray_Circle_6 b0 b1 c d0 d1 (vec_Sub_0 e0 e1 d0 d1) (vec_Sub_1 e0 e1 d0 d1) == 0) = true ∧
    (fLe (vec_Square (vec_Sub_0 d0 d1 b0 b1) (vec_Sub_1 d0 d1 b0 b1)) (fmul c c) = true → fEq (ray_Circle_4 b0 b1 c d0 d1 (vec_Sub_0 e0 e1 d0 d1) (vec_Sub_1 e0 e1 d0 d1)) 0 = true) ∧
    (fLe (vec_Square (vec_Sub_0 d0 d1 b0 b1) (vec_Sub_1 d0 d1 b0 b1)) (fmul c c) = false → fGt (ray_Circle_4 b0 b1 c d0 d1 (vec_Sub_0 e0 e1 d0 d1) (vec_Sub_1 e0 e1 d0 d1)) 0 = true ∧ fLt (ray_Circle_4 b0 b1 c d0 d1 (vec_Sub_0 e0 e1 d0 d1) (vec_Sub_1 e0 e1 d0 d1)) 4607182418800017408 = true) := by
  obtain ⟨dx, dy, hd⟩ := small_lat (p := (d0, d1)) s0
  obtain ⟨ex, ey, he⟩ := small_lat (p := (e0, e1)) s1
  obtain ⟨bx, by_, hbb⟩ := small_lat (p := (b0, b1)) s3
  have z := V0
  have o := V1
  -- the radius
  have nc := num_of_fLe s6
  have hce : fEq c (math_Trunc c) = true := by
    unfold fNe at s4; unfold fEq
    cases ho : (F64.order c (math_Trunc c) == some Ordering.eq)
    · rw [bne, ho] at s4; cases s4
    · rfl
  have hc1 : 1 ≤ V c := by rw [fGe_iff nc.1 (num_of_fin o.2), o.1] at s5; exact s5
  have hc2 : V c ≤ 1000 := by rw [fLe_iff nc.1 nc.2, V1000.1] at s6; exact s6
  obtain ⟨r, hr, r1, r2⟩ := small_int hce (ab_bound (by grind) hc2) nc.1
  have r3 : 1 ≤ r := by
    rw [hr.v] at hc1
    have : ((1 : Int) : Rat) ≤ (r : Rat) := hc1
    exact Rat.intCast_le_intCast.1 this
  have rr_ := mul_bound (A := 1000) (B := 1000) (show -1000 ≤ r by omega) (show r ≤ 1000 by omega) (show -1000 ≤ r by omega) (show r ≤ 1000 by omega)
  have hrr := hr.mul hr (by omega) (by omega)
  have rpos := Int.mul_pos (show 0 < r by omega) (show 0 < r by omega)
  -- the ways
  have w := hd.sub he
  have m := hbb.sub hd
  have q := hbb.sub he
  simp only at w m q
  obtain ⟨wi, wn, wu⟩ := w.square
  obtain ⟨mi, mn, mu⟩ := m.square
  obtain ⟨qi, qn, qu⟩ := q.square
  have hin : (ex - bx) * (ex - bx) + (ey - by_) * (ey - by_) < r * r := by
    have := qi.lt hrr
    have s2' : fLt (vec_Square (fsub e0 b0) (fsub e1 b1)) (fmul c c) = true := s2
    rw [this, decide_eq_true_iff] at s2'; exact s2'
  have hne : ex - dx ≠ 0 ∨ ey - dy ≠ 0 := by
    have h1 := hd.x.eq he.x
    have h2 := hd.y.eq he.y
    simp only at h1 h2
    rw [h1, h2, Bool.and_true] at s7
    simp only [Bool.and_eq_false_iff, decide_eq_false_iff_not] at s7
    omega
  obtain ⟨lf, l1, wpos⟩ := w.length hne
  have hask := asked_ok hd w hne
  simp only at hask
  -- what Circle looks at first
  have rad : num_Within c 4787326403894837248 = true := iw_within hr (by omega) (by omega)
  have rmin : fLt c 4472074429978902528 = false := by
    have mm := Vm30
    cases h : fLt c 4472074429978902528
    · rfl
    · rw [fLt_iff nc.1 (num_of_fin mm.2), mm.1, m30] at h; grind
  have cen : ray_real b0 b1 = true := hbb.within
  have ask0 : (ray_asked d0 d1 (vec_Sub_0 e0 e1 d0 d1) (vec_Sub_1 e0 e1 d0 d1) != 0) = false := by
    have : ray_asked d0 d1 (vec_Sub_0 e0 e1 d0 d1) (vec_Sub_1 e0 e1 d0 d1) = 0 := hask
    rw [this]; rfl
  have E4 : ray_Circle_4 b0 b1 c d0 d1 (vec_Sub_0 e0 e1 d0 d1) (vec_Sub_1 e0 e1 d0 d1) = ray_circle_4 b0 b1 c d0 d1 (vec_Sub_0 e0 e1 d0 d1) (vec_Sub_1 e0 e1 d0 d1) := by
    unfold ray_Circle_4; rw [cen, rad, rmin, ask0]; rfl
  have E5 : ray_Circle_5 b0 b1 c d0 d1 (vec_Sub_0 e0 e1 d0 d1) (vec_Sub_1 e0 e1 d0 d1) = ray_circle_5 b0 b1 c d0 d1 (vec_Sub_0 e0 e1 d0 d1) (vec_Sub_1 e0 e1 d0 d1) := by
    unfold ray_Circle_5; rw [cen, rad, rmin, ask0]; rfl
  have E6 : ray_Circle_6 b0 b1 c d0 d1 (vec_Sub_0 e0 e1 d0 d1) (vec_Sub_1 e0 e1 d0 d1) = 0 := by
    unfold ray_Circle_6; rw [cen, rad, rmin, ask0]; rfl
  rw [E4, E5, E6]
  -- c
  have ci := mi.sub hrr (by omega) (by omega)
  generalize hC : (dx - bx) * (dx - bx) + (dy - by_) * (dy - by_) - r * r = C at *
  have cle := ci.le IW0
  have hle : fLe (vec_Square (fsub d0 b0) (fsub d1 b1)) (fmul c c) = fLe (fsub (vec_Square (fsub d0 b0) (fsub d1 b1)) (fmul c c)) 0 := by
    rw [cle, mi.le hrr, Bool.eq_iff_iff, decide_eq_true_iff, decide_eq_true_iff]; omega
  have hleG : fLe (vec_Square (vec_Sub_0 d0 d1 b0 b1) (vec_Sub_1 d0 d1 b0 b1)) (fmul c c) = fLe (fsub (vec_Square (vec_Sub_0 d0 d1 b0 b1) (vec_Sub_1 d0 d1 b0 b1)) (fmul c c)) 0 := hle
  rw [hleG]
  have cle' : fLe (fsub (vec_Square (vec_Sub_0 d0 d1 b0 b1) (vec_Sub_1 d0 d1 b0 b1)) (fmul c c)) 0 = decide (C ≤ 0) := cle
  by_cases hC0 : C ≤ 0
  · have ht : fLe (fsub (vec_Square (vec_Sub_0 d0 d1 b0 b1) (vec_Sub_1 d0 d1 b0 b1)) (fmul c c)) 0 = true := by rw [cle', decide_eq_true hC0]
    refine ⟨by unfold ray_circle_5; rw [ht]; rfl, rfl, fun _ => ?_, fun h => by rw [ht] at h; cases h⟩
    unfold ray_circle_4; rw [ht]; exact fEq00
  · have ht : fLe (fsub (vec_Square (vec_Sub_0 d0 d1 b0 b1) (vec_Sub_1 d0 d1 b0 b1)) (fmul c c)) 0 = false := by rw [cle', decide_eq_false hC0]
    obtain ⟨bi, bl, bu⟩ := m.dot w
    generalize hA : (ex - dx) * (ex - dx) + (ey - dy) * (ey - dy) = A at *
    generalize hB : (dx - bx) * (ex - dx) + (dy - by_) * (ey - dy) = B at *
    have key : A + 2 * B + C < 0 := by
      have e : (ex - bx) * (ex - bx) + (ey - by_) * (ey - by_) = A + 2 * B + ((dx - bx) * (dx - bx) + (dy - by_) * (dy - by_)) := by rw [← hA, ← hB]; grind
      omega
    obtain ⟨hb, hD1, hD2⟩ := circ_int wpos wu bl (show 1 ≤ C by omega) key
    have hC8 : C ≤ 8000000 := by omega
    have ac := mul_bound (A := 8000000) (B := 8000000) (show -8000000 ≤ A by omega) wu (show -8000000 ≤ C by omega) hC8
    have bb := mul_bound (A := 8000000) (B := 8000000) bl bu bl bu
    have acpos := Int.mul_nonneg (show 0 ≤ A by omega) (show 0 ≤ C by omega)
    have bbi := bi.mul bi (by omega) (by omega)
    have aci := wi.mul ci (by omega) (by omega)
    have di := bbi.sub aci (by omega) (by omega)
    have g1 : fGe (vec_Dot (vec_Sub_0 d0 d1 b0 b1) (vec_Sub_1 d0 d1 b0 b1) (vec_Sub_0 e0 e1 d0 d1) (vec_Sub_1 e0 e1 d0 d1)) 0 = false := by
      have : fGe (vec_Dot (fsub d0 b0) (fsub d1 b1) (fsub e0 d0) (fsub e1 d1)) 0 = decide (0 ≤ B) := bi.ge IW0
      show fGe (vec_Dot (fsub d0 b0) (fsub d1 b1) (fsub e0 d0) (fsub e1 d1)) 0 = false
      rw [this, decide_eq_false (by omega)]
    have g2 : fLt (fsub (fmul (vec_Dot (vec_Sub_0 d0 d1 b0 b1) (vec_Sub_1 d0 d1 b0 b1) (vec_Sub_0 e0 e1 d0 d1) (vec_Sub_1 e0 e1 d0 d1)) (vec_Dot (vec_Sub_0 d0 d1 b0 b1) (vec_Sub_1 d0 d1 b0 b1) (vec_Sub_0 e0 e1 d0 d1) (vec_Sub_1 e0 e1 d0 d1))) (fmul (vec_Square (vec_Sub_0 e0 e1 d0 d1) (vec_Sub_1 e0 e1 d0 d1)) (fsub (vec_Square (vec_Sub_0 d0 d1 b0 b1) (vec_Sub_1 d0 d1 b0 b1)) (fmul c c)))) 0 = false := by
      have := di.lt IW0
      show fLt (fsub (fmul (vec_Dot (fsub d0 b0) (fsub d1 b1) (fsub e0 d0) (fsub e1 d1)) (vec_Dot (fsub d0 b0) (fsub d1 b1) (fsub e0 d0) (fsub e1 d1))) (fmul (vec_Square (fsub e0 d0) (fsub e1 d1)) (fsub (vec_Square (fsub d0 b0) (fsub d1 b1)) (fmul c c)))) 0 = false
      rw [this, decide_eq_false (by omega)]
    -- the root
    have nbi := bi.neg
    have sv : V (fsub (fmul (vec_Dot (fsub d0 b0) (fsub d1 b1) (fsub e0 d0) (fsub e1 d1)) (vec_Dot (fsub d0 b0) (fsub d1 b1) (fsub e0 d0) (fsub e1 d1))) (fmul (vec_Square (fsub e0 d0) (fsub e1 d1)) (fsub (vec_Square (fsub d0 b0) (fsub d1 b1)) (fmul c c)))) = ((B * B - A * C : Int) : Rat) := di.v
    have df := di.f
    generalize hDw : (fsub (fmul (vec_Dot (fsub d0 b0) (fsub d1 b1) (fsub e0 d0) (fsub e1 d1)) (vec_Dot (fsub d0 b0) (fsub d1 b1) (fsub e0 d0) (fsub e1 d1))) (fmul (vec_Square (fsub e0 d0) (fsub e1 d1)) (fsub (vec_Square (fsub d0 b0) (fsub d1 b1)) (fmul c c)))) = Dw at *
    have cast_le : ∀ {x y : Int}, x ≤ y → (x : Rat) ≤ (y : Rat) := fun h => Rat.intCast_le_intCast.2 h
    have D0 : 0 ≤ V Dw := by
      rw [sv]; exact cast_le (show (0 : Int) ≤ B * B - A * C by omega)
    obtain ⟨sf, sn⟩ := sqrt_fin df D0
    obtain ⟨nb, hnb⟩ : ∃ nb : Nat, -B = (nb : Int) := ⟨(-B).toNat, by omega⟩
    have hnbR : -(B : Rat) = (nb : Rat) := by rw [← Rat.intCast_neg, hnb, Rat.intCast_natCast]
    have hnb1 : 1 ≤ nb := by omega
    have hnb2 : nb ≤ 8000000 := by omega
    have nbR1 : (1 : Rat) ≤ nb := by exact_mod_cast hnb1
    have nbR2 : (nb : Rat) ≤ 8000000 := by exact_mod_cast hnb2
    have up : V (fsqrt Dw) ≤ (nb : Rat) - 1 / 16777216 := by
      have hR : 0 ≤ (nb : Rat) - 1 / 16777216 := by grind
      have h1 : V Dw ≤ ((nb : Rat) - 1 / 16777216) * ((nb : Rat) - 1 / 16777216) := by
        rw [sv]
        have := cast_le (show B * B - A * C ≤ B * B - 1 by have := Int.mul_pos (show 0 < A by omega) (show 0 < C by omega); omega)
        rw [Rat.intCast_sub (B * B) 1, Rat.intCast_mul] at this
        have e1 : ((1 : Int) : Rat) = 1 := rfl
        have e2 : (B : Rat) * B = (nb : Rat) * nb := by rw [← hnbR]; grind
        rw [e1, e2] at this
        grind
      have h2 := sqrt_le df D0 hR h1
      have h3 : rs ((nb : Rat) - 1 / 16777216) = (nb : Rat) - 1 / 16777216 := by
        have := rs_dyad (N := nb * 16777216 - 1) (by omega) (k := 24) (by omega)
        have e : (((nb * 16777216 - 1 : Nat) : Rat)) / 2 ^ 24 = (nb : Rat) - 1 / 16777216 := by
          have : ((nb * 16777216 - 1 : Nat) : Rat) = (nb : Rat) * 16777216 - 1 := by
            have h : ((nb * 16777216 - 1 + 1 : Nat) : Rat) = ((nb * 16777216 : Nat) : Rat) := by rw [show nb * 16777216 - 1 + 1 = nb * 16777216 by omega]
            push_cast at h
            grind
          rw [this]
          have p : (2 : Rat) ^ 24 = 16777216 := by grind
          rw [p]; grind
        rw [e] at this; exact this
      rw [h3] at h2; exact h2
    have aR : (1 : Rat) ≤ (A : Rat) := cast_le (show (1 : Int) ≤ A by omega)
    have aR2 : (A : Rat) ≤ 8000000 := cast_le wu
    have lo : (nb : Rat) - A + 1 / 16777216 ≤ V (fsqrt Dw) := by
      by_cases h0 : 0 ≤ -B - A
      · obtain ⟨e, he'⟩ : ∃ e : Nat, -B - A = (e : Int) := ⟨(-B - A).toNat, by omega⟩
        have hR : (nb : Rat) - A = (e : Rat) := by
          rw [← hnbR, ← Rat.intCast_natCast e, ← he', Rat.intCast_sub, Rat.intCast_neg]
        have he2 : e ≤ 8000000 := by omega
        have eR : (e : Rat) ≤ 8000000 := by exact_mod_cast he2
        have e0 : (0 : Rat) ≤ e := Rat.natCast_nonneg
        have h1 : ((e : Rat) + 1 / 16777216) * ((e : Rat) + 1 / 16777216) ≤ V Dw := by
          rw [sv]
          have := cast_le (hD2 h0)
          rw [he'] at this
          have e2 : (((e : Int) * (e : Int) + 1 : Int) : Rat) = (e : Rat) * e + 1 := by rw [Rat.intCast_add, Rat.intCast_mul, Rat.intCast_natCast]; rfl
          rw [e2] at this
          grind
        have h2 := sqrt_ge df D0 (R := (e : Rat) + 1 / 16777216) (by grind) h1
        have h3 : rs ((e : Rat) + 1 / 16777216) = (e : Rat) + 1 / 16777216 := by
          have := rs_dyad (N := e * 16777216 + 1) (by omega) (k := 24) (by omega)
          have p : (2 : Rat) ^ 24 = 16777216 := by grind
          have e' : (((e * 16777216 + 1 : Nat) : Rat)) / 2 ^ 24 = (e : Rat) + 1 / 16777216 := by
            rw [p]; push_cast; grind
          rw [e'] at this; exact this
        rw [h3] at h2
        rw [hR]; exact h2
      · have := cast_le (show -B - A ≤ -1 by omega)
        rw [Rat.intCast_sub, Rat.intCast_neg, hnbR] at this
        have e1 : (((-1 : Int)) : Rat) = -1 := rfl
        rw [e1] at this
        grind
    -- the numerator
    have nr := sub_res nbi.f sf
    have nbv : V (fneg (vec_Dot (fsub d0 b0) (fsub d1 b1) (fsub e0 d0) (fsub e1 d1))) = (nb : Rat) := by
      rw [nbi.v, Rat.intCast_neg, hnbR]
    have hbb2 := bnd_bigger
    have n1 : 1 / 16777216 ≤ V (fsub (fneg (vec_Dot (fsub d0 b0) (fsub d1 b1) (fsub e0 d0) (fsub e1 d1))) (fsqrt Dw)) := by
      rw [nr.v, nbv]
      have := rs_mono (show (1 : Rat) / 16777216 ≤ (nb : Rat) - V (fsqrt Dw) by grind)
      have e : rs (1 / 16777216) = 1 / 16777216 := by
        have := rs_dyad (N := 1) (by omega) (k := 24) (by omega)
        have p : (2 : Rat) ^ 24 = 16777216 := by grind
        rw [p] at this; exact this
      rw [e] at this; exact this
    obtain ⟨an, han⟩ : ∃ an : Nat, A = (an : Int) := ⟨A.toNat, by omega⟩
    have anR : (A : Rat) = (an : Rat) := by rw [han, Rat.intCast_natCast]
    have n2 : V (fsub (fneg (vec_Dot (fsub d0 b0) (fsub d1 b1) (fsub e0 d0) (fsub e1 d1))) (fsqrt Dw)) ≤ (A : Rat) - 1 / 16777216 := by
      rw [nr.v, nbv]
      have := rs_mono (show (nb : Rat) - V (fsqrt Dw) ≤ (A : Rat) - 1 / 16777216 by grind)
      have e : rs ((A : Rat) - 1 / 16777216) = (A : Rat) - 1 / 16777216 := by
        have := rs_dyad (N := an * 16777216 - 1) (by omega) (k := 24) (by omega)
        have p : (2 : Rat) ^ 24 = 16777216 := by grind
        have e : (((an * 16777216 - 1 : Nat) : Rat)) / 2 ^ 24 = (A : Rat) - 1 / 16777216 := by
          have : ((an * 16777216 - 1 : Nat) : Rat) = (an : Rat) * 16777216 - 1 := by
            have h : ((an * 16777216 - 1 + 1 : Nat) : Rat) = ((an * 16777216 : Nat) : Rat) := by rw [show an * 16777216 - 1 + 1 = an * 16777216 by omega]
            push_cast at h
            grind
          rw [this, p, anR]; grind
        rw [e] at this; exact this
      rw [e] at this; exact this
    have nfin := nr.fin (by rw [nbv]; grind) (by rw [nbv]; grind)
    have wv : V (vec_Square (fsub e0 d0) (fsub e1 d1)) = (A : Rat) := wi.v
    have tr := div_res nfin wi.f (by rw [wv]; grind)
    rw [wv] at tr
    generalize V (fsub (fneg (vec_Dot (fsub d0 b0) (fsub d1 b1) (fsub e0 d0) (fsub e1 d1))) (fsqrt Dw)) = N at *
    obtain ⟨t, ht'⟩ : ∃ t, N / (A : Rat) = t := ⟨_, rfl⟩
    have htA : t * (A : Rat) = N := by rw [← ht']; exact Rat.div_mul_cancel (by grind)
    have t1 : 1 / 281474976710656 ≤ t := by
      apply Classical.byContradiction
      intro hn
      have := Rat.mul_lt_mul_of_pos_right (show t < 1 / 281474976710656 by grind) (show 0 < (A : Rat) by grind)
      grind
    have t2 : t ≤ 1 - 1 / 140737488355328 := by
      apply Classical.byContradiction
      intro hn
      have := Rat.mul_lt_mul_of_pos_right (show 1 - 1 / 140737488355328 < t by grind) (show 0 < (A : Rat) by grind)
      grind
    have tv := tr.v
    rw [ht'] at tv
    have u1 : 1 / 281474976710656 ≤ rs t := by
      have := rs_mono t1
      have e := rs_dyad (N := 1) (by omega) (k := 48) (by omega)
      have p : (2 : Rat) ^ 48 = 281474976710656 := by grind
      rw [p] at e
      have e' : rs (1 / 281474976710656) = 1 / 281474976710656 := e
      rw [e'] at this; exact this
    have u2 : rs t ≤ 1 - 1 / 140737488355328 := by
      have := rs_mono t2
      have e := rs_dyad (N := 140737488355327) (by omega) (k := 47) (by omega)
      have p : (2 : Rat) ^ 47 = 140737488355328 := by grind
      rw [p] at e
      have e' : ((140737488355327 : Nat) : Rat) / 140737488355328 = 1 - 1 / 140737488355328 := by
        have : ((140737488355327 : Nat) : Rat) = 140737488355327 := rfl
        rw [this]; grind
      rw [e'] at e
      rw [e] at this; exact this
    have tn := tr.num
    have E4' : ray_circle_4 b0 b1 c d0 d1 (vec_Sub_0 e0 e1 d0 d1) (vec_Sub_1 e0 e1 d0 d1) = fdiv (fsub (fneg (vec_Dot (fsub d0 b0) (fsub d1 b1) (fsub e0 d0) (fsub e1 d1))) (fsqrt Dw)) (vec_Square (fsub e0 d0) (fsub e1 d1)) ∧
        ray_circle_5 b0 b1 c d0 d1 (vec_Sub_0 e0 e1 d0 d1) (vec_Sub_1 e0 e1 d0 d1) = true := by
      have hp : ray_part (fdiv (fsub (fneg (vec_Dot (vec_Sub_0 d0 d1 b0 b1) (vec_Sub_1 d0 d1 b0 b1) (vec_Sub_0 e0 e1 d0 d1) (vec_Sub_1 e0 e1 d0 d1))) (math_Sqrt (fsub (fmul (vec_Dot (vec_Sub_0 d0 d1 b0 b1) (vec_Sub_1 d0 d1 b0 b1) (vec_Sub_0 e0 e1 d0 d1) (vec_Sub_1 e0 e1 d0 d1)) (vec_Dot (vec_Sub_0 d0 d1 b0 b1) (vec_Sub_1 d0 d1 b0 b1) (vec_Sub_0 e0 e1 d0 d1) (vec_Sub_1 e0 e1 d0 d1))) (fmul (vec_Square (vec_Sub_0 e0 e1 d0 d1) (vec_Sub_1 e0 e1 d0 d1)) (fsub (vec_Square (vec_Sub_0 d0 d1 b0 b1) (vec_Sub_1 d0 d1 b0 b1)) (fmul c c)))))) (vec_Square (vec_Sub_0 e0 e1 d0 d1) (vec_Sub_1 e0 e1 d0 d1))) = true := by
        show ray_part (fdiv (fsub (fneg (vec_Dot (fsub d0 b0) (fsub d1 b1) (fsub e0 d0) (fsub e1 d1))) (fsqrt (fsub (fmul (vec_Dot (fsub d0 b0) (fsub d1 b1) (fsub e0 d0) (fsub e1 d1)) (vec_Dot (fsub d0 b0) (fsub d1 b1) (fsub e0 d0) (fsub e1 d1))) (fmul (vec_Square (fsub e0 d0) (fsub e1 d1)) (fsub (vec_Square (fsub d0 b0) (fsub d1 b1)) (fmul c c)))))) (vec_Square (fsub e0 d0) (fsub e1 d1))) = true
        rw [hDw]
        unfold ray_part
        rw [Bool.and_eq_true, fGe_iff tn (num_of_fin z.2), fLe_iff tn (num_of_fin o.2), z.1, o.1, tv]
        constructor <;> grind
      constructor
      · unfold ray_circle_4
        rw [ht, g1, g2, hp]
        show fdiv (fsub (fneg (vec_Dot (fsub d0 b0) (fsub d1 b1) (fsub e0 d0) (fsub e1 d1))) (fsqrt (fsub (fmul (vec_Dot (fsub d0 b0) (fsub d1 b1) (fsub e0 d0) (fsub e1 d1)) (vec_Dot (fsub d0 b0) (fsub d1 b1) (fsub e0 d0) (fsub e1 d1))) (fmul (vec_Square (fsub e0 d0) (fsub e1 d1)) (fsub (vec_Square (fsub d0 b0) (fsub d1 b1)) (fmul c c)))))) (vec_Square (fsub e0 d0) (fsub e1 d1)) = _
        rw [hDw]
      · unfold ray_circle_5
        rw [ht, g1, g2, hp]; rfl
    refine ⟨E4'.2, rfl, fun h => (by rw [ht] at h; cases h), fun _ => ?_⟩
    rw [E4'.1, fGt_iff tn (num_of_fin z.2), fLt_iff tn (num_of_fin o.2), z.1, o.1, tv]
    constructor <;> grind
end
end Go.Proofs.Ythopjahoaljhaaa.X

/-! ## Of whole numbers: a ray from outside a polygon to a place within it meets it on its way. -/
set_option linter.unusedVariables false
set_option linter.unusedSimpArgs false
namespace Go.Proofs.Ythopjahoaljhaaa.X
open Go
noncomputable section

/-- What one part of a unit way times a whole number gives. -/
theorem unit_dot {A B c d : Rat} {α β : Rat} (a1 : -2 ≤ α) (a2 : α ≤ 2) (b1 : -2 ≤ β) (b2 : β ≤ 2) (c1 : -2000 ≤ c) (c2 : c ≤ 2000) (d1 : -2000 ≤ d) (d2 : d ≤ 2000) :
    rs (rs (rs α * c) + rs (rs β * d)) ≤ α * c + β * d + 1 / 137438953472 ∧ α * c + β * d ≤ rs (rs (rs α * c) + rs (rs β * d)) + 1 / 137438953472 := by
  have hu := u_pos
  have hus := u_smaller
  have ea := rsE a1 a2 (by grind)
  have eb := rsE b1 b2 (by grind)
  generalize rs α = α' at *
  generalize rs β = β' at *
  have x1 := abs_mul (x := α' - α) (y := c) (a := 2 * eps + u / 2) (b := 2000) (by grind) (by grind) c1 c2
  have x2 := abs_mul (x := β' - β) (y := d) (a := 2 * eps + u / 2) (b := 2000) (by grind) (by grind) d1 d2
  have y1 := abs_mul (x := α') (y := c) (a := 3) (b := 2000) (by unfold eps at *; grind) (by unfold eps at *; grind) c1 c2
  have y2 := abs_mul (x := β') (y := d) (a := 3) (b := 2000) (by unfold eps at *; grind) (by unfold eps at *; grind) d1 d2
  have z1 := rsE (q := α' * c) (M := 6000) (by grind) (by grind) (by grind)
  have z2 := rsE (q := β' * d) (M := 6000) (by grind) (by grind) (by grind)
  generalize rs (α' * c) = p1 at *
  generalize rs (β' * d) = p2 at *
  have w := rsE (q := p1 + p2) (M := 13000) (by unfold eps at *; grind) (by unfold eps at *; grind) (by grind)
  unfold eps at *
  constructor <;> grind

theorem cast_bd {a : Int} {M : Int} (h1 : -M ≤ a) (h2 : a ≤ M) : -(M : Rat) ≤ (a : Rat) ∧ (a : Rat) ≤ (M : Rat) := by
  have c1 := Rat.intCast_le_intCast.2 h1
  have c2 := Rat.intCast_le_intCast.2 h2
  rw [Rat.intCast_neg] at c1
  exact ⟨c1, c2⟩

/-- The outward way of a side. -/
theorem normal_num {s0 s1 : Nat} {a b : Int} (h : Way s0 s1 a b) (hne : a ≠ 0 ∨ b ≠ 0) :
    ∃ (L β α : Rat), 1 ≤ L ∧ L ≤ 4096 ∧ β * L = (b : Rat) ∧ α * L = -(a : Rat) ∧ -2 ≤ β ∧ β ≤ 2 ∧ -2 ≤ α ∧ α ≤ 2 ∧
      fin (vec_Unit_0 (vec_Right_0 s0 s1) (vec_Right_1 s0 s1)) ∧ V (vec_Unit_0 (vec_Right_0 s0 s1) (vec_Right_1 s0 s1)) = rs β ∧
      fin (vec_Unit_1 (vec_Right_0 s0 s1) (vec_Right_1 s0 s1)) ∧ V (vec_Unit_1 (vec_Right_0 s0 s1) (vec_Right_1 s0 s1)) = rs α := by
  have hu := u_pos
  have hus := u_smaller
  have hbb := bnd_bigger
  have z := V0
  have r0 : IW (vec_Right_0 s0 s1) b := by
    have := h.y.neg.neg
    rw [Int.neg_neg] at this; exact this
  have r1 : IW (vec_Right_1 s0 s1) (-a) := h.x.neg
  have := h.xl; have := h.xh; have := h.yl; have := h.yh
  have R : Way (vec_Right_0 s0 s1) (vec_Right_1 s0 s1) b (-a) := ⟨r0, r1, by omega, by omega, by omega, by omega⟩
  obtain ⟨lf, l1, lp⟩ := R.length (by omega)
  obtain ⟨qi, qn, qu⟩ := R.square
  have Q0 : 0 ≤ V (vec_Square (vec_Right_0 s0 s1) (vec_Right_1 s0 s1)) := by
    rw [qi.v]; exact Rat.intCast_le_intCast.2 qn
  have Q8 : V (vec_Square (vec_Right_0 s0 s1) (vec_Right_1 s0 s1)) ≤ 8000000 := by
    rw [qi.v]; exact Rat.intCast_le_intCast.2 qu
  have l2 : V (vec_Length (vec_Right_0 s0 s1) (vec_Right_1 s0 s1)) ≤ 4096 := by
    have h1 := sqrt_le qi.f Q0 (R := 4096) (by grind) (by grind)
    have h2 := rs_nat (k := 4096) (by omega)
    have h3 : rs 4096 = 4096 := h2
    rw [h3] at h1; exact h1
  have er : V (vec_Square (vec_Right_0 s0 s1) (vec_Right_1 s0 s1)) ≤ (V (vec_Length (vec_Right_0 s0 s1) (vec_Right_1 s0 s1)) * (1 + eps) + u / 2) * (V (vec_Length (vec_Right_0 s0 s1) (vec_Right_1 s0 s1)) * (1 + eps) + u / 2) := sqrt_err qi.f Q0
  rw [qi.v] at er
  have fin_ : num_Finite (vec_Length (vec_Right_0 s0 s1) (vec_Right_1 s0 s1)) = true := by
    unfold num_Finite
    have sr := sub_res lf lf
    have e0 : V (vec_Length (vec_Right_0 s0 s1) (vec_Right_1 s0 s1)) - V (vec_Length (vec_Right_0 s0 s1) (vec_Right_1 s0 s1)) = 0 := by grind
    have sv := sr.v
    rw [e0, rs_zero] at sv
    rw [fEq_iff sr.num (num_of_fin z.2), sv, z.1]
  have ne0 : fEq (vec_Length (vec_Right_0 s0 s1) (vec_Right_1 s0 s1)) 0 = false := by
    cases hc : fEq (vec_Length (vec_Right_0 s0 s1) (vec_Right_1 s0 s1)) 0
    · rfl
    · rw [fEq_iff (num_of_fin lf) (num_of_fin z.2), z.1] at hc; grind
  have U0 : vec_Unit_0 (vec_Right_0 s0 s1) (vec_Right_1 s0 s1) = fdiv (vec_Right_0 s0 s1) (vec_Length (vec_Right_0 s0 s1) (vec_Right_1 s0 s1)) := by
    unfold vec_Unit_0; rw [fin_, ne0]; rfl
  have U1 : vec_Unit_1 (vec_Right_0 s0 s1) (vec_Right_1 s0 s1) = fdiv (vec_Right_1 s0 s1) (vec_Length (vec_Right_0 s0 s1) (vec_Right_1 s0 s1)) := by
    unfold vec_Unit_1; rw [fin_, ne0]; rfl
  have lne : V (vec_Length (vec_Right_0 s0 s1) (vec_Right_1 s0 s1)) ≠ 0 := by grind
  have d0 := div_res r0.f lf lne
  have d1 := div_res r1.f lf lne
  rw [U0, U1]
  rw [r0.v] at d0
  rw [r1.v] at d1
  generalize V (vec_Length (vec_Right_0 s0 s1) (vec_Right_1 s0 s1)) = L at *
  obtain ⟨β, hβ⟩ : ∃ β, (b : Rat) / L = β := ⟨_, rfl⟩
  obtain ⟨α, hα⟩ : ∃ α, ((-a : Int) : Rat) / L = α := ⟨_, rfl⟩
  have mβ : β * L = (b : Rat) := by rw [← hβ]; exact Rat.div_mul_cancel lne
  have mα : α * L = -(a : Rat) := by rw [← hα, Rat.div_mul_cancel lne, Rat.intCast_neg]
  rw [hβ] at d0
  rw [hα] at d1
  have eQ : ((b * b + -a * -a : Int) : Rat) = (b : Rat) * b + (a : Rat) * a := by
    rw [Rat.intCast_add, Rat.intCast_mul, Rat.intCast_mul, Rat.intCast_neg]; grind
  rw [eQ] at er
  have part2 : ∀ t W : Rat, t * L = W → W * W ≤ (L * (1 + eps) + u / 2) * (L * (1 + eps) + u / 2) → -2 ≤ t ∧ t ≤ 2 := by
    intro t W ht hW
    have hp : 0 ≤ L * (1 + eps) + u / 2 := by
      have := Rat.mul_nonneg (show 0 ≤ L by grind) (show 0 ≤ 1 + eps by have := eps_pos; grind)
      grind
    have h1 : W ≤ L * (1 + eps) + u / 2 := le_of_mul_self hp hW
    have h2 : -W ≤ L * (1 + eps) + u / 2 := le_of_mul_self hp (by grind)
    constructor
    · apply Classical.byContradiction
      intro hn
      have := Rat.mul_lt_mul_of_pos_right (show 2 < -t by grind) (show 0 < L by grind)
      unfold eps at *
      grind
    · apply Classical.byContradiction
      intro hn
      have := Rat.mul_lt_mul_of_pos_right (show 2 < t by grind) (show 0 < L by grind)
      unfold eps at *
      grind
  have na := mul_self_nonneg (a : Rat)
  have nb := mul_self_nonneg (b : Rat)
  have bβ := part2 β _ mβ (by grind)
  have bα := part2 α _ mα (by grind)
  exact ⟨L, β, α, l1, l2, mβ, mα, bβ.1, bβ.2, bα.1, bα.2, d0.fin (by grind) (by grind), d0.v, d1.fin (by grind) (by grind), d1.v⟩

/-- The outward way times a way of whole numbers. -/
theorem normal_dot {n0 n1 x y : Nat} {a b c d : Int} {L β α : Rat} (l1 : 1 ≤ L) (l2 : L ≤ 4096) (mβ : β * L = (b : Rat)) (mα : α * L = -(a : Rat)) (b1 : -2 ≤ β) (b2 : β ≤ 2) (a1 : -2 ≤ α) (a2 : α ≤ 2)
    (f0 : fin n0) (v0 : V n0 = rs β) (f1 : fin n1) (v1 : V n1 = rs α) (w : Way x y c d) :
    fin (vec_Dot n0 n1 x y) ∧ V (vec_Dot n0 n1 x y) * L ≤ ((b * c - a * d : Int) : Rat) + 1 / 33554432 ∧ ((b * c - a * d : Int) : Rat) ≤ V (vec_Dot n0 n1 x y) * L + 1 / 33554432 := by
  have cb := cast_bd (M := 2000) w.xl w.xh
  have db := cast_bd (M := 2000) w.yl w.yh
  have e2 : ((2000 : Int) : Rat) = 2000 := rfl
  rw [e2] at cb db
  have p12 : (2 : Rat) ^ 2 = 4 := by grind
  have p11 : (2 : Rat) ^ 11 = 2048 := by grind
  have r2 : rs 2 = 2 := rs_nat (k := 2) (by omega)
  have bn : Bd 2 n0 := ⟨f0, by rw [p12, v0]; have := rs_mono b1; rw [rs_neg, r2] at this; grind, by rw [p12, v0]; have := rs_mono b2; rw [r2] at this; grind⟩
  have bm : Bd 2 n1 := ⟨f1, by rw [p12, v1]; have := rs_mono a1; rw [rs_neg, r2] at this; grind, by rw [p12, v1]; have := rs_mono a2; rw [r2] at this; grind⟩
  have bx : Bd 11 x := ⟨w.x.f, by rw [p11, w.x.v]; grind, by rw [p11, w.x.v]; grind⟩
  have by_ : Bd 11 y := ⟨w.y.f, by rw [p11, w.y.v]; grind, by rw [p11, w.y.v]; grind⟩
  obtain ⟨m1, e1⟩ := bn.mul bx (by omega)
  obtain ⟨m2, e3⟩ := bm.mul by_ (by omega)
  obtain ⟨m3, e4⟩ := m1.add m2 (by omega)
  have ed : vec_Dot n0 n1 x y = fadd (fmul n0 x) (fmul n1 y) := rfl
  rw [ed]
  refine ⟨m3.f, ?_⟩
  rw [e4, e1, e3, v0, v1, w.x.v, w.y.v]
  have ud := unit_dot (A := 0) (B := 0) b1 b2 a1 a2 cb.1 cb.2 db.1 db.2
  generalize rs (rs (rs β * (c : Rat)) + rs (rs α * (d : Rat))) = G at *
  have hL : 0 ≤ L := by grind
  have u1 := Rat.mul_le_mul_of_nonneg_right ud.1 hL
  have u2 := Rat.mul_le_mul_of_nonneg_right ud.2 hL
  have ex : (β * (c : Rat) + α * (d : Rat)) * L = ((b * c - a * d : Int) : Rat) := by
    rw [Rat.intCast_sub, Rat.intCast_mul, Rat.intCast_mul, ← mβ]
    have : (α * L) * (d : Rat) = -(a : Rat) * d := by rw [mα]
    grind
  constructor <;> grind

/-- One side: where the ray comes to it. -/
theorem side_cases {f g : Nat} {k0 k1 : Int} {L : Rat} (hf : fin f) (hg : fin g) (l1 : 1 ≤ L) (F1 : V f * L ≤ -(k0 : Rat) + 1 / 33554432) (F2 : -(k0 : Rat) ≤ V f * L + 1 / 33554432)
    (G1 : V g * L ≤ ((k0 - k1 : Int) : Rat) + 1 / 33554432) (G2 : ((k0 - k1 : Int) : Rat) ≤ V g * L + 1 / 33554432) (h1 : 1 ≤ k1) (h2 : k1 ≤ 8000000) (h3 : -8000000 ≤ k0) (h4 : k0 ≤ 8000000) :
    (fEq g 0 = true → fGt f 0 = false) ∧
    (fLt g 0 = true → num (fdiv (fneg f) g) ∧ V (fdiv (fneg f) g) ≤ 1 - 1 / 33554432 ∧ (k0 ≤ -1 → 1 / 33554432 ≤ V (fdiv (fneg f) g))) ∧
    (fGt g 0 = true → num (fdiv (fneg f) g) ∧ 1 ≤ V (fdiv (fneg f) g)) ∧
    (k0 ≤ -1 → fLt g 0 = true ∧ fEq g 0 = false) := by
  have z := V0
  have hL : 0 < L := by grind
  obtain ⟨nf1, nf2, nf3⟩ := V_fneg (num_of_fin hf)
  have cast_le : ∀ {x y : Int}, x ≤ y → (x : Rat) ≤ (y : Rat) := fun h => Rat.intCast_le_intCast.2 h
  have K1 : (1 : Rat) ≤ (k1 : Rat) := cast_le h1
  have K2 : (k1 : Rat) ≤ 8000000 := cast_le h2
  have K3 : (-8000000 : Rat) ≤ (k0 : Rat) := cast_le h3
  have K4 : (k0 : Rat) ≤ 8000000 := cast_le h4
  have eG : ((k0 - k1 : Int) : Rat) = (k0 : Rat) - k1 := Rat.intCast_sub k0 k1
  -- the quotient, where there is one
  have quo : V g ≠ 0 → ∃ t : Rat, t * (V g * L) = -(V f * L) ∧ Res (fdiv (fneg f) g) t := by
    intro hne
    have r := div_res (nf3 hf) hg hne
    rw [nf1] at r
    refine ⟨-V f / V g, ?_, r⟩
    have : -V f / V g * V g = -V f := Rat.div_mul_cancel hne
    generalize -V f / V g = t at *
    have : t * V g * L = -V f * L := by rw [this]
    grind
  -- a whole number that nearly is between
  have int0 : ∀ (n : Int) (e : Rat), (n : Rat) ≤ e → e < 1 → n ≤ 0 := by
    intro n e h1 h2
    apply Classical.byContradiction
    intro hn
    have := cast_le (show (1 : Int) ≤ n by omega)
    have e1 : ((1 : Int) : Rat) = 1 := rfl
    rw [e1] at this
    grind
  have int1 : ∀ (n : Int) (e : Rat), e ≤ (n : Rat) → -1 < e → 0 ≤ n := by
    intro n e h1 h2
    have := int0 (-n) (-e) (by rw [Rat.intCast_neg]; grind) (by grind)
    omega
  have rup : rs (1 - 1 / 33554432) = 1 - 1 / 33554432 := by
    have := rs_dyad (N := 33554431) (by omega) (k := 25) (by omega)
    have p : (2 : Rat) ^ 25 = 33554432 := by grind
    rw [p] at this
    have e : ((33554431 : Nat) : Rat) / 33554432 = 1 - 1 / 33554432 := by
      have : ((33554431 : Nat) : Rat) = 33554431 := rfl
      rw [this]; grind
    rw [e] at this; exact this
  have rlo : rs (1 / 33554432) = 1 / 33554432 := by
    have := rs_dyad (N := 1) (by omega) (k := 25) (by omega)
    have p : (2 : Rat) ^ 25 = 33554432 := by grind
    rw [p] at this; exact this
  refine ⟨?_, ?_, ?_, ?_⟩
  · intro h
    rw [fEq_iff (num_of_fin hg) (num_of_fin z.2), z.1] at h
    rw [h, Rat.zero_mul, eG] at G1 G2
    have a1 := int0 (k0 - k1) (1 / 33554432) (by rw [eG]; grind) (by grind)
    have a2 := int1 (k0 - k1) (-(1 / 33554432)) (by rw [eG]; grind) (by grind)
    have a3 : k0 = k1 := by omega
    cases hc : fGt f 0
    · rfl
    · rw [fGt_iff (num_of_fin hf) (num_of_fin z.2), z.1] at hc
      have := Rat.mul_pos hc hL
      rw [a3] at F1
      grind
  · intro h
    rw [fLt_iff (num_of_fin hg) (num_of_fin z.2), z.1] at h
    obtain ⟨t, ht, r⟩ := quo (by grind)
    have gL : V g * L < 0 := by
      have := Rat.mul_lt_mul_of_pos_right h hL
      rw [Rat.zero_mul] at this; exact this
    have a1 := int0 (k0 - k1) (1 / 33554432) (by rw [eG] at G2 ⊢; grind) (by grind)
    rw [eG] at G1 G2
    generalize V g * L = g' at *
    generalize V f * L = f' at *
    refine ⟨r.num, ?_, ?_⟩
    · rw [r.v, ← rup]
      refine rs_mono ?_
      apply Classical.byContradiction
      intro hn
      have m := Rat.mul_lt_mul_of_pos_right (show 1 - 1 / 33554432 < t by grind) (show 0 < -g' by grind)
      by_cases hk : k0 ≤ -1
      · have := cast_le hk
        have e1 : (((-1 : Int)) : Rat) = -1 := rfl
        rw [e1] at this
        grind
      · have := cast_le (show (0 : Int) ≤ k0 by omega)
        have e1 : ((0 : Int) : Rat) = 0 := rfl
        rw [e1] at this
        by_cases hk1 : k0 = 0
        · rw [hk1, e1] at F1 F2 G1 G2
          grind
        · have := cast_le (show (1 : Int) ≤ k0 by omega)
          have e2 : ((1 : Int) : Rat) = 1 := rfl
          rw [e2] at this
          grind
    · intro hk
      rw [r.v, ← rlo]
      refine rs_mono ?_
      apply Classical.byContradiction
      intro hn
      have m := Rat.mul_lt_mul_of_pos_right (show t < 1 / 33554432 by grind) (show 0 < -g' by grind)
      have := cast_le hk
      have e1 : (((-1 : Int)) : Rat) = -1 := rfl
      rw [e1] at this
      grind
  · intro h
    rw [fGt_iff (num_of_fin hg) (num_of_fin z.2), z.1] at h
    obtain ⟨t, ht, r⟩ := quo (by grind)
    have gL : 0 < V g * L := Rat.mul_pos h hL
    have a2 := int1 (k0 - k1) (-(1 / 33554432)) (by rw [eG] at G1 ⊢; grind) (by grind)
    have a3 := cast_le (show k1 ≤ k0 by omega)
    rw [eG] at G1 G2
    generalize V g * L = g' at *
    generalize V f * L = f' at *
    refine ⟨r.num, ?_⟩
    rw [r.v, ← rs_one]
    refine rs_mono ?_
    apply Classical.byContradiction
    intro hn
    have m := Rat.mul_lt_mul_of_pos_right (show t < 1 by grind) gL
    grind
  · intro hk
    have := cast_le hk
    have e1 : (((-1 : Int)) : Rat) = -1 := rfl
    rw [e1] at this
    rw [eG] at G1
    have hlt : V g < 0 := by
      apply Classical.byContradiction
      intro hn
      have := Rat.mul_nonneg (show 0 ≤ V g by grind) (Rat.le_of_lt hL)
      grind
    constructor
    · rw [fLt_iff (num_of_fin hg) (num_of_fin z.2), z.1]; exact hlt
    · cases hc : fEq g 0
      · rfl
      · rw [fEq_iff (num_of_fin hg) (num_of_fin z.2), z.1] at hc; grind
end
end Go.Proofs.Ythopjahoaljhaaa.X

/-! ## Of whole numbers: a ray from outside a polygon to a place within it meets it on its way: the loop over the sides. -/
set_option linter.unusedVariables false
set_option linter.unusedSimpArgs false
namespace Go.Proofs.Ythopjahoaljhaaa.X
open Go
noncomputable section

theorem smallFold {l : List Pr2} : ∀ (n i : Nat) (b : Bool), foldI (smallF l) i n b = true → b = true ∧ ∀ j, i ≤ j → j < i + n → law12_small (gp l j).1 (gp l j).2 = true
  | 0, i, b, h => ⟨h, fun j h1 h2 => by omega⟩
  | n + 1, i, b, h => by
    rw [foldI] at h
    obtain ⟨h1, h2⟩ := smallFold n (i + 1) _ h
    unfold smallF at h1
    rw [Bool.and_eq_true] at h1
    refine ⟨h1.1, fun j h3 h4 => ?_⟩
    by_cases e : j = i
    · subst e; exact h1.2
    · exact h2 j (by omega) (by omega)
theorem fillN_get {l : List Pr2} : ∀ (m i : Nat) (b : List Pr2) (j : Nat), i + m ≤ b.length → gp (foldI (fillN l) i m b) j = if i ≤ j ∧ j < i + m then normalF l j else gp b j
  | 0, i, b, j, h => by rw [if_neg (by omega)]; rfl
  | m + 1, i, b, j, h => by
    have hl : (fillN l i b).length = b.length := by simp [fillN]
    rw [foldI, fillN_get m (i + 1) (fillN l i b) j (by omega)]
    by_cases h1 : i + 1 ≤ j ∧ j < i + 1 + m
    · rw [if_pos h1, if_pos (by omega)]
    · rw [if_neg h1]
      by_cases e : j = i
      · subst e
        rw [if_pos (by omega)]
        unfold fillN gp
        rw [List.getElem?_set_self (by omega)]; rfl
      · rw [if_neg (by omega)]
        unfold fillN gp
        rw [List.getElem?_set_ne (fun h => e h.symm)]
theorem normals_get {l : List Pr2} (hc : poly_Check l = 0) {i : Nat} (h : i < l.length) : gp (poly_Normals l) i = normalF l i := by
  unfold poly_Normals
  have e : (poly_Check l != 0) = false := by simp [hc]
  rw [e, cond_false]
  unfold normalsF
  rw [fillN_get l.length 0 _ i (by simp), if_pos (by omega)]
theorem normals_len {l : List Pr2} (hc : poly_Check l = 0) : (poly_Normals l).length = l.length := by
  unfold poly_Normals
  have e : (poly_Check l != 0) = false := by simp [hc]
  rw [e, cond_false]
  unfold normalsF
  rw [fillN_len]; simp

theorem fmin_of {x y : Nat} (hx : num x) (hy : num y) : fmin x y = x ∨ fmin x y = y := by
  unfold fmin
  rw [order_num hx hy]
  unfold cmpR
  split
  · rename_i h; split at h <;> (try split at h) <;> cases h
  · exact .inl rfl
  · exact .inr rfl
  · split
    · exact .inl rfl
    · exact .inr rfl

/-- What is carried on. -/
structure Carry (b : Int × Nat × Nat) : Prop where
  tn : num b.2.1
  tv : V b.2.1 ≤ 1 - 1 / 33554432
  en : num b.2.2
  ev : 1 ≤ V b.2.2
  side : 0 ≤ b.1 ∨ V b.2.1 < 0
def Hits (b : Int × Nat × Nat) : Prop := 0 ≤ b.1 ∧ 1 / 33554432 ≤ V b.2.1

theorem step_carry {l nm : List Pr2} {p0 p1 w0 w1 i : Nat} {b : Int × Nat × Nat} {k0 : Int} (hb : Carry b) (f g : Nat) (ef : vec_Dot (gp nm i).1 (gp nm i).2 (vec_Sub_0 p0 p1 (gp l i).1 (gp l i).2) (vec_Sub_1 p0 p1 (gp l i).1 (gp l i).2) = f) (eg : vec_Dot (gp nm i).1 (gp nm i).2 w0 w1 = g)
    (hc : (fEq g 0 = true → fGt f 0 = false) ∧
      (fLt g 0 = true → num (fdiv (fneg f) g) ∧ V (fdiv (fneg f) g) ≤ 1 - 1 / 33554432 ∧ (k0 ≤ -1 → 1 / 33554432 ≤ V (fdiv (fneg f) g))) ∧
      (fGt g 0 = true → num (fdiv (fneg f) g) ∧ 1 ≤ V (fdiv (fneg f) g)) ∧
      (k0 ≤ -1 → fLt g 0 = true ∧ fEq g 0 = false)) :
    ∃ b', polyStep l nm p0 p1 w0 w1 i b = some b' ∧ Carry b' ∧ (Hits b → Hits b') ∧ (k0 ≤ -1 → Hits b') := by
  obtain ⟨c1, c2, c3, c4⟩ := hc
  unfold polyStep
  rw [ef, eg]
  have h0 : (fEq g 0 && fGt f 0) = false := by
    cases h : fEq g 0
    · rfl
    · rw [c1 h]; rfl
  rw [h0, cond_false]
  cases hl : fLt g 0
  · rw [Bool.false_and, cond_false]
    cases hg : fGt g 0
    · rw [cond_false]
      exact ⟨b, rfl, hb, fun h => h, fun h => by have := (c4 h).1; rw [hl] at this; cases this⟩
    · rw [cond_true]
      obtain ⟨n3, v3⟩ := c3 hg
      refine ⟨_, rfl, ⟨hb.tn, hb.tv, ?_, ?_, hb.side⟩, fun h => h, fun h => by have := (c4 h).1; rw [hl] at this; cases this⟩
      · rcases fmin_of hb.en n3 with e | e <;> simp only [e]
        · exact hb.en
        · exact n3
      · rcases fmin_of hb.en n3 with e | e <;> simp only [e]
        · exact hb.ev
        · exact v3
  · obtain ⟨n2, v2, w2⟩ := c2 hl
    rw [Bool.true_and]
    cases ha : fGt (fdiv (fneg f) g) b.2.1
    · rw [cond_false]
      have hge : V (fdiv (fneg f) g) ≤ V b.2.1 := by
        apply Classical.byContradiction
        intro hn
        have := (fGt_iff n2 hb.tn).2 (by grind)
        rw [ha] at this; cases this
      have hgt : fGt g 0 = false := by
        have z := V0
        have ng := (num_of_fLt hl).1
        cases h : fGt g 0
        · rfl
        · rw [fLt_iff ng (num_of_fin z.2), z.1] at hl
          rw [fGt_iff ng (num_of_fin z.2), z.1] at h
          grind
      rw [hgt, cond_false]
      refine ⟨b, rfl, hb, fun h => h, fun h => ?_⟩
      have w := w2 h
      rcases hb.side with s | s
      · exact ⟨s, by grind⟩
      · exfalso; grind
    · rw [cond_true]
      rw [fGt_iff n2 hb.tn] at ha
      refine ⟨_, rfl, ⟨n2, v2, hb.en, hb.ev, .inl (show (0 : Int) ≤ (i : Int) by omega)⟩, fun h => ⟨?_, ?_⟩, fun h => ⟨?_, w2 h⟩⟩
      · show (0 : Int) ≤ (i : Int); omega
      · have := h.2
        show 1 / 33554432 ≤ V (fdiv (fneg f) g)
        grind
      · show (0 : Int) ≤ (i : Int); omega
theorem fold_carry {S : Nat → Int × Nat × Nat → Option (Int × Nat × Nat)} {P : Nat → Prop} : ∀ (n i : Nat) (b : Int × Nat × Nat), Carry b →
    (∀ j, i ≤ j → j < i + n → ∀ b, Carry b → ∃ b', S j b = some b' ∧ Carry b' ∧ (Hits b → Hits b') ∧ (P j → Hits b')) →
    ∃ b', foldO S i n b = some b' ∧ Carry b' ∧ (Hits b → Hits b') ∧ (∀ j, i ≤ j → j < i + n → P j → Hits b')
  | 0, i, b, hb, _ => ⟨b, rfl, hb, fun h => h, fun j h1 h2 => by omega⟩
  | n + 1, i, b, hb, hs => by
    obtain ⟨b1, e1, c1, h1, p1⟩ := hs i (Nat.le_refl _) (by omega) b hb
    obtain ⟨b2, e2, c2, h2, p2⟩ := fold_carry n (i + 1) b1 c1 (fun j h3 h4 => hs j (by omega) (by omega))
    refine ⟨b2, ?_, c2, fun h => h2 (h1 h), fun j h3 h4 hp => ?_⟩
    · rw [foldO, e1]; exact e2
    · by_cases e : j = i
      · subst e; exact h2 (p1 hp)
      · exact p2 j (by omega) (by omega) hp

/-- One side of a polygon of whole numbers. -/
theorem side_of {l : List Pr2} {d e : Pr2} {dx dy ex ey : Int} (hs : ∀ j, j < l.length → law12_small (gp l j).1 (gp l j).2 = true) (hd : Lat d dx dy) (he : Lat e ex ey) {i : Nat} (hi : i < l.length) (hc : poly_Check l = 0)
    (hin : insF l e.1 e.2 i = true) (b : Int × Nat × Nat) (hb : Carry b) :
    ∃ b', polyStep l (poly_Normals l) d.1 d.2 (vec_Sub_0 e.1 e.2 d.1 d.2) (vec_Sub_1 e.1 e.2 d.1 d.2) i b = some b' ∧ Carry b' ∧ (Hits b → Hits b') ∧ (hasF l d.1 d.2 i = false → Hits b') := by
  have hi1 : (i + 1) % l.length < l.length := Nat.mod_lt _ (by omega)
  obtain ⟨px, py, hp⟩ := small_lat (hs i hi)
  obtain ⟨qx, qy, hq⟩ := small_lat (hs _ hi1)
  have W : Way (way0 l i) (way1 l i) (qx - px) (qy - py) := hp.sub hq
  have D : Way (vec_Sub_0 d.1 d.2 (gp l i).1 (gp l i).2) (vec_Sub_1 d.1 d.2 (gp l i).1 (gp l i).2) (dx - px) (dy - py) := hp.sub hd
  have E : Way (vec_Sub_0 e.1 e.2 (gp l i).1 (gp l i).2) (vec_Sub_1 e.1 e.2 (gp l i).1 (gp l i).2) (ex - px) (ey - py) := hp.sub he
  have T : Way (vec_Sub_0 e.1 e.2 d.1 d.2) (vec_Sub_1 e.1 e.2 d.1 d.2) (ex - dx) (ey - dy) := hd.sub he
  have k0 := W.cross D
  have k1 := W.cross E
  unfold insF at hin
  rw [k1.1.gt IW0, decide_eq_true_iff] at hin
  have hne : qx - px ≠ 0 ∨ qy - py ≠ 0 := by
    by_cases a : qx - px = 0
    · by_cases b : qy - py = 0
      · rw [a, b] at hin; simp at hin
      · exact .inr b
    · exact .inl a
  obtain ⟨L, β, α, l1, l2, mβ, mα, b1, b2, a1, a2, f0, v0, f1, v1⟩ := normal_num W hne
  have n0 : (gp (poly_Normals l) i) = normalF l i := normals_get hc hi
  have d0 := normal_dot l1 l2 mβ mα b1 b2 a1 a2 f0 v0 f1 v1 D
  have d1 := normal_dot l1 l2 mβ mα b1 b2 a1 a2 f0 v0 f1 v1 T
  have e0 : (qy - py) * (dx - px) - (qx - px) * (dy - py) = -((qx - px) * (dy - py) - (qy - py) * (dx - px)) := by grind
  have e1 : (qy - py) * (ex - dx) - (qx - px) * (ey - dy) = ((qx - px) * (dy - py) - (qy - py) * (dx - px)) - ((qx - px) * (ey - py) - (qy - py) * (ex - px)) := by grind
  rw [e0, Rat.intCast_neg] at d0
  rw [e1] at d1
  have sc := side_cases d0.1 d1.1 l1 d0.2.1 d0.2.2 d1.2.1 d1.2.2 (by omega) k1.2.2 k0.2.1 k0.2.2
  have u0 : (gp (poly_Normals l) i).1 = vec_Unit_0 (vec_Right_0 (way0 l i) (way1 l i)) (vec_Right_1 (way0 l i) (way1 l i)) := by rw [n0]; rfl
  have u1 : (gp (poly_Normals l) i).2 = vec_Unit_1 (vec_Right_0 (way0 l i) (way1 l i)) (vec_Right_1 (way0 l i) (way1 l i)) := by rw [n0]; rfl
  rw [← u0, ← u1] at sc
  obtain ⟨b', s1, s2, s3, s4⟩ := step_carry hb _ _ rfl rfl sc
  refine ⟨b', s1, s2, s3, fun h => s4 ?_⟩
  unfold hasF at h
  rw [k0.1.lt IW0] at h
  have h2 : decide ((qx - px) * (dy - py) - (qy - py) * (dx - px) < 0) = true := by
    cases hh : decide ((qx - px) * (dy - py) - (qy - py) * (dx - px) < 0)
    · rw [hh] at h; cases h
    · rfl
  rw [decide_eq_true_iff] at h2
  omega

theorem V_pinf : V (math_Inf 1) = 2 ^ (1024 : Int) ∧ num (math_Inf 1) := by
  have e : rg (math_Inf 1) = infR := by decide
  have s : sg (math_Inf 1) = false := by decide
  exact ⟨by unfold V; rw [s, e, if_neg (by simp)]; exact inf_val, by unfold num; rw [e]; exact Nat.le_refl _⟩
theorem V_ninf : V (math_Inf (-1)) = -2 ^ (1024 : Int) ∧ num (math_Inf (-1)) := by
  have e : rg (math_Inf (-1)) = infR := by decide
  have s : sg (math_Inf (-1)) = true := by decide
  exact ⟨by unfold V; rw [s, e, if_pos rfl, inf_val], by unfold num; rw [e]; exact Nat.le_refl _⟩

theorem carry_first : Carry ((-1 : Int), math_Inf (-1), math_Inf 1) := by
  have p := zpow_le (show (0 : Int) ≤ 1024 by omega)
  rw [Rat.zpow_zero] at p
  exact ⟨V_ninf.2, by show V (math_Inf (-1)) ≤ _; rw [V_ninf.1]; grind, V_pinf.2, by show 1 ≤ V (math_Inf 1); rw [V_pinf.1]; exact p, .inr (by show V (math_Inf (-1)) < 0; rw [V_ninf.1]; grind)⟩

theorem law_poly {a : List Pr2} {d0 d1 e0 e1 : Nat} (s0 : law12_small d0 d1 = true) (s1 : law12_small e0 e1 = true) (hc : poly_Check a = 0) (hs : foldI (smallF a) 0 a.length true = true) (hin : law12_inside a e0 e1 = true) :
    (poly_Has_1 a d0 d1 = 0) ∧ ((fEq d0 e0 && (fEq d1 e1 && true)) = false →
      ray_Polygon_5 a d0 d1 (vec_Sub_0 e0 e1 d0 d1) (vec_Sub_1 e0 e1 d0 d1) = true ∧ ray_Polygon_6 a d0 d1 (vec_Sub_0 e0 e1 d0 d1) (vec_Sub_1 e0 e1 d0 d1) = 0 ∧
      (poly_Has_0 a d0 d1 = true → ray_Polygon_4 a d0 d1 (vec_Sub_0 e0 e1 d0 d1) (vec_Sub_1 e0 e1 d0 d1) = 0) ∧
      (poly_Has_0 a d0 d1 = false → fGt (ray_Polygon_4 a d0 d1 (vec_Sub_0 e0 e1 d0 d1) (vec_Sub_1 e0 e1 d0 d1)) 0 = true ∧ fLt (ray_Polygon_4 a d0 d1 (vec_Sub_0 e0 e1 d0 d1) (vec_Sub_1 e0 e1 d0 d1)) 4607182418800017408 = true)) := by
  obtain ⟨dx, dy, hd⟩ := small_lat (p := (d0, d1)) s0
  obtain ⟨ex, ey, he⟩ := small_lat (p := (e0, e1)) s1
  obtain ⟨-, hsm⟩ := smallFold _ _ _ hs
  have hc' : (poly_Check a != 0) = false := by simp [hc]
  have hw : vec_Within d0 d1 4787326403894837248 = true := hd.within
  refine ⟨by unfold poly_Has_1; rw [hc', cond_false, hw, cond_true], fun hne => ?_⟩
  have T : Way (vec_Sub_0 e0 e1 d0 d1) (vec_Sub_1 e0 e1 d0 d1) (ex - dx) (ey - dy) := hd.sub he
  have hn : ex - dx ≠ 0 ∨ ey - dy ≠ 0 := by
    rw [hd.x.eq he.x, hd.y.eq he.y] at hne
    by_cases a : dx = ex
    · by_cases b : dy = ey
      · rw [a, b] at hne; simp at hne
      · exact .inr (by omega)
    · exact .inl (by omega)
  have ask : ray_asked d0 d1 (vec_Sub_0 e0 e1 d0 d1) (vec_Sub_1 e0 e1 d0 d1) = 0 := asked_ok hd T hn
  have ask' : (ray_asked d0 d1 (vec_Sub_0 e0 e1 d0 d1) (vec_Sub_1 e0 e1 d0 d1) != 0) = false := by simp [ask]
  have six : ray_Polygon_6 a d0 d1 (vec_Sub_0 e0 e1 d0 d1) (vec_Sub_1 e0 e1 d0 d1) = 0 := by
    unfold ray_Polygon_6; rw [hc', ask', cond_false, cond_false]
  cases hh : poly_Has_0 a d0 d1
  · have has : ∃ j, j < a.length ∧ hasF a d0 d1 j = false := by
      apply Classical.byContradiction
      intro hno
      have all : allF (hasF a d0 d1) 0 a.length = true := allF_iff.2 (fun j _ h2 => by
        cases h : hasF a d0 d1 j
        · exact (hno ⟨j, by omega, h⟩).elim
        · rfl)
      unfold poly_Has_0 at hh
      rw [hc', cond_false, hw, all] at hh
      cases hh
    obtain ⟨j, hj, hjf⟩ := has
    unfold law12_inside at hin
    rw [allF_iff] at hin
    obtain ⟨b', fe, cb, -, hb⟩ := fold_carry (S := polyStep a (poly_Normals a) d0 d1 (vec_Sub_0 e0 e1 d0 d1) (vec_Sub_1 e0 e1 d0 d1)) (P := fun j => hasF a d0 d1 j = false) a.length 0 _ carry_first
      (fun j h1 h2 b hb => side_of (d := (d0, d1)) (e := (e0, e1)) (fun j hj => hsm j (by omega) (by omega)) hd he (show j < a.length by omega) hc (hin j h1 h2) b hb)
    have hit := hb j (by omega) (by omega) hjf
    have hl : polyLoop a (poly_Normals a) d0 d1 (vec_Sub_0 e0 e1 d0 d1) (vec_Sub_1 e0 e1 d0 d1) ((-1 : Int), math_Inf (-1), math_Inf 1) = some b' := by
      unfold polyLoop; rw [normals_len hc]; exact fe
    have z := V0
    have o := V1
    have n1 : decide (b'.1 < 0) = false := decide_eq_false (by have := hit.1; omega)
    have hv := hit.2
    have tv := cb.tv
    have ev := cb.ev
    have n2 : ray_part b'.2.1 = true := by
      unfold ray_part
      rw [Bool.and_eq_true, fGe_iff cb.tn (num_of_fin z.2), fLe_iff cb.tn (num_of_fin o.2), z.1, o.1]
      constructor <;> grind
    have n3 : fGt b'.2.1 b'.2.2 = false := by
      cases h : fGt b'.2.1 b'.2.2
      · rfl
      · rw [fGt_iff cb.tn cb.en] at h; grind
    have five : ray_Polygon_5 a d0 d1 (vec_Sub_0 e0 e1 d0 d1) (vec_Sub_1 e0 e1 d0 d1) = true := by
      unfold ray_Polygon_5; rw [hc', ask', hh, hl]
      simp only [cond_false, Option.isNone_some, Option.getD_some, n1, n2, n3, Bool.false_or, Bool.not_false, Bool.and_true]
    have four : ray_Polygon_4 a d0 d1 (vec_Sub_0 e0 e1 d0 d1) (vec_Sub_1 e0 e1 d0 d1) = b'.2.1 := by
      unfold ray_Polygon_4; rw [hc', ask', hh, hl]
      simp only [cond_false, Option.isNone_some, Option.getD_some, n1, n2, n3, cond_true]
    refine ⟨five, six, fun h => (by cases h), fun _ => ?_⟩
    rw [four, fGt_iff cb.tn (num_of_fin z.2), fLt_iff cb.tn (num_of_fin o.2), z.1, o.1]
    constructor <;> grind
  · refine ⟨?_, six, fun _ => ?_, fun h => (by cases h)⟩
    · unfold ray_Polygon_5; rw [hc', ask', hh, cond_false, cond_false, Bool.true_or]
    · unfold ray_Polygon_4; rw [hc', ask', hh, cond_false, cond_false, cond_true]
end
end Go.Proofs.Ythopjahoaljhaaa.X
