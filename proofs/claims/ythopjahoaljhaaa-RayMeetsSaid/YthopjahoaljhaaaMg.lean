/- Plane geometry of the program's floats, first part: bounds, lengths, nearest places, segments, sides. (and what goes with it: 9 parts.) -/
import Derived.Test.YthopjahoaljhaaaMf
import Derived.Test.YthopjahoaljhaaaMe
/-! ## Plane geometry of the program's floats, first part: bounds, lengths, nearest places, segments, sides. -/
set_option linter.unusedVariables false
set_option linter.unusedSimpArgs false
namespace Go.Proofs.Ythopjahoaljhaaa.X
open Go
noncomputable section

/-! ### Constants -/
theorem V_lit (e : Nat) (he : e < 2046) : V ((e + 1) * 4503599627370496) = 2 ^ ((e : Int) - 1022) ∧ fin ((e + 1) * 4503599627370496) := by
  have h1 : rg ((e + 1) * 4503599627370496) = e * 4503599627370496 + 4503599627370496 := by unfold rg; omega
  have h2 : sg ((e + 1) * 4503599627370496) = false := by
    unfold sg
    have : (e + 1) * 4503599627370496 / 9223372036854775808 = 0 := by omega
    rw [this]; rfl
  refine ⟨?_, ?_⟩
  · rw [V_pos_of h2, h1, val_form e 4503599627370496 (.inr ⟨by omega, by omega⟩)]
    have h3 : 4503599627370496 * 2 ^ e = 2 ^ (52 + e) := by rw [Nat.pow_add]
    rw [h3, u_mul]
    congr 1; omega
  · unfold fin; rw [h1]; unfold infR; omega
theorem V0 : V 0 = 0 ∧ fin 0 := ⟨by rw [V_zero_mag]; rfl, by decide⟩
theorem V1 : V 4607182418800017408 = 1 ∧ fin 4607182418800017408 := by
  have := V_lit 1022 (by omega)
  exact ⟨by have := this.1; simpa using this, this.2⟩
theorem Vp40 : V 4787326403894837248 = 2 ^ 40 ∧ fin 4787326403894837248 := by
  have := V_lit 1062 (by omega)
  exact ⟨by rw [pow_zpow]; exact this.1, this.2⟩
theorem Vp20 : V 4697254411347427328 = 2 ^ 20 ∧ fin 4697254411347427328 := by
  have := V_lit 1042 (by omega)
  exact ⟨by rw [pow_zpow]; exact this.1, this.2⟩
theorem Vm30 : V 4472074429978902528 = 2 ^ (-30 : Int) ∧ fin 4472074429978902528 := by
  have := V_lit 992 (by omega)
  exact ⟨this.1, this.2⟩
theorem Vm10 : V 4562146422526312448 = 2 ^ (-10 : Int) ∧ fin 4562146422526312448 := by
  have := V_lit 1012 (by omega)
  exact ⟨this.1, this.2⟩
theorem Vm20 : V 4517110426252607488 = 2 ^ (-20 : Int) ∧ fin 4517110426252607488 := by
  have := V_lit 1002 (by omega)
  exact ⟨this.1, this.2⟩

/-! ### Places -/
abbrev Pr2 : Type := Nat × Nat
def Pt (k : Nat) (p : Pr2) : Prop := Bd k p.1 ∧ Bd k p.2
theorem Pt.mono {j k : Nat} {p : Pr2} (h : Pt j p) (hk : j ≤ k) : Pt k p := ⟨h.1.mono hk, h.2.mono hk⟩
theorem within_bd {x w : Nat} {k : Nat} (hw : V w = 2 ^ k) (fw : fin w) (hk : k ≤ 1000) (h : num_Within x w = true) : Bd k x := by
  unfold num_Within at h
  rw [Bool.and_eq_true] at h
  obtain ⟨h1, h2⟩ := h
  have n := num_of_fLe h2
  have hw' := V_fneg n.2
  rw [fLe_iff hw'.2.1 n.1, hw'.1, hw] at h1
  rw [fLe_iff n.1 n.2, hw] at h2
  have := pow_le_bnd hk
  exact ⟨fin_of n.1 (by grind) (by grind), h1, h2⟩
theorem within_pt {p : Pr2} {w : Nat} {k : Nat} (hw : V w = 2 ^ k) (fw : fin w) (hk : k ≤ 1000) (h : vec_Within p.1 p.2 w = true) : Pt k p := by
  unfold vec_Within at h
  rw [Bool.and_eq_true] at h
  exact ⟨within_bd hw fw hk h.1, within_bd hw fw hk h.2⟩

/-! ### Clamped to 0 .. 1 -/
theorem clamp01 (x : Nat) : fin (num_Clamp x 0 4607182418800017408) ∧ 0 ≤ V (num_Clamp x 0 4607182418800017408) ∧ V (num_Clamp x 0 4607182418800017408) ≤ 1 ∧
    (∀ q, num x → V x = q → V (num_Clamp x 0 4607182418800017408) = if q ≤ 0 then 0 else if 1 < q then 1 else q) := by
  have z := V0
  have o := V1
  unfold num_Clamp
  cases h1 : fGt x 0
  · simp only [cond_false]
    refine ⟨z.2, by rw [z.1]; exact Rat.le_refl, by rw [z.1]; grind, ?_⟩
    intro q hn hq
    have : ¬ (V 0 < V x) := fun h => by rw [← fGt_iff hn (num_of_fin z.2)] at h; rw [h1] at h; cases h
    rw [z.1] at this ⊢
    rw [if_pos (by grind)]
  · have n := num_of_fGt h1
    rw [fGt_iff n.1 n.2, z.1] at h1
    cases h2 : fGt x 4607182418800017408
    · simp only [cond_true, cond_false]
      have h3 : ¬ (1 < V x) := fun h => by
        have := (fGt_iff n.1 (num_of_fin o.2)).2 (by rw [o.1]; exact h)
        rw [h2] at this; cases this
      have hb := pow_le_bnd (k := 0) (by omega)
      refine ⟨fin_of n.1 (by grind) (by grind), by grind, by grind, ?_⟩
      intro q hn hq
      rw [if_neg (by grind), if_neg (by grind)]; exact hq
    · simp only [cond_true]
      rw [fGt_iff n.1 (num_of_fin o.2), o.1] at h2
      refine ⟨o.2, by rw [o.1]; grind, by rw [o.1]; exact Rat.le_refl, ?_⟩
      intro q hn hq
      rw [if_neg (by grind), if_pos (by grind)]; exact o.1
theorem clamp_bd (x : Nat) : Bd 0 (num_Clamp x 0 4607182418800017408) := by
  obtain ⟨h1, h2, h3, _⟩ := clamp01 x
  exact ⟨h1, by grind, by grind⟩

/-! ### Lengths -/
theorem Bd.sqrt {j x : Nat} (hx : Bd (j + j) x) (h0 : 0 ≤ V x) (hj : j ≤ 1000) : Bd j (fsqrt x) ∧ 0 ≤ V (fsqrt x) := by
  obtain ⟨h1, h2⟩ := sqrt_fin hx.f h0
  have e : (2 : Rat) ^ (j + j) = 2 ^ j * 2 ^ j := by rw [← castPow, Nat.pow_add, Rat.natCast_mul, castPow]
  have hp := two_pow_pos j
  have h3 := sqrt_le hx.f h0 (R := 2 ^ j) (Rat.le_of_lt hp) (by rw [← e]; exact hx.hi)
  rw [rs_pow2 hj] at h3
  exact ⟨⟨h1, by grind, h3⟩, h2⟩
theorem mul_self_nonneg (a : Rat) : 0 ≤ a * a := by
  by_cases h : 0 ≤ a
  · exact Rat.mul_nonneg h h
  · have := Rat.mul_nonneg (show 0 ≤ -a by grind) (show 0 ≤ -a by grind)
    grind
theorem square_val {k x y : Nat} (hx : Bd k x) (hy : Bd k y) (hk : k ≤ 400) : Bd (k + k + 1) (vec_Square x y) ∧ V (vec_Square x y) = rs (rs (V x * V x) + rs (V y * V y)) ∧ 0 ≤ V (vec_Square x y) := by
  obtain ⟨b1, v1⟩ := hx.mul hx (by omega)
  obtain ⟨b2, v2⟩ := hy.mul hy (by omega)
  obtain ⟨b3, v3⟩ := b1.add b2 (by omega)
  rw [v1, v2] at v3
  refine ⟨b3, v3, ?_⟩
  have e : vec_Square x y = fadd (fmul x x) (fmul y y) := rfl
  rw [e, v3]
  have := rs_nonneg (mul_self_nonneg (V x))
  have := rs_nonneg (mul_self_nonneg (V y))
  exact rs_nonneg (by grind)
theorem length_bd {k x y : Nat} (hx : Bd k x) (hy : Bd k y) (hk : k ≤ 400) : Bd (k + 1) (vec_Length x y) ∧ 0 ≤ V (vec_Length x y) := by
  obtain ⟨b, v, n⟩ := square_val hx hy hk
  have b' : Bd ((k + 1) + (k + 1)) (vec_Square x y) := b.mono (by omega)
  exact b'.sqrt n (by omega)
theorem sqrt_mono {x y : Nat} (hx : fin x) (hy : fin y) (h0 : 0 ≤ V x) (h : V x ≤ V y) : V (fsqrt x) ≤ V (fsqrt y) := by
  by_cases hz : V x = 0
  · rw [(sqrt_zero hz hx).1]; exact (sqrt_fin hy (by grind)).2
  · obtain ⟨r, h1, h2, h3, h4⟩ := sqrt_res hx (by grind)
    obtain ⟨r', h1', h2', h3', h4'⟩ := sqrt_res hy (by grind)
    rw [h3, h3']
    have hi := iu_pos
    have hZ : V x * (iu * iu) ≤ V y * (iu * iu) := Rat.mul_le_mul_of_nonneg_right h (Rat.le_of_lt (Rat.mul_pos hi hi))
    generalize V x * (iu * iu) = Z at *
    generalize V y * (iu * iu) = Z' at *
    have key : r ≤ r' := by
      apply Classical.byContradiction
      intro hn
      obtain ⟨s, rfl⟩ : ∃ s, r = s + 1 := ⟨r - 1, by omega⟩
      have a1 := h4.1 s rfl
      have a2 := h4'.2
      have b1 := valR_le (show r' ≤ s by omega)
      have b2 := valR_le (show r' + 1 ≤ s + 1 by omega)
      have n1 := valR_nonneg r'
      have n2 := valR_nonneg (r' + 1)
      have c1 := mul_self_le (show 0 ≤ (val r' : Rat) + val (r' + 1) by grind) (show (val r' : Rat) + val (r' + 1) ≤ (val s : Rat) + val (s + 1) by grind)
      rcases a1 with a1 | ⟨a1, p1⟩
      · rcases a2 with a2 | ⟨a2, p2⟩ <;> grind
      · rcases a2 with a2 | ⟨a2, p2⟩
        · grind
        · have : r' = s := by
            apply Classical.byContradiction
            intro hne
            have := valR_lt (show r' < s by omega)
            have := mul_self_lt (show 0 ≤ (val r' : Rat) + val (r' + 1) by grind) (show (val r' : Rat) + val (r' + 1) < (val s : Rat) + val (s + 1) by grind)
            grind
          omega
    exact Rat.mul_le_mul_of_nonneg_right (valR_le key) (Rat.le_of_lt u_pos)
theorem sqrt_congr {x y : Nat} (hx : fin x) (hy : fin y) (h0 : 0 ≤ V x) (h : V x = V y) : V (fsqrt x) = V (fsqrt y) :=
  Rat.le_antisymm (sqrt_mono hx hy h0 (by grind)) (sqrt_mono hy hx (by grind) (by grind))

/-- The length between two places: of numbers. -/
theorem between_val {k : Nat} {a b : Pr2} (ha : Pt k a) (hb : Pt k b) (hk : k ≤ 300) :
    ∃ z, near_between_0 a.1 a.2 b.1 b.2 = fsqrt z ∧ Bd (k + k + 3) z ∧ 0 ≤ V z ∧ V z = rs (rs (rs (V b.1 - V a.1) * rs (V b.1 - V a.1)) + rs (rs (V b.2 - V a.2) * rs (V b.2 - V a.2))) := by
  obtain ⟨b1, v1⟩ := hb.1.sub ha.1 (by omega)
  obtain ⟨b2, v2⟩ := hb.2.sub ha.2 (by omega)
  obtain ⟨b3, v3, n3⟩ := square_val b1 b2 (by omega)
  rw [v1, v2] at v3
  exact ⟨_, rfl, b3.mono (by omega), n3, v3⟩
theorem between_bd {k : Nat} {a b : Pr2} (ha : Pt k a) (hb : Pt k b) (hk : k ≤ 300) : Bd (k + 2) (near_between_0 a.1 a.2 b.1 b.2) ∧ 0 ≤ V (near_between_0 a.1 a.2 b.1 b.2) := by
  obtain ⟨b1, v1⟩ := hb.1.sub ha.1 (by omega)
  obtain ⟨b2, v2⟩ := hb.2.sub ha.2 (by omega)
  exact length_bd b1 b2 (by omega)
theorem between_congr {k : Nat} {a b c d : Pr2} (ha : Pt k a) (hb : Pt k b) (hc : Pt k c) (hd : Pt k d) (hk : k ≤ 300)
    (h1 : V b.1 - V a.1 = V d.1 - V c.1) (h2 : V b.2 - V a.2 = V d.2 - V c.2) : V (near_between_0 a.1 a.2 b.1 b.2) = V (near_between_0 c.1 c.2 d.1 d.2) := by
  obtain ⟨z, e, bz, n, v⟩ := between_val ha hb hk
  obtain ⟨z', e', bz', n', v'⟩ := between_val hc hd hk
  rw [e, e']
  exact sqrt_congr bz.f bz'.f n (by rw [v, v', h1, h2])
theorem between_swap {k : Nat} {a b : Pr2} (ha : Pt k a) (hb : Pt k b) (hk : k ≤ 300) : V (near_between_0 a.1 a.2 b.1 b.2) = V (near_between_0 b.1 b.2 a.1 a.2) := by
  obtain ⟨z, e, bz, n, v⟩ := between_val ha hb hk
  obtain ⟨z', e', bz', n', v'⟩ := between_val hb ha hk
  rw [e, e']
  refine sqrt_congr bz.f bz'.f n ?_
  have f : ∀ x y : Rat, rs (x - y) * rs (x - y) = rs (y - x) * rs (y - x) := by
    intro x y
    have : x - y = -(y - x) := by grind
    rw [this, rs_neg]; grind
  rw [v, v', f (V b.1), f (V b.2)]
theorem between_zero {k : Nat} {a b : Pr2} (ha : Pt k a) (hb : Pt k b) (hk : k ≤ 300) (h1 : V a.1 = V b.1) (h2 : V a.2 = V b.2) : V (near_between_0 a.1 a.2 b.1 b.2) = 0 := by
  obtain ⟨z, e, bz, n, v⟩ := between_val ha hb hk
  rw [e]
  refine (sqrt_zero ?_ bz.f).1
  have e1 : V b.1 - V a.1 = 0 := by grind
  have e2 : V b.2 - V a.2 = 0 := by grind
  rw [v, e1, e2, rs_zero, Rat.zero_mul, rs_zero]
  have : (0 : Rat) + 0 = 0 := by grind
  rw [this, rs_zero]

/-! ### The place of a segment next to a place -/
def nextP (c d a : Pr2) : Pr2 := (near_Point_0 c.1 c.2 d.1 d.2 a.1 a.2, near_Point_1 c.1 c.2 d.1 d.2 a.1 a.2)
theorem more_bd {k : Nat} {a d t : Nat} (ha : Bd k a) (ht : Bd 0 t) (hd : Bd (k + 1) d) (hk : k ≤ 300) : Bd (k + 2) (fadd a (fmul t d)) ∧ V (fadd a (fmul t d)) = rs (V a + rs (V t * V d)) := by
  obtain ⟨b1, v1⟩ := ht.mul hd (by omega)
  obtain ⟨b2, v2⟩ := (ha.mono (show k ≤ k + 1 by omega)).add (b1.mono (by omega)) (by omega)
  rw [v1] at v2
  exact ⟨b2, v2⟩
theorem nextP_bd {k : Nat} {c d a : Pr2} (hc : Pt k c) (hd : Pt k d) (hk : k ≤ 300) : Pt (k + 2) (nextP c d a) := by
  obtain ⟨b1, v1⟩ := hd.1.sub hc.1 (by omega)
  obtain ⟨b2, v2⟩ := hd.2.sub hc.2 (by omega)
  unfold nextP near_Point_0 near_Point_1
  generalize hg : fGt (vec_Square (vec_Sub_0 d.1 d.2 c.1 c.2) (vec_Sub_1 d.1 d.2 c.1 c.2)) 0 = g
  cases g
  · simp only [cond_false]
    exact hc.mono (by omega)
  · simp only [cond_true]
    exact ⟨(more_bd hc.1 (clamp_bd _) b1 hk).1, (more_bd hc.2 (clamp_bd _) b2 hk).1⟩
end
end Go.Proofs.Ythopjahoaljhaaa.X

/-! ## Segments and cores: the least of all candidates; the same either way round. -/
set_option linter.unusedVariables false
set_option linter.unusedSimpArgs false
namespace Go.Proofs.Ythopjahoaljhaaa.X
open Go
noncomputable section

def bt (a b : Pr2) : Nr := ⟨near_between_0 a.1 a.2 b.1 b.2, a.1, a.2, b.1, b.2⟩
def cross1 (p q s t : Pr2) : Bool := near_across (vec_Cross (vec_Sub_0 q.1 q.2 p.1 p.2) (vec_Sub_1 q.1 q.2 p.1 p.2) (vec_Sub_0 s.1 s.2 p.1 p.2) (vec_Sub_1 s.1 s.2 p.1 p.2)) (vec_Cross (vec_Sub_0 q.1 q.2 p.1 p.2) (vec_Sub_1 q.1 q.2 p.1 p.2) (vec_Sub_0 t.1 t.2 p.1 p.2) (vec_Sub_1 t.1 t.2 p.1 p.2))
def crossing (p q s t : Pr2) : Bool := cross1 p q s t && cross1 s t p q
theorem segs_cross {p q s t : Pr2} (h : crossing p q s t = true) : (segs p q s t).far = 0 := by
  unfold crossing at h
  rw [Bool.and_eq_true] at h
  obtain ⟨h1, h2⟩ := h
  unfold cross1 at h1 h2
  unfold segs near_Segments_0
  simp only [h1, h2, cond_true]
theorem segs_apart {p q s t : Pr2} (h : crossing p q s t = false) : segs p q s t = least4 (bt p (nextP s t p)) (bt q (nextP s t q)) (bt (nextP p q s) s) (bt (nextP p q t) t) := by
  unfold crossing at h
  rw [Bool.and_eq_false_iff] at h
  unfold cross1 at h
  unfold segs near_Segments_0 near_Segments_1 near_Segments_2 near_Segments_3 near_Segments_4
  generalize hA : near_across (vec_Cross (vec_Sub_0 q.1 q.2 p.1 p.2) (vec_Sub_1 q.1 q.2 p.1 p.2) (vec_Sub_0 s.1 s.2 p.1 p.2) (vec_Sub_1 s.1 s.2 p.1 p.2)) (vec_Cross (vec_Sub_0 q.1 q.2 p.1 p.2) (vec_Sub_1 q.1 q.2 p.1 p.2) (vec_Sub_0 t.1 t.2 p.1 p.2) (vec_Sub_1 t.1 t.2 p.1 p.2)) = A at *
  generalize hB : near_across (vec_Cross (vec_Sub_0 t.1 t.2 s.1 s.2) (vec_Sub_1 t.1 t.2 s.1 s.2) (vec_Sub_0 p.1 p.2 s.1 s.2) (vec_Sub_1 p.1 p.2 s.1 s.2)) (vec_Cross (vec_Sub_0 t.1 t.2 s.1 s.2) (vec_Sub_1 t.1 t.2 s.1 s.2) (vec_Sub_0 q.1 q.2 s.1 s.2) (vec_Sub_1 q.1 q.2 s.1 s.2)) = B at *
  rcases h with rfl | rfl
  · simp only [cond_false]; rfl
  · cases A <;> simp only [cond_false, cond_true] <;> rfl
theorem crossing_swap (p q s t : Pr2) : crossing p q s t = crossing s t p q := by unfold crossing; rw [Bool.and_comm]

/-! ### The nearest of four -/
theorem nearer_min {n b : Nr} (hn : num n.far) (hb : num b.far) : (nearer n b = n ∨ nearer n b = b) ∧ V (nearer n b).far ≤ V n.far ∧ V (nearer n b).far ≤ V b.far := by
  unfold nearer
  cases h : fLt n.far b.far
  · have h1 : ¬ V n.far < V b.far := fun h1 => by rw [← fLt_iff hn hb, h] at h1; cases h1
    simp only [cond_false]
    exact ⟨by simp, by grind, by grind⟩
  · rw [fLt_iff hn hb] at h
    simp only [cond_true]
    exact ⟨by simp, by grind, by grind⟩
theorem least4_min {n a b c : Nr} (hn : num n.far) (ha : num a.far) (hb : num b.far) (hc : num c.far) :
    (least4 n a b c = n ∨ least4 n a b c = a ∨ least4 n a b c = b ∨ least4 n a b c = c) ∧ num (least4 n a b c).far ∧ V (least4 n a b c).far ≤ V n.far ∧ V (least4 n a b c).far ≤ V a.far ∧ V (least4 n a b c).far ≤ V b.far ∧ V (least4 n a b c).far ≤ V c.far := by
  unfold least4
  obtain ⟨e1, l1, l1'⟩ := nearer_min ha hn
  have n1 : num (nearer a n).far := by rcases e1 with e | e <;> rw [e] <;> assumption
  obtain ⟨e2, l2, l2'⟩ := nearer_min hb n1
  have n2 : num (nearer b (nearer a n)).far := by rcases e2 with e | e <;> rw [e] <;> assumption
  obtain ⟨e3, l3, l3'⟩ := nearer_min hc n2
  have n3 : num (nearer c (nearer b (nearer a n))).far := by rcases e3 with e | e <;> rw [e] <;> assumption
  refine ⟨?_, n3, by grind, by grind, by grind, by grind⟩
  rcases e3 with e3 | e3
  · right; right; right; exact e3
  · rw [e3]
    rcases e2 with e2 | e2
    · right; right; left; exact e2
    · rw [e2]
      rcases e1 with e1 | e1
      · right; left; exact e1
      · left; exact e1

theorem bt_bd {k : Nat} {a b : Pr2} (ha : Pt k a) (hb : Pt k b) (hk : k ≤ 300) : Bd (k + 2) (bt a b).far ∧ 0 ≤ V (bt a b).far := between_bd ha hb hk
/-- What a segment's distance is: 0, or one of the four. -/
theorem segs_cand {k : Nat} {p q s t : Pr2} (hp : Pt k p) (hq : Pt k q) (hs : Pt k s) (ht : Pt k t) (hk : k ≤ 290) :
    Bd (k + 4) (segs p q s t).far ∧ 0 ≤ V (segs p q s t).far ∧
    V (segs p q s t).far ≤ V (bt p (nextP s t p)).far ∧ V (segs p q s t).far ≤ V (bt q (nextP s t q)).far ∧ V (segs p q s t).far ≤ V (bt (nextP p q s) s).far ∧ V (segs p q s t).far ≤ V (bt (nextP p q t) t).far ∧
    ((segs p q s t).far = 0 ∨ ∃ a b, Pt (k + 2) a ∧ Pt (k + 2) b ∧ segs p q s t = bt a b) := by
  have k2 : ∀ {x : Pr2}, Pt k x → Pt (k + 2) x := fun h => h.mono (by omega)
  have b1 := bt_bd (k2 hp) (nextP_bd (a := p) hs ht (by omega)) (by omega)
  have b2 := bt_bd (k2 hq) (nextP_bd (a := q) hs ht (by omega)) (by omega)
  have b3 := bt_bd (nextP_bd (a := s) hp hq (by omega)) (k2 hs) (by omega)
  have b4 := bt_bd (nextP_bd (a := t) hp hq (by omega)) (k2 ht) (by omega)
  cases h : crossing p q s t
  · rw [segs_apart h]
    obtain ⟨e, n, l1, l2, l3, l4⟩ := least4_min b1.1.num b2.1.num b3.1.num b4.1.num
    refine ⟨?_, ?_, l1, l2, l3, l4, .inr ?_⟩
    · rcases e with e | e | e | e <;> rw [e]
      · exact b1.1
      · exact b2.1
      · exact b3.1
      · exact b4.1
    · rcases e with e | e | e | e <;> rw [e]
      · exact b1.2
      · exact b2.2
      · exact b3.2
      · exact b4.2
    · rcases e with e | e | e | e <;> rw [e]
      · exact ⟨_, _, k2 hp, nextP_bd hs ht (by omega), rfl⟩
      · exact ⟨_, _, k2 hq, nextP_bd hs ht (by omega), rfl⟩
      · exact ⟨_, _, nextP_bd hp hq (by omega), k2 hs, rfl⟩
      · exact ⟨_, _, nextP_bd hp hq (by omega), k2 ht, rfl⟩
  · have e := segs_cross h
    rw [e]
    have z := V0
    have hp := two_pow_pos (k + 4)
    refine ⟨⟨z.2, by rw [z.1]; grind, by rw [z.1]; grind⟩, by rw [z.1]; exact Rat.le_refl, ?_, ?_, ?_, ?_, .inl rfl⟩
    · rw [z.1]; exact b1.2
    · rw [z.1]; exact b2.2
    · rw [z.1]; exact b3.2
    · rw [z.1]; exact b4.2
theorem segs_le_swap {k : Nat} {p q s t : Pr2} (hp : Pt k p) (hq : Pt k q) (hs : Pt k s) (ht : Pt k t) (hk : k ≤ 290) : V (segs p q s t).far ≤ V (segs s t p q).far := by
  have k2 : ∀ {x : Pr2}, Pt k x → Pt (k + 2) x := fun h => h.mono (by omega)
  cases h : crossing p q s t
  · obtain ⟨_, _, l1, l2, l3, l4, _⟩ := segs_cand hp hq hs ht hk
    have h' : crossing s t p q = false := by rw [crossing_swap, h]
    have b1 := bt_bd (k2 hs) (nextP_bd (a := s) hp hq (by omega)) (by omega)
    have b2 := bt_bd (k2 ht) (nextP_bd (a := t) hp hq (by omega)) (by omega)
    have b3 := bt_bd (nextP_bd (a := p) hs ht (by omega)) (k2 hp) (by omega)
    have b4 := bt_bd (nextP_bd (a := q) hs ht (by omega)) (k2 hq) (by omega)
    have w1 := between_swap (k2 hs) (nextP_bd (a := s) hp hq (by omega)) (by omega)
    have w2 := between_swap (k2 ht) (nextP_bd (a := t) hp hq (by omega)) (by omega)
    have w3 := between_swap (nextP_bd (a := p) hs ht (by omega)) (k2 hp) (by omega)
    have w4 := between_swap (nextP_bd (a := q) hs ht (by omega)) (k2 hq) (by omega)
    obtain ⟨e, _⟩ := least4_min b1.1.num b2.1.num b3.1.num b4.1.num
    rw [segs_apart h']
    unfold bt at l1 l2 l3 l4
    simp only at l1 l2 l3 l4
    rcases e with e | e | e | e <;> rw [e] <;> unfold bt <;> simp only
    · rw [w1]; exact l3
    · rw [w2]; exact l4
    · rw [w3]; exact l1
    · rw [w4]; exact l2
  · have h' : crossing s t p q = true := by rw [crossing_swap, h]
    rw [segs_cross h, segs_cross h']; exact Rat.le_refl

/-! ### Sides, one by one -/
def sideL (kd : Int) (m : List Pr2) : List (Pr2 × Pr2) :=
  if kd = 3 then (List.range (m.length - 1)).map (fun i => (gp m i, gp m (i + 1))) ++ [(gp m (m.length - 1), gp m 0)]
  else if kd = 2 then (List.range (m.length - 1)).map (fun i => (gp m i, gp m (i + 1)))
  else if kd = 1 then [(gp m (m.length - 1), gp m 0)] else []
theorem foldI_range {B : Type} (f : Nat → B → B) : ∀ (n i : Nat) (b : B), foldI f i n b = (List.range' i n).foldl (fun b i => f i b) b
  | 0, i, b => rfl
  | n + 1, i, b => by
    rw [List.range'_succ, List.foldl_cons]
    exact foldI_range f n (i + 1) (f i b)
theorem sidesF_list (kd : Int) (m : List Pr2) (f : Bool × Nr → Pr2 → Pr2 → Bool × Nr) (b : Bool × Nr) : sidesF kd m f b = (sideL kd m).foldl (fun b x => f b x.1 x.2) b := by
  unfold sidesF sideL
  rw [foldI_range, ← List.range_eq_range']
  by_cases h3 : kd = 3
  · subst h3
    simp [List.foldl_append, List.foldl_map]
  · have e3 : (kd == (3 : Int)) = false := by simp [h3]
    rw [e3, if_neg h3, cond_false]
    by_cases h2 : kd = 2
    · subst h2
      simp [List.foldl_map]
    · have e2 : (kd == (2 : Int)) = false := by simp [h2]
      rw [e2, if_neg h2, cond_false]
      by_cases h1 : kd = 1
      · subst h1; simp
      · have e1 : (kd == (1 : Int)) = false := by simp [h1]
        rw [e1, if_neg h1, cond_false]; rfl
/-- All pairs of sides, as they are looked at. -/
def prs (ka : Int) (la : List Pr2) (kb : Int) (lb : List Pr2) : List Nr :=
  (sideL ka la).flatMap fun x => (sideL kb lb).map fun y => segs x.1 x.2 y.1 y.2
def nstep (b : Bool × Nr) (n : Nr) : Bool × Nr := bif b.1 || fLt n.far b.2.far then (false, n) else b
theorem cores_list (ka : Int) (la : List Pr2) (kb : Int) (lb : List Pr2) (b : Bool × Nr) :
    sidesF ka la (fun b p q => sidesF kb lb (fun b s t => bstep b p q s t) b) b = (prs ka la kb lb).foldl nstep b := by
  rw [sidesF_list]
  unfold prs
  rw [List.foldl_flatMap]
  congr 1
  funext b x
  rw [sidesF_list, List.foldl_map]
  rfl
theorem fold_min : ∀ (l : List Nr) (b : Nr), num b.far → (∀ n ∈ l, num n.far) →
    (l.foldl nstep (false, b)).1 = false ∧ ((l.foldl nstep (false, b)).2 = b ∨ (l.foldl nstep (false, b)).2 ∈ l) ∧ V (l.foldl nstep (false, b)).2.far ≤ V b.far ∧ (∀ n ∈ l, V (l.foldl nstep (false, b)).2.far ≤ V n.far) := by
  intro l
  induction l with
  | nil => intro b hb _; exact ⟨rfl, .inl rfl, Rat.le_refl, by simp⟩
  | cons a l ih =>
    intro b hb hl
    rw [List.foldl_cons]
    have ha := hl a (by simp)
    have hl' : ∀ n ∈ l, num n.far := fun n hn => hl n (by simp [hn])
    cases h : fLt a.far b.far
    · have e : nstep (false, b) a = (false, b) := by unfold nstep; simp [h]
      rw [e]
      obtain ⟨h1, h2, h3, h4⟩ := ih b hb hl'
      have : ¬ V a.far < V b.far := fun h1 => by rw [← fLt_iff ha hb, h] at h1; cases h1
      refine ⟨h1, ?_, h3, ?_⟩
      · rcases h2 with h2 | h2
        · exact .inl h2
        · exact .inr (by simp [h2])
      · intro n hn
        rcases List.mem_cons.1 hn with rfl | hn
        · grind
        · exact h4 n hn
    · have e : nstep (false, b) a = (false, a) := by unfold nstep; simp [h]
      rw [e]
      rw [fLt_iff ha hb] at h
      obtain ⟨h1, h2, h3, h4⟩ := ih a ha hl'
      refine ⟨h1, ?_, by grind, ?_⟩
      · rcases h2 with h2 | h2
        · exact .inr (by rw [h2]; simp)
        · exact .inr (by simp [h2])
      · intro n hn
        rcases List.mem_cons.1 hn with rfl | hn
        · exact h3
        · exact h4 n hn
theorem fold_min' {l : List Nr} (hne : l ≠ []) (hl : ∀ n ∈ l, num n.far) (z : Nr) :
    (l.foldl nstep (true, z)).2 ∈ l ∧ ∀ n ∈ l, V (l.foldl nstep (true, z)).2.far ≤ V n.far := by
  cases l with
  | nil => exact absurd rfl hne
  | cons a l =>
    rw [List.foldl_cons]
    have e : nstep (true, z) a = (false, a) := by unfold nstep; simp
    rw [e]
    obtain ⟨h1, h2, h3, h4⟩ := fold_min l a (hl a (by simp)) (fun n hn => hl n (by simp [hn]))
    refine ⟨?_, ?_⟩
    · rcases h2 with h2 | h2
      · rw [h2]; simp
      · simp [h2]
    · intro n hn
      rcases List.mem_cons.1 hn with rfl | hn
      · exact h3
      · exact h4 n hn

/-! ### Shapes that may be -/
structure ShapeOk (kd : Int) (r : Nat) (l : List Pr2) : Prop where
  pts : ∀ p ∈ l, Pt 40 p
  rad : Bd 40 r
  rad0 : 0 ≤ V r
  ne : l ≠ []
  kinds : (kd = 1 ∧ l.length = 1) ∨ (kd = 2 ∧ l.length = 2) ∨ (kd = 3 ∧ 3 ≤ l.length ∧ poly_Check l = 0)
theorem length_ok {a : Nat} (h : shape_length a = true) : Bd 40 a ∧ 0 ≤ V a := by
  unfold shape_length at h
  rw [Bool.and_eq_true] at h
  have n := num_of_fLe h.2
  have m := Vm30
  have q := Vp40
  have h1 := (fGe_iff n.1 (num_of_fin m.2)).1 h.1
  have h2 := (fLe_iff n.1 n.2).1 h.2
  rw [m.1] at h1
  rw [q.1] at h2
  have hp := two_zpow_pos (-30)
  have hb := pow_le_bnd (k := 40) (by omega)
  have hb2 := two_pow_pos 40
  exact ⟨⟨fin_of n.1 (by grind) (by grind), by grind, h2⟩, by grind⟩
theorem gp_get (l : List Pr2) (i : Nat) (h : i < l.length) : gp l i ∈ l := by
  unfold gp
  rw [List.getElem?_eq_getElem h]
  simp
theorem shape_ok {kd : Int} {r : Nat} {l : List Pr2} (h : shape_Check kd r l = 0) : ShapeOk kd r l := by
  have q := Vp40
  match l, h with
  | [], h =>
    exfalso
    simp only [shape_Check] at h
    unfold shape_Check_v0 at h
    by_cases h1 : kd < 1
    · simp [h1] at h
    · by_cases h3 : kd > 3
      · simp [h1, h3] at h
      · simp [h1, h3] at h
  | [pa], h =>
    simp only [shape_Check] at h
    unfold shape_Check_v1 at h
    by_cases h1 : kd < 1
    · simp [h1] at h
    · by_cases h3 : kd > 3
      · simp [h1, h3] at h
      · by_cases hk : kd = 1
        · subst hk
          simp [gp] at h
          unfold shape_circle_check at h
          cases hw : vec_Within pa.1 pa.2 4787326403894837248
          · simp [hw] at h
          · cases hr : shape_length r
            · simp [hw, hr] at h
            · obtain ⟨b, n⟩ := length_ok hr
              exact ⟨fun p hp => by rw [List.mem_singleton] at hp; subst hp; exact within_pt q.1 q.2 (by omega) hw, b, n, by simp, .inl ⟨rfl, rfl⟩⟩
        · exfalso; simp [h1, h3, beq_false_of_ne hk] at h
  | [pa, pb], h =>
    simp only [shape_Check] at h
    unfold shape_Check_v2 at h
    by_cases h1 : kd < 1
    · simp [h1] at h
    · by_cases h3 : kd > 3
      · simp [h1, h3] at h
      · by_cases hk : kd = 2
        · subst hk
          simp [gp] at h
          unfold shape_capsule_check at h
          cases hw : vec_Within pa.1 pa.2 4787326403894837248
          · simp [hw] at h
          · cases hw2 : vec_Within pb.1 pb.2 4787326403894837248
            · simp [hw, hw2] at h
            · cases hr : shape_length r
              · simp [hw, hw2, hr] at h
              · obtain ⟨b, n⟩ := length_ok hr
                refine ⟨fun p hp => ?_, b, n, by simp, .inr (.inl ⟨rfl, rfl⟩)⟩
                simp only [List.mem_cons, List.not_mem_nil, or_false] at hp
                rcases hp with rfl | rfl
                · exact within_pt q.1 q.2 (by omega) hw
                · exact within_pt q.1 q.2 (by omega) hw2
        · exfalso; simp [h1, h3, beq_false_of_ne hk] at h
  | pa :: pb :: pc :: pz, h =>
    simp only [shape_Check] at h
    unfold shape_Check_v3 at h
    by_cases h1 : kd < 1
    · simp [h1] at h
    · by_cases h3 : kd > 3
      · simp [h1, h3] at h
      · by_cases hk : kd = 3
        · subst hk
          by_cases h8 : ((pa :: pb :: pc :: pz).length : Int) ≤ 8
          · cases hr : fEq r 0
            · simp [hr] at h
            · by_cases hp : poly_Check (pa :: pb :: pc :: pz) = 0
              · have z := V0
                have n := num_of_fEq hr
                rw [fEq_iff n.1 n.2, z.1] at hr
                have hb := bnd_pos
                have hb2 := two_pow_pos 40
                refine ⟨?_, ⟨fin_of n.1 (by grind) (by grind), by grind, by grind⟩, by grind, by simp, .inr (.inr ⟨rfl, by simp, hp⟩)⟩
                intro p hm
                unfold poly_Check at hp
                by_cases hre : poly_reals (pa :: pb :: pc :: pz) = 0
                · unfold poly_reals at hre
                  cases hin : inAll (pa :: pb :: pc :: pz)
                  · rw [hin] at hre
                    exfalso
                    generalize decide (((pa :: pb :: pc :: pz).length : Int) > 64) = g at hre
                    cases g <;> simp at hre
                  · unfold inAll at hin
                    rw [List.all_eq_true] at hin
                    exact within_pt q.1 q.2 (by omega) (hin p hm)
                · have : (poly_reals (pa :: pb :: pc :: pz) != 0) = true := by simp [hre]
                  rw [this, cond_true] at hp
                  exact absurd hp hre
              · unfold shape_polygon_check at h
                have hb : (poly_Check (pa :: pb :: pc :: pz) != 0) = true := by simp [hp]
                simp only [hb, hr, cond_true] at h
                have h5 : decide (((pa :: pb :: pc :: pz).length : Int) ≥ 3) = true := by simp; omega
                have h6 : decide (((pa :: pb :: pc :: pz).length : Int) ≤ 8) = true := by simpa using h8
                simp only [h5, h6, cond_true] at h
                simp at h
                exact absurd h hp
          · exfalso
            have h6 : decide (((pa :: pb :: pc :: pz).length : Int) ≤ 8) = false := by simpa using h8
            have h5 : decide (((pa :: pb :: pc :: pz).length : Int) ≥ 3) = true := by simp; omega
            simp only [h5, h6, cond_true, cond_false] at h
            simp at h
        · exfalso; simp [h1, h3, beq_false_of_ne hk] at h
theorem sideL_mem {kd : Int} {r : Nat} {l : List Pr2} (h : ShapeOk kd r l) : sideL kd l ≠ [] ∧ (∀ x ∈ sideL kd l, x.1 ∈ l ∧ x.2 ∈ l) ∧ (∀ p ∈ l, ∃ x ∈ sideL kd l, x.1 = p ∨ x.2 = p) := by
  have gpi : ∀ p ∈ l, ∃ i, i < l.length ∧ gp l i = p := by
    intro p hp
    obtain ⟨i, hi, rfl⟩ := List.getElem_of_mem hp
    exact ⟨i, hi, by unfold gp; rw [List.getElem?_eq_getElem hi]; rfl⟩
  rcases h.kinds with ⟨rfl, hn⟩ | ⟨rfl, hn⟩ | ⟨rfl, hn, _⟩
  · have e : sideL 1 l = [(gp l (l.length - 1), gp l 0)] := by unfold sideL; simp
    rw [e]
    refine ⟨by simp, ?_, ?_⟩
    · intro x hx
      rw [List.mem_singleton] at hx; subst hx
      exact ⟨gp_get _ _ (by omega), gp_get _ _ (by omega)⟩
    · intro p hp
      obtain ⟨i, hi, e⟩ := gpi p hp
      refine ⟨_, List.mem_singleton.2 rfl, .inr ?_⟩
      have : i = 0 := by omega
      subst this; exact e
  · have e : sideL 2 l = [(gp l 0, gp l 1)] := by unfold sideL; simp [hn]
    rw [e]
    refine ⟨by simp, ?_, ?_⟩
    · intro x hx
      rw [List.mem_singleton] at hx; subst hx
      exact ⟨gp_get _ _ (by omega), gp_get _ _ (by omega)⟩
    · intro p hp
      obtain ⟨i, hi, e⟩ := gpi p hp
      refine ⟨_, List.mem_singleton.2 rfl, ?_⟩
      have : i = 0 ∨ i = 1 := by omega
      rcases this with rfl | rfl
      · exact .inl e
      · exact .inr e
  · have e : sideL 3 l = (List.range (l.length - 1)).map (fun i => (gp l i, gp l (i + 1))) ++ [(gp l (l.length - 1), gp l 0)] := by unfold sideL; simp
    rw [e]
    refine ⟨by simp, ?_, ?_⟩
    · intro x hx
      rw [List.mem_append] at hx
      rcases hx with hx | hx
      · rw [List.mem_map] at hx
        obtain ⟨i, hi, rfl⟩ := hx
        rw [List.mem_range] at hi
        exact ⟨gp_get _ _ (by omega), gp_get _ _ (by omega)⟩
      · rw [List.mem_singleton] at hx; subst hx
        exact ⟨gp_get _ _ (by omega), gp_get _ _ (by omega)⟩
    · intro p hp
      obtain ⟨i, hi, e⟩ := gpi p hp
      by_cases h0 : i = l.length - 1
      · refine ⟨(gp l (l.length - 1), gp l 0), by simp, .inl ?_⟩
        rw [← h0]; exact e
      · refine ⟨(gp l i, gp l (i + 1)), ?_, .inl e⟩
        rw [List.mem_append, List.mem_map]
        left
        exact ⟨i, by rw [List.mem_range]; omega, rfl⟩
end
end Go.Proofs.Ythopjahoaljhaaa.X

/-! ## Cores of two shapes: as near the one way as the other; nought of a shape and itself. -/
set_option linter.unusedVariables false
set_option linter.unusedSimpArgs false
namespace Go.Proofs.Ythopjahoaljhaaa.X
open Go
noncomputable section

theorem all0_iff {f : Nat → Bool} : ∀ {n i : Nat}, allF f i n = true ↔ ∀ j, j < n → f (i + j) = true
  | 0, i => by simp [allF]
  | n + 1, i => by
    rw [allF, Bool.and_eq_true, all0_iff]
    constructor
    · intro ⟨h1, h2⟩ j hj
      cases j with
      | zero => exact h1
      | succ j => have := h2 j (by omega); rwa [show i + 1 + j = i + (j + 1) by omega] at this
    · intro h
      refine ⟨h 0 (by omega), fun j hj => ?_⟩
      have := h (j + 1) (by omega)
      rwa [show i + (j + 1) = i + 1 + j by omega] at this

theorem prs_mem {ka : Int} {la : List Pr2} {kb : Int} {lb : List Pr2} {n : Nr} : n ∈ prs ka la kb lb ↔ ∃ x ∈ sideL ka la, ∃ y ∈ sideL kb lb, n = segs x.1 x.2 y.1 y.2 := by
  unfold prs
  simp only [List.mem_flatMap, List.mem_map]
  constructor
  · rintro ⟨x, hx, y, hy, rfl⟩; exact ⟨x, hx, y, hy, rfl⟩
  · rintro ⟨x, hx, y, hy, rfl⟩; exact ⟨x, hx, y, hy, rfl⟩

/-- The one shape has a point of the other. -/
def hasOne (ka : Int) (la : List Pr2) (kb : Int) (lb : List Pr2) : Bool := (ka == 3 && !(hold la lb).isNone) || (kb == 3 && !(hold lb la).isNone)
theorem hasOne_swap (ka : Int) (la : List Pr2) (kb : Int) (lb : List Pr2) : hasOne ka la kb lb = hasOne kb lb ka la := by unfold hasOne; rw [Bool.or_comm]
theorem cores_has {ka : Int} {ra : Nat} {la : List Pr2} {kb : Int} {rb : Nat} {lb : List Pr2} (h : hasOne ka la kb lb = true) : (near_cores ka ra la kb rb lb).far = 0 := by
  unfold hasOne at h
  unfold near_cores near_holds_2
  cases h1 : (ka == 3 && !(hold la lb).isNone)
  · rw [h1, Bool.false_or] at h
    simp only [h, cond_false, cond_true]
  · simp only [cond_true]
theorem cores_apart {ka : Int} {ra : Nat} {la : List Pr2} {kb : Int} {rb : Nat} {lb : List Pr2} (ha : ShapeOk ka ra la) (hb : ShapeOk kb rb lb) (h : hasOne ka la kb lb = false) :
    (∃ x ∈ sideL ka la, ∃ y ∈ sideL kb lb, near_cores ka ra la kb rb lb = segs x.1 x.2 y.1 y.2) ∧
    ∀ x ∈ sideL ka la, ∀ y ∈ sideL kb lb, V (near_cores ka ra la kb rb lb).far ≤ V (segs x.1 x.2 y.1 y.2).far := by
  have e : near_cores ka ra la kb rb lb = ((prs ka la kb lb).foldl nstep (true, ⟨0, 0, 0, 0, 0⟩)).2 := by
    unfold hasOne at h
    rw [Bool.or_eq_false_iff] at h
    unfold near_cores near_holds_2
    simp only [h.1, h.2, cond_false]
    rw [cores_list]
  obtain ⟨na, ma, _⟩ := sideL_mem ha
  obtain ⟨nb, mb, _⟩ := sideL_mem hb
  have hnum : ∀ n ∈ prs ka la kb lb, num n.far := by
    intro n hn
    obtain ⟨x, hx, y, hy, rfl⟩ := prs_mem.1 hn
    exact (segs_cand (ha.pts _ (ma x hx).1) (ha.pts _ (ma x hx).2) (hb.pts _ (mb y hy).1) (hb.pts _ (mb y hy).2) (by omega)).1.num
  have hne : prs ka la kb lb ≠ [] := by
    obtain ⟨x, hx⟩ := List.exists_mem_of_ne_nil _ na
    obtain ⟨y, hy⟩ := List.exists_mem_of_ne_nil _ nb
    exact List.ne_nil_of_mem (prs_mem.2 ⟨x, hx, y, hy, rfl⟩)
  obtain ⟨h1, h2⟩ := fold_min' hne hnum ⟨0, 0, 0, 0, 0⟩
  rw [← e] at h1 h2
  refine ⟨?_, ?_⟩
  · obtain ⟨x, hx, y, hy, h⟩ := prs_mem.1 h1
    exact ⟨x, hx, y, hy, h⟩
  · intro x hx y hy
    exact h2 _ (prs_mem.2 ⟨x, hx, y, hy, rfl⟩)
theorem cores_bd {ka : Int} {ra : Nat} {la : List Pr2} {kb : Int} {rb : Nat} {lb : List Pr2} (ha : ShapeOk ka ra la) (hb : ShapeOk kb rb lb) :
    Bd 44 (near_cores ka ra la kb rb lb).far ∧ 0 ≤ V (near_cores ka ra la kb rb lb).far := by
  cases h : hasOne ka la kb lb
  · obtain ⟨⟨x, hx, y, hy, e⟩, _⟩ := cores_apart ha hb h
    obtain ⟨_, ma, _⟩ := sideL_mem ha
    obtain ⟨_, mb, _⟩ := sideL_mem hb
    rw [e]
    have := segs_cand (ha.pts _ (ma x hx).1) (ha.pts _ (ma x hx).2) (hb.pts _ (mb y hy).1) (hb.pts _ (mb y hy).2) (by omega)
    exact ⟨this.1, this.2.1⟩
  · rw [cores_has h]
    have z := V0
    have := two_pow_pos 44
    exact ⟨⟨z.2, by rw [z.1]; grind, by rw [z.1]; grind⟩, by rw [z.1]; exact Rat.le_refl⟩
theorem cores_le_swap {ka : Int} {ra : Nat} {la : List Pr2} {kb : Int} {rb : Nat} {lb : List Pr2} (ha : ShapeOk ka ra la) (hb : ShapeOk kb rb lb) :
    V (near_cores ka ra la kb rb lb).far ≤ V (near_cores kb rb lb ka ra la).far := by
  cases h : hasOne ka la kb lb
  · have h' : hasOne kb lb ka la = false := by rw [hasOne_swap, h]
    obtain ⟨_, m⟩ := cores_apart ha hb h
    obtain ⟨⟨y, hy, x, hx, e⟩, _⟩ := cores_apart hb ha h'
    obtain ⟨_, ma, _⟩ := sideL_mem ha
    obtain ⟨_, mb, _⟩ := sideL_mem hb
    rw [e]
    have h1 := m x hx y hy
    have h2 := segs_le_swap (ha.pts _ (ma x hx).1) (ha.pts _ (ma x hx).2) (hb.pts _ (mb y hy).1) (hb.pts _ (mb y hy).2) (by omega)
    exact Rat.le_trans h1 h2
  · have h' : hasOne kb lb ka la = true := by rw [hasOne_swap, h]
    rw [cores_has h, cores_has h']; exact Rat.le_refl
theorem cores_swap {ka : Int} {ra : Nat} {la : List Pr2} {kb : Int} {rb : Nat} {lb : List Pr2} (ha : ShapeOk ka ra la) (hb : ShapeOk kb rb lb) :
    V (near_cores ka ra la kb rb lb).far = V (near_cores kb rb lb ka ra la).far := Rat.le_antisymm (cores_le_swap ha hb) (cores_le_swap hb ha)

/-! ### A shape and itself -/
theorem sub_self_zero {k x : Nat} (h : Bd k x) (hk : k ≤ 900) : Bd (k + 1) (fsub x x) ∧ V (fsub x x) = 0 := by
  obtain ⟨b, v⟩ := h.sub h (by omega)
  refine ⟨b, ?_⟩
  rw [v]
  have : V x - V x = 0 := by grind
  rw [this, rs_zero]
/-- The place of a segment next to its first end is that end. -/
theorem nextP_first {k : Nat} {c d : Pr2} (hc : Pt k c) (hd : Pt k d) (hk : k ≤ 200) : V (nextP c d c).1 = V c.1 ∧ V (nextP c d c).2 = V c.2 := by
  obtain ⟨b1, v1⟩ := hd.1.sub hc.1 (by omega)
  obtain ⟨b2, v2⟩ := hd.2.sub hc.2 (by omega)
  obtain ⟨z1, w1⟩ := sub_self_zero hc.1 (by omega)
  obtain ⟨z2, w2⟩ := sub_self_zero hc.2 (by omega)
  obtain ⟨sb, sv, sn⟩ := square_val b1 b2 (by omega)
  unfold nextP near_Point_0 near_Point_1
  generalize hg : fGt (vec_Square (vec_Sub_0 d.1 d.2 c.1 c.2) (vec_Sub_1 d.1 d.2 c.1 c.2)) 0 = g
  cases g
  · exact ⟨rfl, rfl⟩
  · simp only [cond_true]
    have z := V0
    have hs : 0 < V (vec_Square (vec_Sub_0 d.1 d.2 c.1 c.2) (vec_Sub_1 d.1 d.2 c.1 c.2)) := by
      have := (fGt_iff sb.num (num_of_fin z.2)).1 hg
      rw [z.1] at this; exact this
    obtain ⟨p1, q1⟩ := z1.mul b1 (by omega)
    obtain ⟨p2, q2⟩ := z2.mul b2 (by omega)
    rw [w1, Rat.zero_mul, rs_zero] at q1
    rw [w2, Rat.zero_mul, rs_zero] at q2
    obtain ⟨p3, q3⟩ := p1.add p2 (by omega)
    have hdot : V (vec_Dot (vec_Sub_0 c.1 c.2 c.1 c.2) (vec_Sub_1 c.1 c.2 c.1 c.2) (vec_Sub_0 d.1 d.2 c.1 c.2) (vec_Sub_1 d.1 d.2 c.1 c.2)) = 0 := by
      have e : vec_Dot (vec_Sub_0 c.1 c.2 c.1 c.2) (vec_Sub_1 c.1 c.2 c.1 c.2) (vec_Sub_0 d.1 d.2 c.1 c.2) (vec_Sub_1 d.1 d.2 c.1 c.2) = fadd (fmul (fsub c.1 c.1) (fsub d.1 c.1)) (fmul (fsub c.2 c.2) (fsub d.2 c.2)) := rfl
      rw [e, q3, q1, q2]
      have : (0 : Rat) + 0 = 0 := by grind
      rw [this, rs_zero]
    have hfd : fin (vec_Dot (vec_Sub_0 c.1 c.2 c.1 c.2) (vec_Sub_1 c.1 c.2 c.1 c.2) (vec_Sub_0 d.1 d.2 c.1 c.2) (vec_Sub_1 d.1 d.2 c.1 c.2)) := p3.f
    have hfs : fin (vec_Square (vec_Sub_0 d.1 d.2 c.1 c.2) (vec_Sub_1 d.1 d.2 c.1 c.2)) := sb.f
    have r := div_res hfd hfs (Rat.ne_of_gt hs)
    have hq : V (fdiv (vec_Dot (vec_Sub_0 c.1 c.2 c.1 c.2) (vec_Sub_1 c.1 c.2 c.1 c.2) (vec_Sub_0 d.1 d.2 c.1 c.2) (vec_Sub_1 d.1 d.2 c.1 c.2)) (vec_Square (vec_Sub_0 d.1 d.2 c.1 c.2) (vec_Sub_1 d.1 d.2 c.1 c.2))) = 0 := by
      rw [r.v, hdot]
      have : (0 : Rat) / V (vec_Square (vec_Sub_0 d.1 d.2 c.1 c.2) (vec_Sub_1 d.1 d.2 c.1 c.2)) = 0 := by rw [Rat.div_def, Rat.zero_mul]
      rw [this, rs_zero]
    have ht := (clamp01 (fdiv (vec_Dot (vec_Sub_0 c.1 c.2 c.1 c.2) (vec_Sub_1 c.1 c.2 c.1 c.2) (vec_Sub_0 d.1 d.2 c.1 c.2) (vec_Sub_1 d.1 d.2 c.1 c.2)) (vec_Square (vec_Sub_0 d.1 d.2 c.1 c.2) (vec_Sub_1 d.1 d.2 c.1 c.2)))).2.2.2 0 r.num hq
    rw [if_pos Rat.le_refl] at ht
    have bt := clamp_bd (fdiv (vec_Dot (vec_Sub_0 c.1 c.2 c.1 c.2) (vec_Sub_1 c.1 c.2 c.1 c.2) (vec_Sub_0 d.1 d.2 c.1 c.2) (vec_Sub_1 d.1 d.2 c.1 c.2)) (vec_Square (vec_Sub_0 d.1 d.2 c.1 c.2) (vec_Sub_1 d.1 d.2 c.1 c.2)))
    generalize num_Clamp (fdiv (vec_Dot (vec_Sub_0 c.1 c.2 c.1 c.2) (vec_Sub_1 c.1 c.2 c.1 c.2) (vec_Sub_0 d.1 d.2 c.1 c.2) (vec_Sub_1 d.1 d.2 c.1 c.2)) (vec_Square (vec_Sub_0 d.1 d.2 c.1 c.2) (vec_Sub_1 d.1 d.2 c.1 c.2))) 0 4607182418800017408 = t at *
    have m1 := (more_bd hc.1 bt b1 (by omega)).2
    have m2 := (more_bd hc.2 bt b2 (by omega)).2
    have e0 : ∀ a : Rat, a + 0 = a := by intro a; grind
    constructor
    · show V (fadd c.1 (fmul t (fsub d.1 c.1))) = V c.1
      rw [m1, ht, Rat.zero_mul, rs_zero, e0, rs_V hc.1.num]
    · show V (fadd c.2 (fmul t (fsub d.2 c.2))) = V c.2
      rw [m2, ht, Rat.zero_mul, rs_zero, e0, rs_V hc.2.num]
theorem across_zero {a b : Nat} (h : V a = 0) (ha : num a) : near_across a b = false := by
  have z := V0
  unfold near_across
  have h1 : fGt a 0 = false := by
    cases hc : fGt a 0 with
    | false => rfl
    | true => rw [fGt_iff ha (num_of_fin z.2), z.1] at hc; grind
  have h2 : fLt a 0 = false := by
    cases hc : fLt a 0 with
    | false => rfl
    | true => rw [fLt_iff ha (num_of_fin z.2), z.1] at hc; grind
  rw [h1, h2]; rfl
theorem crossing_self {k : Nat} {p q : Pr2} (hp : Pt k p) (hq : Pt k q) (hk : k ≤ 200) : crossing p q p q = false := by
  unfold crossing cross1
  rw [across_zero, Bool.false_and]
  · obtain ⟨b1, v1⟩ := hq.1.sub hp.1 (by omega)
    obtain ⟨b2, v2⟩ := hq.2.sub hp.2 (by omega)
    obtain ⟨z1, w1⟩ := sub_self_zero hp.1 (by omega)
    obtain ⟨z2, w2⟩ := sub_self_zero hp.2 (by omega)
    obtain ⟨p1, q1⟩ := b1.mul z2 (by omega)
    obtain ⟨p2, q2⟩ := b2.mul z1 (by omega)
    rw [w2, Rat.mul_zero, rs_zero] at q1
    rw [w1, Rat.mul_zero, rs_zero] at q2
    obtain ⟨p3, q3⟩ := p1.sub p2 (by omega)
    show V (fsub (fmul (fsub q.1 p.1) (fsub p.2 p.2)) (fmul (fsub q.2 p.2) (fsub p.1 p.1))) = 0
    rw [q3, q1, q2]
    have : (0 : Rat) - 0 = 0 := by grind
    rw [this, rs_zero]
  · obtain ⟨b1, v1⟩ := hq.1.sub hp.1 (by omega)
    obtain ⟨b2, v2⟩ := hq.2.sub hp.2 (by omega)
    obtain ⟨z1, w1⟩ := sub_self_zero hp.1 (by omega)
    obtain ⟨z2, w2⟩ := sub_self_zero hp.2 (by omega)
    obtain ⟨p1, q1⟩ := b1.mul z2 (by omega)
    obtain ⟨p2, q2⟩ := b2.mul z1 (by omega)
    exact (p1.sub p2 (by omega)).1.num
theorem segs_self {k : Nat} {p q : Pr2} (hp : Pt k p) (hq : Pt k q) (hk : k ≤ 200) : V (segs p q p q).far = 0 := by
  obtain ⟨_, n, l, _⟩ := segs_cand hp hq hp hq (by omega)
  have f := nextP_first hp hq hk
  have : V (bt p (nextP p q p)).far = 0 := between_zero (hp.mono (show k ≤ k + 2 by omega)) (nextP_bd hp hq (by omega)) (by omega) f.1.symm f.2.symm
  grind

theorem poly_parts {l : List Pr2} (h : poly_Check l = 0) : inAll l = true ∧ allF (sideOk l) 0 l.length = true := by
  unfold poly_Check at h
  by_cases hr : poly_reals l = 0
  · have e : (poly_reals l != 0) = false := by simp [hr]
    rw [e, cond_false] at h
    constructor
    · unfold poly_reals at hr
      cases hin : inAll l
      · rw [hin] at hr
        exfalso
        generalize decide ((l.length : Int) > 64) = g at hr
        cases g <;> simp at hr
      · rfl
    · cases ha : allF (sideOk l) 0 l.length
      · rw [ha] at h
        exfalso
        generalize decide ((l.length : Int) < 3) = g at h
        cases g <;> simp at h
      · rfl
  · have e : (poly_reals l != 0) = true := by simp [hr]
    rw [e, cond_true] at h
    exact absurd h hr
theorem poly_has_first {l : List Pr2} (h : poly_Check l = 0) (hn : 3 ≤ l.length) (hp : ∀ p ∈ l, Pt 40 p) : poly_Has_0 l (gp l 0).1 (gp l 0).2 = true := by
  obtain ⟨h1, h2⟩ := poly_parts h
  have z := V0
  unfold poly_Has_0
  have e : (poly_Check l != 0) = false := by simp [h]
  rw [e, cond_false, Bool.and_eq_true]
  constructor
  · unfold inAll at h1
    rw [List.all_eq_true] at h1
    exact h1 _ (gp_get l 0 (by omega))
  · rw [all0_iff] at h2 ⊢
    intro i hi
    rw [Nat.zero_add]
    unfold hasF
    have hs := h2 i hi
    rw [Nat.zero_add] at hs
    unfold sideOk at hs
    rw [Bool.and_eq_true] at hs
    have hcase : i = 0 ∨ i = l.length - 1 ∨ (2 ≤ l.length - i ∧ i ≠ 0) := by omega
    rcases hcase with rfl | rfl | ⟨hk, hi0⟩
    · -- the first side: from the point itself
      have p0 := hp _ (gp_get l 0 (by omega))
      have p1 := hp _ (gp_get l ((0 + 1) % l.length) (Nat.mod_lt _ (by omega)))
      obtain ⟨b1, v1⟩ := p1.1.sub p0.1 (by omega)
      obtain ⟨b2, v2⟩ := p1.2.sub p0.2 (by omega)
      obtain ⟨z1, w1⟩ := sub_self_zero p0.1 (by omega)
      obtain ⟨z2, w2⟩ := sub_self_zero p0.2 (by omega)
      obtain ⟨q1, r1⟩ := b1.mul z2 (by omega)
      obtain ⟨q2, r2⟩ := b2.mul z1 (by omega)
      rw [w2, Rat.mul_zero, rs_zero] at r1
      rw [w1, Rat.mul_zero, rs_zero] at r2
      obtain ⟨q3, r3⟩ := q1.sub q2 (by omega)
      have hv : V (vec_Cross (way0 l 0) (way1 l 0) (vec_Sub_0 (gp l 0).1 (gp l 0).2 (gp l 0).1 (gp l 0).2) (vec_Sub_1 (gp l 0).1 (gp l 0).2 (gp l 0).1 (gp l 0).2)) = 0 := by
        show V (fsub (fmul (fsub (gp l ((0 + 1) % l.length)).1 (gp l 0).1) (fsub (gp l 0).2 (gp l 0).2)) (fmul (fsub (gp l ((0 + 1) % l.length)).2 (gp l 0).2) (fsub (gp l 0).1 (gp l 0).1))) = 0
        rw [r3, r1, r2]
        have : (0 : Rat) - 0 = 0 := by grind
        rw [this, rs_zero]
      have hnum : num (vec_Cross (way0 l 0) (way1 l 0) (vec_Sub_0 (gp l 0).1 (gp l 0).2 (gp l 0).1 (gp l 0).2) (vec_Sub_1 (gp l 0).1 (gp l 0).2 (gp l 0).1 (gp l 0).2)) := q3.num
      cases hc : fLt (vec_Cross (way0 l 0) (way1 l 0) (vec_Sub_0 (gp l 0).1 (gp l 0).2 (gp l 0).1 (gp l 0).2) (vec_Sub_1 (gp l 0).1 (gp l 0).2 (gp l 0).1 (gp l 0).2)) 0
      · rfl
      · rw [fLt_iff hnum (num_of_fin z.2), hv, z.1] at hc
        grind
    · -- the last side: it leads to the point
      have hm : (l.length - 1 + 1) % l.length = 0 := by rw [show l.length - 1 + 1 = l.length by omega, Nat.mod_self]
      have pl := hp _ (gp_get l (l.length - 1) (by omega))
      have p0 := hp _ (gp_get l 0 (by omega))
      obtain ⟨b1, v1⟩ := p0.1.sub pl.1 (by omega)
      obtain ⟨b2, v2⟩ := p0.2.sub pl.2 (by omega)
      obtain ⟨q1, r1⟩ := b1.mul b2 (by omega)
      obtain ⟨q2, r2⟩ := b2.mul b1 (by omega)
      obtain ⟨q3, r3⟩ := q1.sub q2 (by omega)
      unfold way0 way1
      rw [hm]
      have hv : V (vec_Cross (vec_Sub_0 (gp l 0).1 (gp l 0).2 (gp l (l.length - 1)).1 (gp l (l.length - 1)).2) (vec_Sub_1 (gp l 0).1 (gp l 0).2 (gp l (l.length - 1)).1 (gp l (l.length - 1)).2) (vec_Sub_0 (gp l 0).1 (gp l 0).2 (gp l (l.length - 1)).1 (gp l (l.length - 1)).2) (vec_Sub_1 (gp l 0).1 (gp l 0).2 (gp l (l.length - 1)).1 (gp l (l.length - 1)).2)) = 0 := by
        show V (fsub (fmul (fsub (gp l 0).1 (gp l (l.length - 1)).1) (fsub (gp l 0).2 (gp l (l.length - 1)).2)) (fmul (fsub (gp l 0).2 (gp l (l.length - 1)).2) (fsub (gp l 0).1 (gp l (l.length - 1)).1))) = 0
        rw [r3, r1, r2, Rat.mul_comm]
        have : ∀ a : Rat, a - a = 0 := by intro a; grind
        rw [this, rs_zero]
      have hnum : num (vec_Cross (vec_Sub_0 (gp l 0).1 (gp l 0).2 (gp l (l.length - 1)).1 (gp l (l.length - 1)).2) (vec_Sub_1 (gp l 0).1 (gp l 0).2 (gp l (l.length - 1)).1 (gp l (l.length - 1)).2) (vec_Sub_0 (gp l 0).1 (gp l 0).2 (gp l (l.length - 1)).1 (gp l (l.length - 1)).2) (vec_Sub_1 (gp l 0).1 (gp l 0).2 (gp l (l.length - 1)).1 (gp l (l.length - 1)).2)) := q3.num
      generalize vec_Cross (vec_Sub_0 (gp l 0).1 (gp l 0).2 (gp l (l.length - 1)).1 (gp l (l.length - 1)).2) (vec_Sub_1 (gp l 0).1 (gp l 0).2 (gp l (l.length - 1)).1 (gp l (l.length - 1)).2) (vec_Sub_0 (gp l 0).1 (gp l 0).2 (gp l (l.length - 1)).1 (gp l (l.length - 1)).2) (vec_Sub_1 (gp l 0).1 (gp l 0).2 (gp l (l.length - 1)).1 (gp l (l.length - 1)).2) = C at *
      cases hc : fLt C 0
      · rfl
      · rw [fLt_iff hnum (num_of_fin z.2), hv, z.1] at hc
        grind
    · have ha := (all0_iff.1 hs.2) (l.length - i - 2) (by omega)
      have hk2 : 2 + (l.length - i - 2) = l.length - i := by omega
      rw [hk2] at ha
      unfold leftK at ha
      have hm : (i + (l.length - i)) % l.length = 0 := by rw [show i + (l.length - i) = l.length by omega, Nat.mod_self]
      rw [hm] at ha
      unfold fLe at ha
      unfold fLt
      generalize F64.order (vec_Cross (way0 l i) (way1 l i) (vec_Sub_0 (gp l 0).1 (gp l 0).2 (gp l i).1 (gp l i).2) (vec_Sub_1 (gp l 0).1 (gp l 0).2 (gp l i).1 (gp l i).2)) 0 = o at *
      rw [Bool.not_eq_true', Bool.or_eq_false_iff] at ha
      rw [ha.1]; rfl
theorem cores_self {ka : Int} {ra : Nat} {la : List Pr2} (ha : ShapeOk ka ra la) : V (near_cores ka ra la ka ra la).far = 0 := by
  have z := V0
  cases h : hasOne ka la ka la
  · obtain ⟨_, m⟩ := cores_apart ha ha h
    have nn := (cores_bd ha ha).2
    obtain ⟨na, ma, _⟩ := sideL_mem ha
    obtain ⟨x, hx⟩ := List.exists_mem_of_ne_nil _ na
    have h1 := m x hx x hx
    rw [segs_self (ha.pts _ (ma x hx).1) (ha.pts _ (ma x hx).2) (by omega)] at h1
    grind
  · rw [cores_has h, z.1]

/-! ### What Shapes says -/
theorem shapes0 {ka : Int} {ra : Nat} {la : List Pr2} {kb : Int} {rb : Nat} {lb : List Pr2} (ca : shape_Check ka ra la = 0) (cb : shape_Check kb rb lb = 0) :
    fin (near_Shapes_0 ka ra la kb rb lb) ∧ V (near_Shapes_0 ka ra la kb rb lb) = if 0 < rs (V (near_cores ka ra la kb rb lb).far - rs (V ra + V rb)) then rs (V (near_cores ka ra la kb rb lb).far - rs (V ra + V rb)) else 0 := by
  have ha := shape_ok ca
  have hb := shape_ok cb
  have z := V0
  obtain ⟨c1, c2⟩ := cores_bd ha hb
  obtain ⟨s1, s2⟩ := ha.rad.add hb.rad (by omega)
  obtain ⟨d1, d2⟩ := c1.sub (s1.mono (show 41 ≤ 44 by omega)) (by omega)
  have ea : (shape_Check ka ra la != 0) = false := by simp [ca]
  have eb : (shape_Check kb rb lb != 0) = false := by simp [cb]
  unfold near_Shapes_0
  rw [ea, eb, cond_false, cond_false]
  rw [s2] at d2
  cases hg : fGt (fsub (near_cores ka ra la kb rb lb).far (fadd ra rb)) 0
  · rw [cond_false]
    have : ¬ (0 < rs (V (near_cores ka ra la kb rb lb).far - rs (V ra + V rb))) := by
      intro h
      have := (fGt_iff d1.num (num_of_fin z.2)).2 (by rw [z.1, d2]; exact h)
      rw [hg] at this; cases this
    rw [if_neg this]
    exact ⟨z.2, z.1⟩
  · rw [cond_true]
    rw [fGt_iff d1.num (num_of_fin z.2), z.1, d2] at hg
    rw [if_pos hg]
    exact ⟨d1.f, d2⟩
theorem shapes0_swap {ka : Int} {ra : Nat} {la : List Pr2} {kb : Int} {rb : Nat} {lb : List Pr2} (ca : shape_Check ka ra la = 0) (cb : shape_Check kb rb lb = 0) :
    V (near_Shapes_0 ka ra la kb rb lb) = V (near_Shapes_0 kb rb lb ka ra la) := by
  have h1 := (shapes0 ca cb).2
  have h2 := (shapes0 cb ca).2
  rw [h1, h2, cores_swap (shape_ok ca) (shape_ok cb), Rat.add_comm (V ra)]
theorem shapes0_self {ka : Int} {ra : Nat} {la : List Pr2} (ca : shape_Check ka ra la = 0) : V (near_Shapes_0 ka ra la ka ra la) = 0 := by
  have ha := shape_ok ca
  rw [(shapes0 ca ca).2, cores_self ha]
  have h0 := ha.rad0
  have h1 : 0 ≤ rs (V ra + V ra) := rs_nonneg (by grind)
  have h2 : 0 ≤ rs (-(0 - rs (V ra + V ra))) := rs_nonneg (by grind)
  rw [rs_neg] at h2
  rw [if_neg (by grind)]
theorem shapes0_nonneg {ka : Int} {ra : Nat} {la : List Pr2} {kb : Int} {rb : Nat} {lb : List Pr2} (ca : shape_Check ka ra la = 0) (cb : shape_Check kb rb lb = 0) :
    0 ≤ V (near_Shapes_0 ka ra la kb rb lb) := by
  rw [(shapes0 ca cb).2]
  split <;> grind
theorem shapes5 {ka : Int} {ra : Nat} {la : List Pr2} {kb : Int} {rb : Nat} {lb : List Pr2} (ca : shape_Check ka ra la = 0) (cb : shape_Check kb rb lb = 0) : near_Shapes_5 ka ra la kb rb lb = 0 := by
  unfold near_Shapes_5
  simp [ca, cb]
end
end Go.Proofs.Ythopjahoaljhaaa.X

/-! ## Lengths of floats against lengths of numbers, where nothing is great. -/
set_option linter.unusedVariables false
set_option linter.unusedSimpArgs false
namespace Go.Proofs.Ythopjahoaljhaaa.X
open Go
noncomputable section

theorem u_small : u ≤ 1 / 1267650600228229401496703205376 := by
  unfold u
  have h1 := zpow_le (show (-1074 : Int) ≤ -(100 : Nat) by omega)
  have h2 : (2 : Rat) ^ (-((100 : Nat) : Int)) = ((2 : Rat) ^ 100)⁻¹ := by rw [Rat.zpow_neg, zpow_nat]
  rw [h2] at h1
  have h3 : ((2 : Rat) ^ 100)⁻¹ = 1 / 1267650600228229401496703205376 := by
    have : (2 : Rat) ^ 100 = 1267650600228229401496703205376 := by grind
    rw [this, Rat.div_def, Rat.one_mul]
  rw [h3] at h1
  exact h1
theorem bnd_big : 1267650600228229401496703205376 ≤ bnd := by
  have h := pow_le_bnd (k := 100) (by omega)
  have : (2 : Rat) ^ 100 = 1267650600228229401496703205376 := by grind
  rw [this] at h; exact h
/-- The error of a rounding, for numbers up to M. -/
theorem rsE {q M : Rat} (h1 : -M ≤ q) (h2 : q ≤ M) (hM : M ≤ 1267650600228229401496703205376) : rs q ≤ q + M * eps + u / 2 ∧ q ≤ rs q + M * eps + u / 2 :=
  rs_abs h1 h2 (Rat.le_trans hM bnd_big)

/-! ### Lengths as numbers -/
theorem cauchy (a1 a2 e1 e2 : Rat) : (a1 * e1 + a2 * e2) * (a1 * e1 + a2 * e2) ≤ (a1 * a1 + a2 * a2) * (e1 * e1 + e2 * e2) := by
  have := mul_self_nonneg (a1 * e2 - a2 * e1)
  grind
theorem tri {a1 a2 e1 e2 A E : Rat} (hA : 0 ≤ A) (hE : 0 ≤ E) (ha : a1 * a1 + a2 * a2 ≤ A * A) (he : e1 * e1 + e2 * e2 ≤ E * E) :
    (a1 + e1) * (a1 + e1) + (a2 + e2) * (a2 + e2) ≤ (A + E) * (A + E) := by
  have c := cauchy a1 a2 e1 e2
  have n1 := mul_self_nonneg a1
  have n2 := mul_self_nonneg a2
  have n3 := mul_self_nonneg e1
  have n4 := mul_self_nonneg e2
  have m1 := Rat.mul_le_mul_of_nonneg_right ha (show 0 ≤ e1 * e1 + e2 * e2 by grind)
  have m2 := Rat.mul_le_mul_of_nonneg_left he (show 0 ≤ A * A from mul_self_nonneg A)
  have hAE := Rat.mul_nonneg hA hE
  have h : a1 * e1 + a2 * e2 ≤ A * E := by
    refine le_of_mul_self hAE ?_
    have : A * A * (E * E) = A * E * (A * E) := by grind
    rw [← this]
    exact Rat.le_trans c (Rat.le_trans m1 m2)
  grind
theorem sq_small {e E : Rat} (h1 : -E ≤ e) (h2 : e ≤ E) : e * e ≤ E * E := by
  have := Rat.mul_nonneg (show 0 ≤ E - e by grind) (show 0 ≤ E + e by grind)
  grind
/-- Two small parts. -/
theorem tri2 {a1 a2 e1 e2 A E : Rat} (hA : 0 ≤ A) (hE : 0 ≤ E) (ha : a1 * a1 + a2 * a2 ≤ A * A) (h1 : -E ≤ e1) (h2 : e1 ≤ E) (h3 : -E ≤ e2) (h4 : e2 ≤ E) :
    (a1 + e1) * (a1 + e1) + (a2 + e2) * (a2 + e2) ≤ (A + 2 * E) * (A + 2 * E) := by
  refine tri hA (show 0 ≤ 2 * E by grind) ha ?_
  have := sq_small h1 h2
  have := sq_small h3 h4
  have := mul_self_nonneg E
  grind

/-- The square of a length, as it is reckoned. -/
theorem square_err {x y z : Rat} (hx1 : -134217728 ≤ x) (hx2 : x ≤ 134217728) (hy1 : -134217728 ≤ y) (hy2 : y ≤ 134217728) (hz : z = rs (rs (x * x) + rs (y * y))) :
    z ≤ (x * x + y * y) * (1 + 3 * eps) + 2 * u ∧ (x * x + y * y) ≤ (z + 2 * u) * (1 + 3 * eps) := by
  have hu := u_pos
  have hus := u_small
  have nx := mul_self_nonneg x
  have ny := mul_self_nonneg y
  have sx := sq_small hx1 hx2
  have sy := sq_small hy1 hy2
  have bb := bnd_big
  have ex := rs_err nx (by grind)
  have ey := rs_err ny (by grind)
  have rx := rs_nonneg nx
  have ry := rs_nonneg ny
  generalize x * x = X at *
  generalize y * y = Y at *
  generalize rs X = X' at *
  generalize rs Y = Y' at *
  have es := rs_err (q := X' + Y') (by grind) (by unfold eps at *; grind)
  rw [← hz] at es
  unfold eps at *
  constructor
  · grind
  · grind

/-- The root of the square. -/
theorem root_up {x y z : Rat} {w : Nat} (fw : fin w) (hw : V w = z) (hx1 : -134217728 ≤ x) (hx2 : x ≤ 134217728) (hy1 : -134217728 ≤ y) (hy2 : y ≤ 134217728) (hz : z = rs (rs (x * x) + rs (y * y)))
    {R : Rat} (hR : 0 ≤ R) (hR2 : R ≤ 134217728) (h : x * x + y * y ≤ R * R) : V (fsqrt w) ≤ R + 1 / 16777216 := by
  have hu := u_pos
  have hus := u_small
  have e := (square_err hx1 hx2 hy1 hy2 hz).1
  have z0 : 0 ≤ z := by
    rw [hz]
    have := rs_nonneg (mul_self_nonneg x)
    have := rs_nonneg (mul_self_nonneg y)
    exact rs_nonneg (by grind)
  have hR1 : 0 ≤ R + 1 / 33554432 := by grind
  have hRR := Rat.mul_le_mul_of_nonneg_left hR2 hR
  have h1 : V w ≤ (R + 1 / 33554432) * (R + 1 / 33554432) := by
    rw [hw]
    unfold eps at *
    grind
  have h2 := sqrt_le fw (by rw [hw]; exact z0) hR1 h1
  have bb := bnd_big
  have h3 := (rs_err hR1 (by grind)).1
  unfold eps at *
  grind
theorem root_low {x y z : Rat} {w : Nat} (fw : fin w) (hw : V w = z) (hx1 : -134217728 ≤ x) (hx2 : x ≤ 134217728) (hy1 : -134217728 ≤ y) (hy2 : y ≤ 134217728) (hz : z = rs (rs (x * x) + rs (y * y)))
    (hL : V (fsqrt w) ≤ 134217728) : x * x + y * y ≤ (V (fsqrt w) + 1 / 16777216) * (V (fsqrt w) + 1 / 16777216) := by
  have hu := u_pos
  have hus := u_small
  have e := (square_err hx1 hx2 hy1 hy2 hz).2
  have z0 : 0 ≤ z := by
    rw [hz]
    have := rs_nonneg (mul_self_nonneg x)
    have := rs_nonneg (mul_self_nonneg y)
    exact rs_nonneg (by grind)
  have h1 := sqrt_err fw (by rw [hw]; exact z0)
  have h0 := (sqrt_fin fw (by rw [hw]; exact z0)).2
  rw [hw] at h1
  generalize V (fsqrt w) = L at *
  have hep := eps_pos
  have h2 : L * (1 + eps) + u / 2 ≤ L + 1 / 67108864 + u := by unfold eps; grind
  have h3 : (L * (1 + eps) + u / 2) * (L * (1 + eps) + u / 2) ≤ (L + 1 / 67108864 + u) * (L + 1 / 67108864 + u) := by
    refine mul_self_le ?_ h2
    have := Rat.mul_nonneg h0 (show 0 ≤ 1 + eps by grind)
    grind
  have h4 : L + 1 / 67108864 + u ≤ L + 1 / 50331648 := by grind
  have h5 := mul_self_le (show 0 ≤ L + 1 / 67108864 + u by grind) h4
  have hLL := Rat.mul_le_mul_of_nonneg_left hL h0
  unfold eps at *
  grind

/-- The length between two places of at most 2^24. -/
theorem len_up {a b : Pr2} (ha : Pt 24 a) (hb : Pt 24 b) {R : Rat} (hR : 0 ≤ R) (hR2 : R ≤ 67108864)
    (h : (V b.1 - V a.1) * (V b.1 - V a.1) + (V b.2 - V a.2) * (V b.2 - V a.2) ≤ R * R) : V (near_between_0 a.1 a.2 b.1 b.2) ≤ R + 1 / 8388608 := by
  obtain ⟨z, e, bz, n, v⟩ := between_val ha hb (by omega)
  have hu := u_pos
  have hus := u_small
  rw [e]
  have p24 : (2 : Rat) ^ 24 = 16777216 := by grind
  have x1 := ha.1.lo
  have x2 := ha.1.hi
  have x3 := hb.1.lo
  have x4 := hb.1.hi
  have y1 := ha.2.lo
  have y2 := ha.2.hi
  have y3 := hb.2.lo
  have y4 := hb.2.hi
  rw [p24] at *
  have ex := rsE (q := V b.1 - V a.1) (M := 33554432) (by grind) (by grind) (by grind)
  have ey := rsE (q := V b.2 - V a.2) (M := 33554432) (by grind) (by grind) (by grind)
  have t := tri2 (e1 := rs (V b.1 - V a.1) - (V b.1 - V a.1)) (e2 := rs (V b.2 - V a.2) - (V b.2 - V a.2)) (E := 1 / 134217728) hR (by grind) h (by unfold eps at *; grind) (by unfold eps at *; grind) (by unfold eps at *; grind) (by unfold eps at *; grind)
  have e1 : V b.1 - V a.1 + (rs (V b.1 - V a.1) - (V b.1 - V a.1)) = rs (V b.1 - V a.1) := by grind
  have e2 : V b.2 - V a.2 + (rs (V b.2 - V a.2) - (V b.2 - V a.2)) = rs (V b.2 - V a.2) := by grind
  rw [e1, e2] at t
  have := root_up bz.f v (by unfold eps at *; grind) (by unfold eps at *; grind) (by unfold eps at *; grind) (by unfold eps at *; grind) rfl (R := R + 2 * (1 / 134217728)) (by grind) (by grind) t
  grind
theorem len_low {a b : Pr2} (ha : Pt 24 a) (hb : Pt 24 b) :
    (V b.1 - V a.1) * (V b.1 - V a.1) + (V b.2 - V a.2) * (V b.2 - V a.2) ≤ (V (near_between_0 a.1 a.2 b.1 b.2) + 1 / 8388608) * (V (near_between_0 a.1 a.2 b.1 b.2) + 1 / 8388608) := by
  obtain ⟨z, e, bz, n, v⟩ := between_val ha hb (by omega)
  have hbd := between_bd ha hb (by omega)
  have hu := u_pos
  have hus := u_small
  rw [e] at hbd ⊢
  have p24 : (2 : Rat) ^ 24 = 16777216 := by grind
  have p26 : (2 : Rat) ^ (24 + 2) = 67108864 := by grind
  have x1 := ha.1.lo
  have x2 := ha.1.hi
  have x3 := hb.1.lo
  have x4 := hb.1.hi
  have y1 := ha.2.lo
  have y2 := ha.2.hi
  have y3 := hb.2.lo
  have y4 := hb.2.hi
  have hL := hbd.1.hi
  have hL0 := hbd.2
  rw [p26] at hL
  rw [p24] at *
  have ex := rsE (q := V b.1 - V a.1) (M := 33554432) (by grind) (by grind) (by grind)
  have ey := rsE (q := V b.2 - V a.2) (M := 33554432) (by grind) (by grind) (by grind)
  have r := root_low bz.f v (by unfold eps at *; grind) (by unfold eps at *; grind) (by unfold eps at *; grind) (by unfold eps at *; grind) rfl (by grind)
  generalize V (fsqrt z) = L at *
  have t := tri2 (e1 := (V b.1 - V a.1) - rs (V b.1 - V a.1)) (e2 := (V b.2 - V a.2) - rs (V b.2 - V a.2)) (E := 1 / 134217728) (show 0 ≤ L + 1 / 16777216 by grind) (by grind) r (by unfold eps at *; grind) (by unfold eps at *; grind) (by unfold eps at *; grind) (by unfold eps at *; grind)
  have e1 : rs (V b.1 - V a.1) + (V b.1 - V a.1 - rs (V b.1 - V a.1)) = V b.1 - V a.1 := by grind
  have e2 : rs (V b.2 - V a.2) + (V b.2 - V a.2 - rs (V b.2 - V a.2)) = V b.2 - V a.2 := by grind
  rw [e1, e2] at t
  have h4 : L + 1 / 16777216 + 2 * (1 / 134217728) ≤ L + 1 / 8388608 := by grind
  have h5 := mul_self_le (show 0 ≤ L + 1 / 16777216 + 2 * (1 / 134217728) by grind) h4
  grind
end
end Go.Proofs.Ythopjahoaljhaaa.X

/-! ## The place of a segment next to a place: hardly farther away than either end. -/
set_option linter.unusedVariables false
set_option linter.unusedSimpArgs false
namespace Go.Proofs.Ythopjahoaljhaaa.X
open Go
noncomputable section

theorem u_smaller : u ≤ 1 / 1606938044258990275541962092341162602522202993782792835301376 := by
  unfold u
  have h1 := zpow_le (show (-1074 : Int) ≤ -(200 : Nat) by omega)
  have h2 : (2 : Rat) ^ (-((200 : Nat) : Int)) = ((2 : Rat) ^ 200)⁻¹ := by rw [Rat.zpow_neg, zpow_nat]
  rw [h2] at h1
  have h3 : ((2 : Rat) ^ 200)⁻¹ = 1 / 1606938044258990275541962092341162602522202993782792835301376 := by
    have : (2 : Rat) ^ 200 = 1606938044258990275541962092341162602522202993782792835301376 := by grind
    rw [this, Rat.div_def, Rat.one_mul]
  rw [h3] at h1
  exact h1
theorem bnd_bigger : 1606938044258990275541962092341162602522202993782792835301376 ≤ bnd := by
  have h := pow_le_bnd (k := 200) (by omega)
  have : (2 : Rat) ^ 200 = 1606938044258990275541962092341162602522202993782792835301376 := by grind
  rw [this] at h; exact h

def clampR (q : Rat) : Rat := if q ≤ 0 then 0 else if 1 < q then 1 else q

/-- Of the parabola's law: the part that is nearly the best one is nearly as good as either end. -/
theorem parabola {w1 w2 X Y q S D : Rat} (hdd : 0 < X * X + Y * Y) (hS : S * S ≤ 2 * (X * X + Y * Y)) (hS0 : 0 ≤ S)
    (h1 : q * (X * X + Y * Y) ≤ (w1 * X + w2 * Y) + S / 67108864) (h2 : (w1 * X + w2 * Y) ≤ q * (X * X + Y * Y) + S / 67108864) (hD : 0 ≤ D)
    (he : w1 * w1 + w2 * w2 ≤ D * D ∨ (w1 - X) * (w1 - X) + (w2 - Y) * (w2 - Y) ≤ D * D) :
    (w1 - clampR q * X) * (w1 - clampR q * X) + (w2 - clampR q * Y) * (w2 - clampR q * Y) ≤ (D + 1 / 16777216) * (D + 1 / 16777216) := by
  -- the best part
  obtain ⟨t0, ht0⟩ : ∃ t0, t0 * (X * X + Y * Y) = w1 * X + w2 * Y := ⟨(w1 * X + w2 * Y) / (X * X + Y * Y), Rat.div_mul_cancel (by grind)⟩
  have hdiff : -(S / 67108864) ≤ (q - t0) * (X * X + Y * Y) ∧ (q - t0) * (X * X + Y * Y) ≤ S / 67108864 := by constructor <;> grind
  have hsq := sq_small hdiff.1 hdiff.2
  -- (q - t0)^2 dd is small
  have h3 : (q - t0) * (q - t0) * (X * X + Y * Y) ≤ 1 / 2251799813685248 := by
    refine Rat.le_of_mul_le_mul_right (c := X * X + Y * Y) ?_ hdd
    have : (q - t0) * (q - t0) * (X * X + Y * Y) * (X * X + Y * Y) = (q - t0) * (X * X + Y * Y) * ((q - t0) * (X * X + Y * Y)) := by grind
    rw [this]
    grind
  have hlip : (clampR t0 - clampR q) * (clampR t0 - clampR q) ≤ (q - t0) * (q - t0) := by
    have ht : (q - t0) * (q - t0) = (t0 - q) * (t0 - q) := by grind
    have key : ∀ a b : Rat, a ≤ b → 0 ≤ clampR b - clampR a ∧ clampR b - clampR a ≤ b - a := by
      intro a b hab
      unfold clampR
      by_cases a1 : a ≤ 0 <;> by_cases b1 : b ≤ 0 <;> by_cases a2 : 1 < a <;> by_cases b2 : 1 < b <;> simp only [a1, b1, a2, b2, if_true, if_false] <;> grind
    by_cases hc : t0 ≤ q
    · have := key t0 q hc
      have := mul_self_le this.1 this.2
      grind
    · have := key q t0 (by grind)
      have := mul_self_le this.1 this.2
      grind
  have h4 : (clampR t0 - clampR q) * (clampR t0 - clampR q) * (X * X + Y * Y) ≤ 1 / 2251799813685248 := by
    have := Rat.mul_le_mul_of_nonneg_right hlip (Rat.le_of_lt hdd)
    grind
  -- the best place is as near as either end
  have hbest : (w1 - clampR t0 * X) * (w1 - clampR t0 * X) + (w2 - clampR t0 * Y) * (w2 - clampR t0 * Y) ≤ D * D := by
    have n1 := mul_self_nonneg t0
    have n2 := mul_self_nonneg (1 - t0)
    have m1 := Rat.mul_nonneg n1 (Rat.le_of_lt hdd)
    have m2 := Rat.mul_nonneg n2 (Rat.le_of_lt hdd)
    unfold clampR
    by_cases c1 : t0 ≤ 0
    · rw [if_pos c1]
      have := Rat.mul_nonneg (show 0 ≤ -t0 by grind) (Rat.le_of_lt hdd)
      rcases he with he | he <;> grind
    · rw [if_neg c1]
      by_cases c2 : 1 < t0
      · rw [if_pos c2]
        have := Rat.mul_nonneg (show 0 ≤ t0 - 1 by grind) (Rat.le_of_lt hdd)
        rcases he with he | he <;> grind
      · rw [if_neg c2]
        rcases he with he | he
        · have e : (w1 - t0 * X) * (w1 - t0 * X) + (w2 - t0 * Y) * (w2 - t0 * Y) = w1 * w1 + w2 * w2 - t0 * t0 * (X * X + Y * Y) := by grind
          rw [e]; grind
        · have e : (w1 - t0 * X) * (w1 - t0 * X) + (w2 - t0 * Y) * (w2 - t0 * Y) = (w1 - X) * (w1 - X) + (w2 - Y) * (w2 - Y) - (1 - t0) * (1 - t0) * (X * X + Y * Y) := by grind
          rw [e]; grind
  have := tri (e1 := (clampR t0 - clampR q) * X) (e2 := (clampR t0 - clampR q) * Y) (E := 1 / 16777216) hD (by grind) hbest (by grind)
  have e1 : w1 - clampR t0 * X + (clampR t0 - clampR q) * X = w1 - clampR q * X := by grind
  have e2 : w2 - clampR t0 * Y + (clampR t0 - clampR q) * Y = w2 - clampR q * Y := by grind
  rw [e1, e2] at this
  exact this

def ab (x : Rat) : Rat := if 0 ≤ x then x else -x
theorem ab_le (x : Rat) : -(ab x) ≤ x ∧ x ≤ ab x ∧ 0 ≤ ab x := by unfold ab; split <;> grind
theorem ab_sq (x : Rat) : ab x * ab x = x * x := by unfold ab; split <;> grind
theorem ab_bound {x M : Rat} (h1 : -M ≤ x) (h2 : x ≤ M) : ab x ≤ M := by unfold ab; split <;> grind

/-- The part as it is reckoned, against the best one. -/
theorem part_err {w1 w2 X Y p s q : Rat} (a1 : -2097152 ≤ w1) (a2 : w1 ≤ 2097152) (a3 : -2097152 ≤ w2) (a4 : w2 ≤ 2097152) (b1 : -2097152 ≤ X) (b2 : X ≤ 2097152) (b3 : -2097152 ≤ Y) (b4 : Y ≤ 2097152)
    (hdd : 1 / 9223372036854775808 ≤ X * X + Y * Y) (hp : p = rs (rs (rs w1 * X) + rs (rs w2 * Y))) (hs : s = rs (rs (X * X) + rs (Y * Y))) (hq : q = rs (p / s)) :
    q * (X * X + Y * Y) ≤ (w1 * X + w2 * Y) + (ab X + ab Y) / 67108864 ∧ (w1 * X + w2 * Y) ≤ q * (X * X + Y * Y) + (ab X + ab Y) / 67108864 := by
  have hu := u_pos
  have hus := u_smaller
  obtain ⟨x1, x2, x3⟩ := ab_le X
  obtain ⟨y1, y2, y3⟩ := ab_le Y
  have xs := ab_sq X
  have ys := ab_sq Y
  have xb := ab_bound b1 b2
  have yb := ab_bound b3 b4
  -- the sum of the parts is not small
  have hS2 : 1 / 4294967296 ≤ ab X + ab Y := by
    refine le_of_mul_self (by grind) ?_
    have := Rat.mul_nonneg x3 y3
    grind
  have hSS : (X * X + Y * Y) ≤ (ab X + ab Y) * 4194304 := by
    have m1 := Rat.mul_le_mul_of_nonneg_left xb x3
    have m2 := Rat.mul_le_mul_of_nonneg_left yb y3
    grind
  have ew1 := rsE a1 a2 (by grind)
  have ew2 := rsE a3 a4 (by grind)
  generalize rs w1 = v1 at *
  generalize rs w2 = v2 at *
  have hwe : 2097152 * eps + u / 2 ≤ 1 / 4294967295 := by unfold eps; grind
  -- the products against the exact ones
  have d1 := abs_mul (x := v1 - w1) (y := X) (a := 1 / 4294967295) (by grind) (by grind) x1 x2
  have d2 := abs_mul (x := v2 - w2) (y := Y) (a := 1 / 4294967295) (by grind) (by grind) y1 y2
  have c1 := abs_mul (x := v1) (y := X) (a := 4194304) (by grind) (by grind) x1 x2
  have c2 := abs_mul (x := v2) (y := Y) (a := 4194304) (by grind) (by grind) y1 y2
  have f1 := abs_mul (x := w1) (y := X) (a := 2097152) (by grind) (by grind) x1 x2
  have f2 := abs_mul (x := w2) (y := Y) (a := 2097152) (by grind) (by grind) y1 y2
  have p1 := rsE c1.1 c1.2 (by grind)
  have p2 := rsE c2.1 c2.2 (by grind)
  generalize hdot : w1 * X + w2 * Y = dot at *
  have hd1 : (v1 - w1) * X + (v2 - w2) * Y = v1 * X + v2 * Y - dot := by rw [← hdot]; grind
  have hv1 : (v1 - w1) * X = v1 * X - w1 * X := by grind
  have hv2 : (v2 - w2) * Y = v2 * Y - w2 * Y := by grind
  rw [hv1] at d1
  rw [hv2] at d2
  generalize rs (v1 * X) = P1 at *
  generalize rs (v2 * Y) = P2 at *
  generalize v1 * X = Z1 at *
  generalize v2 * Y = Z2 at *
  generalize hA : ab X = A at *
  generalize hB : ab Y = B at *
  have ep := rsE (q := P1 + P2) (M := 8388608 * (A + B)) (by unfold eps at *; grind) (by unfold eps at *; grind) (by grind)
  rw [← hp] at ep
  have hpd : p ≤ dot + (A + B) / 268435456 ∧ dot ≤ p + (A + B) / 268435456 := by
    unfold eps at *
    constructor <;> grind
  have hdotb : -(2097152 * (A + B)) ≤ dot ∧ dot ≤ 2097152 * (A + B) := by constructor <;> grind
  -- the square
  have sqe := square_err (x := X) (y := Y) (by grind) (by grind) (by grind) (by grind) hs
  generalize X * X + Y * Y = dd at *
  have hs1 : s ≤ dd + 4 * eps * dd ∧ dd ≤ s + 4 * eps * dd := by unfold eps at *; constructor <;> grind
  have hspos : dd / 2 ≤ s := by unfold eps at *; grind
  obtain ⟨Q, hQ⟩ : ∃ Q, p / s = Q := ⟨_, rfl⟩
  have hQs : Q * s = p := by rw [← hQ]; exact Rat.div_mul_cancel (by grind)
  rw [hQ] at hq
  have hdpos : 0 < dd := by grind
  have hbb := bnd_bigger
  by_cases hsgn : 0 ≤ Q
  · have m1 := Rat.mul_le_mul_of_nonneg_left hspos hsgn
    have m2 := Rat.mul_le_mul_of_nonneg_left hs1.1 hsgn
    have m3 := Rat.mul_le_mul_of_nonneg_left hs1.2 hsgn
    have m4 := Rat.mul_le_mul_of_nonneg_left hdd hsgn
    have hQb : Q ≤ bnd := by grind
    have e := rs_err hsgn hQb
    rw [← hq] at e
    have e1 := Rat.mul_le_mul_of_nonneg_right e.1 (Rat.le_of_lt hdpos)
    have e2 := Rat.mul_le_mul_of_nonneg_right e.2 (Rat.le_of_lt hdpos)
    have hud := Rat.mul_le_mul_of_nonneg_left hus (Rat.le_of_lt hdpos)
    unfold eps at *
    constructor <;> grind
  · have hsgn' : 0 ≤ -Q := by grind
    have m1 := Rat.mul_le_mul_of_nonneg_left hspos hsgn'
    have m2 := Rat.mul_le_mul_of_nonneg_left hs1.1 hsgn'
    have m3 := Rat.mul_le_mul_of_nonneg_left hs1.2 hsgn'
    have m4 := Rat.mul_le_mul_of_nonneg_left hdd hsgn'
    have hQb : -Q ≤ bnd := by grind
    have e := rs_err hsgn' hQb
    rw [rs_neg, ← hq] at e
    have e1 := Rat.mul_le_mul_of_nonneg_right e.1 (Rat.le_of_lt hdpos)
    have e2 := Rat.mul_le_mul_of_nonneg_right e.2 (Rat.le_of_lt hdpos)
    have hud := Rat.mul_le_mul_of_nonneg_left hus (Rat.le_of_lt hdpos)
    unfold eps at *
    constructor <;> grind
end
end Go.Proofs.Ythopjahoaljhaaa.X

/-! ## Of calm shapes: the distance of the cores is hardly more than that of any two of their points. -/
set_option linter.unusedVariables false
set_option linter.unusedSimpArgs false
namespace Go.Proofs.Ythopjahoaljhaaa.X
open Go
noncomputable section

/-- A side is a point, or not short. -/
def SideOk (c d : Pr2) : Prop := c = d ∨ fLt (vec_Length (vec_Sub_0 d.1 d.2 c.1 c.2) (vec_Sub_1 d.1 d.2 c.1 c.2)) 4472074429978902528 = false
theorem m30 : (2 : Rat) ^ (-30 : Int) = 1 / 1073741824 := by
  have h2 : (2 : Rat) ^ (-((30 : Nat) : Int)) = ((2 : Rat) ^ 30)⁻¹ := by rw [Rat.zpow_neg, zpow_nat]
  have : (2 : Rat) ^ 30 = 1073741824 := by grind
  rw [this] at h2
  rw [Rat.div_def, Rat.one_mul]; exact h2
theorem sides_ok {kd : Int} {r : Nat} {l : List Pr2} (h : shape_Check kd r l = 0) : ∀ x ∈ sideL kd l, SideOk x.1 x.2 := by
  have ho := shape_ok h
  rcases ho.kinds with ⟨rfl, hn⟩ | ⟨rfl, hn⟩ | ⟨rfl, hn, hc⟩
  · intro x hx
    have e : sideL 1 l = [(gp l (l.length - 1), gp l 0)] := by unfold sideL; simp
    rw [e, List.mem_singleton] at hx; subst hx
    rw [hn]; exact .inl rfl
  · intro x hx
    match l, hn, h with
    | [pa, pb], _, h =>
      have e : sideL 2 [pa, pb] = [(pa, pb)] := rfl
      rw [e, List.mem_singleton] at hx; subst hx
      right
      simp only [shape_Check] at h
      unfold shape_Check_v2 at h
      simp [gp] at h
      unfold shape_capsule_check at h
      cases hw : vec_Within pa.1 pa.2 4787326403894837248
      · simp [hw] at h
      · cases hw2 : vec_Within pb.1 pb.2 4787326403894837248
        · simp [hw, hw2] at h
        · cases hr : shape_length r
          · simp [hw, hw2, hr] at h
          · cases hl : fLt (vec_Length (vec_Sub_0 pb.1 pb.2 pa.1 pa.2) (vec_Sub_1 pb.1 pb.2 pa.1 pa.2)) 4472074429978902528
            · rfl
            · simp [hw, hw2, hr, hl] at h
  · intro x hx
    obtain ⟨_, hs⟩ := poly_parts hc
    rw [all0_iff] at hs
    have side : ∀ i, i < l.length → fLt (vec_Length (way0 l i) (way1 l i)) 4472074429978902528 = false := by
      intro i hi
      have := hs i hi
      rw [Nat.zero_add] at this
      unfold sideOk at this
      rw [Bool.and_eq_true, Bool.not_eq_true'] at this
      exact this.1
    have e : sideL 3 l = (List.range (l.length - 1)).map (fun i => (gp l i, gp l (i + 1))) ++ [(gp l (l.length - 1), gp l 0)] := by unfold sideL; simp
    rw [e, List.mem_append] at hx
    right
    rcases hx with hx | hx
    · rw [List.mem_map] at hx
      obtain ⟨i, hi, rfl⟩ := hx
      rw [List.mem_range] at hi
      have := side i (by omega)
      unfold way0 way1 at this
      rw [Nat.mod_eq_of_lt (show i + 1 < l.length by omega)] at this
      exact this
    · rw [List.mem_singleton] at hx; subst hx
      have := side (l.length - 1) (by omega)
      unfold way0 way1 at this
      rw [show l.length - 1 + 1 = l.length by omega, Nat.mod_self] at this
      exact this

theorem p20 : (2 : Rat) ^ 20 = 1048576 := by grind
theorem p21 : (2 : Rat) ^ (20 + 1) = 2097152 := by grind
theorem nextP_near {c d a b : Pr2} (hc : Pt 20 c) (hd : Pt 20 d) (ha : Pt 20 a) (hs : SideOk c d) (hb : b = c ∨ b = d) {D : Rat} (hD : 0 ≤ D)
    (h : (V a.1 - V b.1) * (V a.1 - V b.1) + (V a.2 - V b.2) * (V a.2 - V b.2) ≤ D * D) :
    (V (nextP c d a).1 - V a.1) * (V (nextP c d a).1 - V a.1) + (V (nextP c d a).2 - V a.2) * (V (nextP c d a).2 - V a.2) ≤ (D + 1 / 8388608) * (D + 1 / 8388608) := by
  have hu := u_pos
  have hus := u_smaller
  obtain ⟨b1, v1⟩ := hd.1.sub hc.1 (by omega)
  obtain ⟨b2, v2⟩ := hd.2.sub hc.2 (by omega)
  obtain ⟨z1, w1⟩ := ha.1.sub hc.1 (by omega)
  obtain ⟨z2, w2⟩ := ha.2.sub hc.2 (by omega)
  obtain ⟨sb, sv, sn⟩ := square_val b1 b2 (by omega)
  have z := V0
  have DD := mul_self_le hD (show D ≤ D + 1 / 8388608 by grind)
  -- bounds
  have cx1 := hc.1.lo
  have cx2 := hc.1.hi
  have cy1 := hc.2.lo
  have cy2 := hc.2.hi
  have dx1 := hd.1.lo
  have dx2 := hd.1.hi
  have dy1 := hd.2.lo
  have dy2 := hd.2.hi
  have ax1 := ha.1.lo
  have ax2 := ha.1.hi
  have ay1 := ha.2.lo
  have ay2 := ha.2.hi
  have X1 := b1.lo
  have X2 := b1.hi
  have Y1 := b2.lo
  have Y2 := b2.hi
  rw [p21] at X1 X2 Y1 Y2
  rw [p20] at *
  have sqe := square_err (x := V (fsub d.1 c.1)) (y := V (fsub d.2 c.2)) (by grind) (by grind) (by grind) (by grind) sv
  cases hg : fGt (vec_Square (vec_Sub_0 d.1 d.2 c.1 c.2) (vec_Sub_1 d.1 d.2 c.1 c.2)) 0
  · have e : nextP c d a = c := by
      unfold nextP near_Point_0 near_Point_1
      rw [hg]; rfl
    rw [e]
    have hbc : b = c := by
      rcases hb with hb | hb
      · exact hb
      · rcases hs with hs | hs
        · rw [hb, hs]
        · exfalso
          have h0 : V (vec_Square (fsub d.1 c.1) (fsub d.2 c.2)) = 0 := by
            have : ¬ (V 0 < V (vec_Square (fsub d.1 c.1) (fsub d.2 c.2))) := by
              intro hh
              rw [← fGt_iff sb.num (num_of_fin z.2)] at hh
              have hg' : fGt (vec_Square (fsub d.1 c.1) (fsub d.2 c.2)) 0 = false := hg
              rw [hg'] at hh; cases hh
            rw [z.1] at this; grind
          have hl := sqrt_zero h0 sb.f
          have m := Vm30
          have : fLt (fsqrt (vec_Square (fsub d.1 c.1) (fsub d.2 c.2))) 4472074429978902528 = true := by
            rw [fLt_iff (num_of_fin hl.2) (num_of_fin m.2), hl.1, m.1]
            exact two_zpow_pos _
          have hs' : fLt (fsqrt (vec_Square (fsub d.1 c.1) (fsub d.2 c.2))) 4472074429978902528 = false := hs
          rw [hs'] at this; cases this
    subst hbc
    have e2 : (V b.1 - V a.1) * (V b.1 - V a.1) + (V b.2 - V a.2) * (V b.2 - V a.2) = (V a.1 - V b.1) * (V a.1 - V b.1) + (V a.2 - V b.2) * (V a.2 - V b.2) := by grind
    rw [e2]; exact Rat.le_trans h DD
  · have hpos : 0 < V (vec_Square (fsub d.1 c.1) (fsub d.2 c.2)) := by
      have hg' : fGt (vec_Square (fsub d.1 c.1) (fsub d.2 c.2)) 0 = true := hg
      rw [fGt_iff sb.num (num_of_fin z.2), z.1] at hg'
      exact hg'
    -- the side is not short
    have hdd : 1 / 9223372036854775808 ≤ V (fsub d.1 c.1) * V (fsub d.1 c.1) + V (fsub d.2 c.2) * V (fsub d.2 c.2) := by
      rcases hs with hs | hs
      · exfalso
        subst hs
        have q1 : V (fsub c.1 c.1) = 0 := by rw [v1]; have : V c.1 - V c.1 = 0 := by grind
                                             rw [this, rs_zero]
        have q2 : V (fsub c.2 c.2) = 0 := by rw [v2]; have : V c.2 - V c.2 = 0 := by grind
                                             rw [this, rs_zero]
        rw [q1, q2, Rat.zero_mul, rs_zero] at sv
        have : (0 : Rat) + 0 = 0 := by grind
        rw [this, rs_zero] at sv
        grind
      · have m := Vm30
        have hl := sqrt_fin sb.f sn
        have hlen : 1 / 1073741824 ≤ V (fsqrt (vec_Square (fsub d.1 c.1) (fsub d.2 c.2))) := by
          have hs' : fLt (fsqrt (vec_Square (fsub d.1 c.1) (fsub d.2 c.2))) 4472074429978902528 = false := hs
          have : ¬ (V (fsqrt (vec_Square (fsub d.1 c.1) (fsub d.2 c.2))) < V 4472074429978902528) := by
            intro hh
            rw [← fLt_iff (num_of_fin hl.1) (num_of_fin m.2), hs'] at hh; cases hh
          rw [m.1, m30] at this; grind
        have hbig : ¬ (V (vec_Square (fsub d.1 c.1) (fsub d.2 c.2)) ≤ (1 / 2147483648) * (1 / 2147483648)) := by
          intro hh
          have h1 := sqrt_le sb.f sn (R := 1 / 2147483648) (by grind) hh
          have bb := bnd_bigger
          have h2 := (rs_err (q := 1 / 2147483648) (by grind) (by grind)).1
          unfold eps at h2
          grind
        have := sqe.1
        unfold eps at this
        grind
    obtain ⟨p1, r1⟩ := z1.mul b1 (by omega)
    obtain ⟨p2, r2⟩ := z2.mul b2 (by omega)
    obtain ⟨p3, r3⟩ := p1.add p2 (by omega)
    rw [r1, r2, w1, w2] at r3
    have hfs : fin (vec_Square (fsub d.1 c.1) (fsub d.2 c.2)) := sb.f
    have dv := div_res p3.f hfs (Rat.ne_of_gt hpos)
    have tq := (clamp01 (fdiv (fadd (fmul (fsub a.1 c.1) (fsub d.1 c.1)) (fmul (fsub a.2 c.2) (fsub d.2 c.2))) (vec_Square (fsub d.1 c.1) (fsub d.2 c.2)))).2.2.2 _ dv.num rfl
    have tb := clamp_bd (fdiv (fadd (fmul (fsub a.1 c.1) (fsub d.1 c.1)) (fmul (fsub a.2 c.2) (fsub d.2 c.2))) (vec_Square (fsub d.1 c.1) (fsub d.2 c.2)))
    have t01 := clamp01 (fdiv (fadd (fmul (fsub a.1 c.1) (fsub d.1 c.1)) (fmul (fsub a.2 c.2) (fsub d.2 c.2))) (vec_Square (fsub d.1 c.1) (fsub d.2 c.2)))
    have e : nextP c d a = (fadd c.1 (fmul (num_Clamp (fdiv (fadd (fmul (fsub a.1 c.1) (fsub d.1 c.1)) (fmul (fsub a.2 c.2) (fsub d.2 c.2))) (vec_Square (fsub d.1 c.1) (fsub d.2 c.2))) 0 4607182418800017408) (fsub d.1 c.1)), fadd c.2 (fmul (num_Clamp (fdiv (fadd (fmul (fsub a.1 c.1) (fsub d.1 c.1)) (fmul (fsub a.2 c.2) (fsub d.2 c.2))) (vec_Square (fsub d.1 c.1) (fsub d.2 c.2))) 0 4607182418800017408) (fsub d.2 c.2))) := by
      unfold nextP near_Point_0 near_Point_1
      rw [hg]; rfl
    rw [e]
    simp only
    have q := dv.v
    rw [r3] at q
    have pe := part_err (w1 := V a.1 - V c.1) (w2 := V a.2 - V c.2) (by grind) (by grind) (by grind) (by grind) X1 X2 Y1 Y2 hdd rfl sv q
    generalize fdiv (fadd (fmul (fsub a.1 c.1) (fsub d.1 c.1)) (fmul (fsub a.2 c.2) (fsub d.2 c.2))) (vec_Square (fsub d.1 c.1) (fsub d.2 c.2)) = Qw at *
    have tq' : V (num_Clamp Qw 0 4607182418800017408) = clampR (V Qw) := tq
    have t0 := t01.2.1
    have t1 := t01.2.2.1
    generalize num_Clamp Qw 0 4607182418800017408 = tw at *
    have m1 := (more_bd hc.1 tb b1 (by omega)).2
    have m2 := (more_bd hc.2 tb b2 (by omega)).2
    -- the ends
    have exd := rsE (q := V d.1 - V c.1) (M := 2097152) (by grind) (by grind) (by grind)
    have eyd := rsE (q := V d.2 - V c.2) (M := 2097152) (by grind) (by grind) (by grind)
    rw [← v1] at exd
    rw [← v2] at eyd
    rw [m1, m2]
    generalize V (fsub d.1 c.1) = X at *
    generalize V (fsub d.2 c.2) = Y at *
    have hS : (ab X + ab Y) * (ab X + ab Y) ≤ 2 * (X * X + Y * Y) := by
      have := ab_sq X
      have := ab_sq Y
      have := mul_self_nonneg (ab X - ab Y)
      grind
    have hS0 : 0 ≤ ab X + ab Y := by have := (ab_le X).2.2; have := (ab_le Y).2.2; grind
    have hends : (V a.1 - V c.1) * (V a.1 - V c.1) + (V a.2 - V c.2) * (V a.2 - V c.2) ≤ (D + 1 / 1073741824) * (D + 1 / 1073741824) ∨
        (V a.1 - V c.1 - X) * (V a.1 - V c.1 - X) + (V a.2 - V c.2 - Y) * (V a.2 - V c.2 - Y) ≤ (D + 1 / 1073741824) * (D + 1 / 1073741824) := by
      have D2 := mul_self_le hD (show D ≤ D + 1 / 1073741824 by grind)
      rcases hb with rfl | rfl
      · left; exact Rat.le_trans h D2
      · right
        have t := tri2 (e1 := V b.1 - V c.1 - X) (e2 := V b.2 - V c.2 - Y) (E := 1 / 2147483648) hD (by grind) h (by unfold eps at *; grind) (by unfold eps at *; grind) (by unfold eps at *; grind) (by unfold eps at *; grind)
        have e1 : V a.1 - V b.1 + (V b.1 - V c.1 - X) = V a.1 - V c.1 - X := by grind
        have e2 : V a.2 - V b.2 + (V b.2 - V c.2 - Y) = V a.2 - V c.2 - Y := by grind
        rw [e1, e2] at t
        have : D + 2 * (1 / 2147483648) = D + 1 / 1073741824 := by grind
        rw [this] at t
        exact t
    have par := parabola (show 0 < X * X + Y * Y by grind) hS hS0 pe.1 pe.2 (show 0 ≤ D + 1 / 1073741824 by grind) hends
    rw [← tq'] at par
    generalize V tw = t at *
    -- the place, rounded
    have bx := abs_mul (x := t) (y := X) (a := 1) (b := 2097152) (by grind) (by grind) X1 X2
    have by_ := abs_mul (x := t) (y := Y) (a := 1) (b := 2097152) (by grind) (by grind) Y1 Y2
    have rx := rsE (q := t * X) (M := 2097152) (by grind) (by grind) (by grind)
    have ry := rsE (q := t * Y) (M := 2097152) (by grind) (by grind) (by grind)
    have sx := rsE (q := V c.1 + rs (t * X)) (M := 4194304) (by unfold eps at *; grind) (by unfold eps at *; grind) (by grind)
    have sy := rsE (q := V c.2 + rs (t * Y)) (M := 4194304) (by unfold eps at *; grind) (by unfold eps at *; grind) (by grind)
    generalize rs (V c.1 + rs (t * X)) = N1 at *
    generalize rs (V c.2 + rs (t * Y)) = N2 at *
    have fin_ := tri2 (a1 := V a.1 - V c.1 - t * X) (a2 := V a.2 - V c.2 - t * Y) (e1 := V c.1 + t * X - N1) (e2 := V c.2 + t * Y - N2) (E := 1 / 536870912) (show 0 ≤ D + 1 / 1073741824 + 1 / 16777216 by grind) (by grind) par (by unfold eps at *; grind) (by unfold eps at *; grind) (by unfold eps at *; grind) (by unfold eps at *; grind)
    have e1 : V a.1 - V c.1 - t * X + (V c.1 + t * X - N1) = V a.1 - N1 := by grind
    have e2 : V a.2 - V c.2 - t * Y + (V c.2 + t * Y - N2) = V a.2 - N2 := by grind
    rw [e1, e2] at fin_
    have e3 : (N1 - V a.1) * (N1 - V a.1) + (N2 - V a.2) * (N2 - V a.2) = (V a.1 - N1) * (V a.1 - N1) + (V a.2 - N2) * (V a.2 - N2) := by grind
    rw [e3]
    have last := mul_self_le (show 0 ≤ D + 1 / 1073741824 + 1 / 16777216 + 2 * (1 / 536870912) by grind) (show D + 1 / 1073741824 + 1 / 16777216 + 2 * (1 / 536870912) ≤ D + 1 / 8388608 by grind)
    exact Rat.le_trans fin_ last

/-- Of any two ends of two sides: the sides are hardly farther apart. -/
theorem segs_near {p q s t a b : Pr2} (hp : Pt 20 p) (hq : Pt 20 q) (hs : Pt 20 s) (ht : Pt 20 t) (o2 : SideOk s t) (ha : a = p ∨ a = q) (hb : b = s ∨ b = t) :
    V (segs p q s t).far ≤ V (near_between_0 a.1 a.2 b.1 b.2) + 1 / 2097152 := by
  have cand := segs_cand hp hq hs ht (by omega)
  have pa : Pt 20 a := by rcases ha with rfl | rfl <;> assumption
  have pb : Pt 20 b := by rcases hb with rfl | rfl <;> assumption
  have lo := len_low (pa.mono (show 20 ≤ 24 by omega)) (pb.mono (show 20 ≤ 24 by omega))
  have lb := between_bd pa pb (by omega)
  have l1 := lb.1.hi
  have l0 := lb.2
  have p22 : (2 : Rat) ^ (20 + 2) = 4194304 := by grind
  rw [p22] at l1
  generalize V (near_between_0 a.1 a.2 b.1 b.2) = L at *
  have h : (V a.1 - V b.1) * (V a.1 - V b.1) + (V a.2 - V b.2) * (V a.2 - V b.2) ≤ (L + 1 / 8388608) * (L + 1 / 8388608) := by grind
  have near := nextP_near hs ht pa o2 hb (show 0 ≤ L + 1 / 8388608 by grind) h
  have pn := nextP_bd (a := a) hs ht (by omega)
  have up := len_up (pa.mono (show 20 ≤ 24 by omega)) (pn.mono (show 20 + 2 ≤ 24 by omega)) (R := L + 1 / 8388608 + 1 / 8388608) (by grind) (by grind) near
  have hle : V (segs p q s t).far ≤ V (bt a (nextP s t a)).far := by
    rcases ha with rfl | rfl
    · exact cand.2.2.1
    · exact cand.2.2.2.1
  have e : V (bt a (nextP s t a)).far = V (near_between_0 a.1 a.2 (nextP s t a).1 (nextP s t a).2) := rfl
  rw [e] at hle
  grind
end
end Go.Proofs.Ythopjahoaljhaaa.X

/-! ## Of calm shapes: Far is at most what any two points are apart; the places are so far apart. -/
set_option linter.unusedVariables false
set_option linter.unusedSimpArgs false
namespace Go.Proofs.Ythopjahoaljhaaa.X
open Go
noncomputable section

theorem calm_parts {kd : Int} {r : Nat} {l : List Pr2} (h : law10_calm kd r l = true) : shape_Check kd r l = 0 ∧ (∀ p ∈ l, Pt 20 p) ∧ Bd 20 r := by
  unfold law10_calm at h
  rw [Bool.and_eq_true, Bool.and_eq_true] at h
  obtain ⟨h1, h2, h3⟩ := h
  have hc : shape_Check kd r l = 0 := by simpa using h2
  have ho := shape_ok hc
  have q := Vp20
  refine ⟨hc, ?_, ?_⟩
  · intro p hp
    obtain ⟨i, hi, rfl⟩ := List.getElem_of_mem hp
    have h := (all0_iff.1 h1) i hi
    rw [Nat.zero_add] at h
    unfold calmF at h
    have e : gp l i = l[i] := by unfold gp; rw [List.getElem?_eq_getElem hi]; rfl
    rw [e] at h
    exact within_pt q.1 q.2 (by omega) h
  · rw [fLe_iff ho.rad.num (num_of_fin q.2), q.1] at h3
    have := ho.rad0
    have := two_pow_pos 20
    exact ⟨ho.rad.f, by grind, h3⟩

/-- The greater one of nought and a number. -/
theorem max0 {y : Nat} (hy : fin y) : fin (math_Max 0 y) ∧ 0 ≤ V (math_Max 0 y) ∧ V y ≤ V (math_Max 0 y) ∧ (V (math_Max 0 y) = 0 ∨ V (math_Max 0 y) = V y) := by
  have z := V0
  obtain ⟨m, p, e1, v1⟩ := read_fin z.2
  obtain ⟨n, q, e2, v2⟩ := read_fin hy
  unfold math_Max fmaxA
  simp only [e1, e2]
  have i1 : (Ieee.Datum.number (sg 0) m (-1074 + (p : Int)) == .infinity false) = false := by simp [BEq.beq, decide_eq_false_iff_not]
  have i2 : (Ieee.Datum.number (sg y) n (-1074 + (q : Int)) == .infinity false) = false := by simp [BEq.beq, decide_eq_false_iff_not]
  rw [i1, i2]
  simp only [Bool.or_self, Bool.false_eq_true, if_false, Ieee.Datum.isNaN]
  have ord : (Ieee.Datum.number (sg 0) m (-1074 + (p : Int))).order (.number (sg y) n (-1074 + (q : Int))) = some (cmpR (V 0) (V y)) := by
    have := order_fin z.2 hy
    unfold Ieee.Format.order at this
    rw [e1, e2] at this
    exact this
  rw [ord, z.1]
  split
  · rename_i hz
    rw [Bool.and_eq_true] at hz
    have hn : V y = 0 := by
      have w := V_number rfl v2
      have : n = 0 := by
        have h2 := hz.2
        unfold Ieee.Datum.isZero at h2
        cases n with
        | zero => rfl
        | succ k => simp at h2
      subst this
      rw [w]; simp
    split
    · exact ⟨z.2, by rw [z.1]; exact Rat.le_refl, by rw [z.1, hn]; exact Rat.le_refl, .inl z.1⟩
    · exact ⟨hy, by rw [hn]; exact Rat.le_refl, Rat.le_refl, .inr rfl⟩
  · unfold cmpR
    by_cases h1 : (0 : Rat) < V y
    · rw [if_pos h1]
      have : ((some Ordering.lt : Option Ordering) == some .gt) = false := rfl
      rw [this]
      simp only [Bool.false_eq_true, if_false]
      exact ⟨hy, by grind, Rat.le_refl, by simp⟩
    · rw [if_neg h1]
      by_cases h2 : (0 : Rat) = V y
      · rw [if_pos h2]
        have : ((some Ordering.eq : Option Ordering) == some .gt) = false := rfl
        rw [this]
        simp only [Bool.false_eq_true, if_false]
        exact ⟨hy, by grind, Rat.le_refl, by simp⟩
      · rw [if_neg h2]
        have : ((some Ordering.gt : Option Ordering) == some .gt) = true := rfl
        rw [this, if_pos rfl]
        exact ⟨z.2, by rw [z.1]; exact Rat.le_refl, by rw [z.1]; grind, .inl z.1⟩

theorem m20 : (2 : Rat) ^ (-20 : Int) = 1 / 1048576 := by
  have h2 : (2 : Rat) ^ (-((20 : Nat) : Int)) = ((2 : Rat) ^ 20)⁻¹ := by rw [Rat.zpow_neg, zpow_nat]
  have : (2 : Rat) ^ 20 = 1048576 := by grind
  rw [this] at h2
  rw [Rat.div_def, Rat.one_mul]; exact h2
theorem m10 : (2 : Rat) ^ (-10 : Int) = 1 / 1024 := by
  have h2 : (2 : Rat) ^ (-((10 : Nat) : Int)) = ((2 : Rat) ^ 10)⁻¹ := by rw [Rat.zpow_neg, zpow_nat]
  have : (2 : Rat) ^ 10 = 1024 := by grind
  rw [this] at h2
  rw [Rat.div_def, Rat.one_mul]; exact h2

/-- The cores of calm shapes. -/
theorem cores_near {ka : Int} {ra : Nat} {la : List Pr2} {kb : Int} {rb : Nat} {lb : List Pr2} (ca : law10_calm ka ra la = true) (cb : law10_calm kb rb lb = true) {a b : Pr2} (ha : a ∈ la) (hb : b ∈ lb) :
    V (near_cores ka ra la kb rb lb).far ≤ V (near_between_0 a.1 a.2 b.1 b.2) + 1 / 2097152 := by
  obtain ⟨c1, pa, _⟩ := calm_parts ca
  obtain ⟨c2, pb, _⟩ := calm_parts cb
  have oa := shape_ok c1
  have ob := shape_ok c2
  have nn := (between_bd (pa a ha) (pb b hb) (by omega)).2
  cases h : hasOne ka la kb lb
  · obtain ⟨_, m⟩ := cores_apart oa ob h
    obtain ⟨_, ma, fa⟩ := sideL_mem oa
    obtain ⟨_, mb, fb⟩ := sideL_mem ob
    obtain ⟨x, hx, ex⟩ := fa a ha
    obtain ⟨y, hy, ey⟩ := fb b hb
    have h1 := m x hx y hy
    have h2 := segs_near (pa _ (ma x hx).1) (pa _ (ma x hx).2) (pb _ (mb y hy).1) (pb _ (mb y hy).2) (sides_ok c2 y hy) (a := a) (b := b) (by grind) (by grind)
    exact Rat.le_trans h1 h2
  · rw [cores_has h, V0.1]; grind

theorem pair_ok {ka : Int} {ra : Nat} {la : List Pr2} {kb : Int} {rb : Nat} {lb : List Pr2} (ca : law10_calm ka ra la = true) (cb : law10_calm kb rb lb = true) {a b : Pr2} (ha : a ∈ la) (hb : b ∈ lb) :
    pairOk (near_Shapes_0 ka ra la kb rb lb) ra rb a b = true := by
  obtain ⟨c1, pa, qa⟩ := calm_parts ca
  obtain ⟨c2, pb, qb⟩ := calm_parts cb
  have hu := u_pos
  have hus := u_smaller
  have oa := shape_ok c1
  have ob := shape_ok c2
  have hcn := cores_near ca cb ha hb
  have hcb := cores_bd oa ob
  obtain ⟨f0, fv⟩ := shapes0 c1 c2
  have lb_ := between_bd (pa a ha) (pb b hb) (by omega)
  have m := Vm20
  obtain ⟨s1, t1⟩ := lb_.1.sub (qa.mono (show 20 ≤ 20 + 2 by omega)) (by omega)
  obtain ⟨s2, t2⟩ := s1.sub (qb.mono (show 20 ≤ 20 + 2 + 1 by omega)) (by omega)
  obtain ⟨g1, g2, g3, g4⟩ := max0 s2.f
  have bm : Bd 24 (math_Max 0 (fsub (fsub (near_between_0 a.1 a.2 b.1 b.2) ra) rb)) := by
    have p := two_pow_pos 24
    have := s2.hi
    have e : (2 : Rat) ^ (20 + 2 + 1 + 1) = 2 ^ 24 := rfl
    rw [e] at this
    refine ⟨g1, by grind, ?_⟩
    rcases g4 with g | g <;> rw [g] <;> grind
  have b20 : Bd 24 4517110426252607488 := by
    have p : (2 : Rat) ^ 24 = 16777216 := by grind
    exact ⟨m.2, by rw [m.1, m20, p]; grind, by rw [m.1, m20, p]; grind⟩
  obtain ⟨s3, t3⟩ := bm.add b20 (by omega)
  have key : V (near_Shapes_0 ka ra la kb rb lb) ≤ V (fadd (math_Max 0 (fsub (fsub (near_between_0 a.1 a.2 b.1 b.2) ra) rb)) 4517110426252607488) := by
    rw [t3, m.1, m20, fv]
    rw [t1] at t2
    have l1 := lb_.1.hi
    have l0 := lb_.2
    have p22 : (2 : Rat) ^ (20 + 2) = 4194304 := by grind
    have p24 : (2 : Rat) ^ 24 = 16777216 := by grind
    have ra1 := qa.hi
    have rb1 := qb.hi
    have ra0 := oa.rad0
    have rb0 := ob.rad0
    have mh := bm.hi
    rw [p22] at l1
    rw [p24] at mh
    rw [p20] at ra1 rb1
    have c0 := hcb.2
    generalize V (near_cores ka ra la kb rb lb).far = C at *
    generalize V (math_Max 0 (fsub (fsub (near_between_0 a.1 a.2 b.1 b.2) ra) rb)) = M at *
    generalize V (fsub (fsub (near_between_0 a.1 a.2 b.1 b.2) ra) rb) = y at *
    generalize V (near_between_0 a.1 a.2 b.1 b.2) = L at *
    generalize V ra = A at *
    generalize V rb = B at *
    have e1 := rsE (q := A + B) (M := 2097152) (by grind) (by grind) (by grind)
    have e2 := rsE (q := C - rs (A + B)) (M := 8388608) (by unfold eps at *; grind) (by unfold eps at *; grind) (by grind)
    have e3 := rsE (q := L - A) (M := 8388608) (by grind) (by grind) (by grind)
    have e4 := rsE (q := rs (L - A) - B) (M := 16777216) (by unfold eps at *; grind) (by unfold eps at *; grind) (by grind)
    have e5 := rsE (q := M + 1 / 1048576) (M := 33554432) (by grind) (by grind) (by grind)
    split
    · unfold eps at *
      grind
    · exact rs_nonneg (by grind)
  unfold pairOk
  rw [Bool.not_eq_true']
  have e : near_between_0 a.1 a.2 b.1 b.2 = vec_Length (vec_Sub_0 b.1 b.2 a.1 a.2) (vec_Sub_1 b.1 b.2 a.1 a.2) := rfl
  rw [e] at key s3
  cases hg : fGt (near_Shapes_0 ka ra la kb rb lb) (fadd (math_Max 0 (fsub (fsub (vec_Length (vec_Sub_0 b.1 b.2 a.1 a.2) (vec_Sub_1 b.1 b.2 a.1 a.2)) ra) rb)) 4517110426252607488)
  · rfl
  · rw [fGt_iff (num_of_fin f0) s3.num] at hg
    grind
theorem rows_ok {ka : Int} {ra : Nat} {la : List Pr2} {kb : Int} {rb : Nat} {lb : List Pr2} (ca : law10_calm ka ra la = true) (cb : law10_calm kb rb lb = true) :
    allF (rowOk (near_Shapes_0 ka ra la kb rb lb) ra rb la lb) 0 la.length = true := by
  rw [all0_iff]
  intro i hi
  rw [Nat.zero_add]
  unfold rowOk
  rw [all0_iff]
  intro k hk
  rw [Nat.zero_add]
  exact pair_ok ca cb (gp_get la i hi) (gp_get lb k hk)
end
end Go.Proofs.Ythopjahoaljhaaa.X

/-! ## Of calm shapes: the places are so far apart. -/
set_option linter.unusedVariables false
set_option linter.unusedSimpArgs false
namespace Go.Proofs.Ythopjahoaljhaaa.X
open Go
noncomputable section

/-- One part of the way between the two places. -/
theorem way_err {A1 B1 X ra rb ξ : Rat} (a1 : -4194304 ≤ A1) (a2 : A1 ≤ 4194304) (b1 : -4194304 ≤ B1) (b2 : B1 ≤ 4194304) (hX : X = rs (B1 - A1)) (ra0 : 0 ≤ ra) (ra1 : ra ≤ 1048576) (rb0 : 0 ≤ rb) (rb1 : rb ≤ 1048576)
    (x1 : -2 ≤ ξ) (x2 : ξ ≤ 2) : rs (B1 + rs (-rb * rs ξ)) - rs (A1 + rs (ra * rs ξ)) ≤ X - (ra + rb) * ξ + 1 / 134217728 ∧ X - (ra + rb) * ξ ≤ rs (B1 + rs (-rb * rs ξ)) - rs (A1 + rs (ra * rs ξ)) + 1 / 134217728 := by
  have hu := u_pos
  have hus := u_smaller
  have e0 := rsE (q := B1 - A1) (M := 8388608) (by grind) (by grind) (by grind)
  rw [← hX] at e0
  have e1 := rsE x1 x2 (by grind)
  generalize rs ξ = η at *
  have d1 := abs_mul (x := ra) (y := η - ξ) (a := 1048576) (b := 2 * eps + u / 2) (by grind) (by grind) (by grind) (by grind)
  have d2 := abs_mul (x := rb) (y := η - ξ) (a := 1048576) (b := 2 * eps + u / 2) (by grind) (by grind) (by grind) (by grind)
  have c1 := abs_mul (x := ra) (y := η) (a := 1048576) (b := 4) (by grind) (by grind) (by unfold eps at *; grind) (by unfold eps at *; grind)
  have c2 := abs_mul (x := rb) (y := η) (a := 1048576) (b := 4) (by grind) (by grind) (by unfold eps at *; grind) (by unfold eps at *; grind)
  have r1 := rsE (q := ra * η) (M := 4194304) (by grind) (by grind) (by grind)
  have r2 := rsE (q := -rb * η) (M := 4194304) (by grind) (by grind) (by grind)
  generalize rs (ra * η) = p1 at *
  generalize rs (-rb * η) = p2 at *
  have s1 := rsE (q := A1 + p1) (M := 16777216) (by unfold eps at *; grind) (by unfold eps at *; grind) (by grind)
  have s2 := rsE (q := B1 + p2) (M := 16777216) (by unfold eps at *; grind) (by unfold eps at *; grind) (by grind)
  unfold eps at *
  constructor <;> grind

theorem apart_err {ka : Int} {ra : Nat} {la : List Pr2} {kb : Int} {rb : Nat} {lb : List Pr2} (ca : law10_calm ka ra la = true) (cb : law10_calm kb rb lb = true)
    (hfar : 1 / 1024 < V (near_Shapes_0 ka ra la kb rb lb)) :
    Pt 24 (near_Shapes_1 ka ra la kb rb lb, near_Shapes_2 ka ra la kb rb lb) ∧ Pt 24 (near_Shapes_3 ka ra la kb rb lb, near_Shapes_4 ka ra la kb rb lb) ∧
    V (near_between_0 (near_Shapes_1 ka ra la kb rb lb) (near_Shapes_2 ka ra la kb rb lb) (near_Shapes_3 ka ra la kb rb lb) (near_Shapes_4 ka ra la kb rb lb)) ≤ V (near_Shapes_0 ka ra la kb rb lb) + 1 / 1048576 ∧
    V (near_Shapes_0 ka ra la kb rb lb) ≤ V (near_between_0 (near_Shapes_1 ka ra la kb rb lb) (near_Shapes_2 ka ra la kb rb lb) (near_Shapes_3 ka ra la kb rb lb) (near_Shapes_4 ka ra la kb rb lb)) + 1 / 1048576 := by
  obtain ⟨c1, pa, qa⟩ := calm_parts ca
  obtain ⟨c2, pb, qb⟩ := calm_parts cb
  have hu := u_pos
  have hus := u_smaller
  have oa := shape_ok c1
  have ob := shape_ok c2
  have hcb := cores_bd oa ob
  obtain ⟨f0, fv⟩ := shapes0 c1 c2
  have ra0 := oa.rad0
  have rb0 := ob.rad0
  have ra1 := qa.hi
  have rb1 := qb.hi
  rw [p20] at ra1 rb1
  have hR0 : 0 ≤ rs (V ra + V rb) := rs_nonneg (by grind)
  rw [fv] at hfar
  have hgt : 0 < rs (V (near_cores ka ra la kb rb lb).far - rs (V ra + V rb)) := by
    apply Classical.byContradiction
    intro h
    rw [if_neg h] at hfar; grind
  rw [if_pos hgt] at hfar fv
  have r10 : rs (1 / 1024) = 1 / 1024 := by
    have := rs_V (x := 4562146422526312448) (num_of_fin Vm10.2)
    rw [Vm10.1, m10] at this; exact this
  -- the cores are apart
  have hCR : 1 / 1024 < V (near_cores ka ra la kb rb lb).far - rs (V ra + V rb) := by
    apply Classical.byContradiction
    intro h
    have := rs_mono (show V (near_cores ka ra la kb rb lb).far - rs (V ra + V rb) ≤ 1 / 1024 by grind)
    rw [r10] at this; grind
  have hC : 1 / 1024 < V (near_cores ka ra la kb rb lb).far := by grind
  have z := V0
  have hone : hasOne ka la kb lb = false := by
    cases h : hasOne ka la kb lb
    · rfl
    · rw [cores_has h, z.1] at hC; grind
  obtain ⟨⟨x, hx, y, hy, ex⟩, _⟩ := cores_apart oa ob hone
  obtain ⟨_, ma, _⟩ := sideL_mem oa
  obtain ⟨_, mb, _⟩ := sideL_mem ob
  obtain ⟨sbd, _, _, _, _, _, scase⟩ := segs_cand (pa _ (ma x hx).1) (pa _ (ma x hx).2) (pb _ (mb y hy).1) (pb _ (mb y hy).2) (by omega)
  rw [← ex] at sbd scase
  rcases scase with h0 | ⟨A, B, PA, PB, ebt⟩
  · rw [h0, z.1] at hC; grind
  · have e1 : (shape_Check ka ra la != 0) = false := by simp [c1]
    have e2 : (shape_Check kb rb lb != 0) = false := by simp [c2]
    unfold near_Shapes_1 near_Shapes_2 near_Shapes_3 near_Shapes_4
    rw [e1, e2]
    simp only [cond_false]
    rw [ebt] at hC hCR fv sbd ⊢
    have hsh0 : V (near_Shapes_0 ka ra la kb rb lb) = rs (V (bt A B).far - rs (V ra + V rb)) := fv
    rw [hsh0]
    have ef : (bt A B).far = vec_Length (fsub B.1 A.1) (fsub B.2 A.2) := rfl
    have hLb : Bd (20 + 4) (vec_Length (fsub B.1 A.1) (fsub B.2 A.2)) := sbd
    have hfin : num_Finite (vec_Length (fsub B.1 A.1) (fsub B.2 A.2)) = true := by
      unfold num_Finite
      obtain ⟨q1, q2⟩ := sub_self_zero hLb (by omega)
      rw [fEq_iff q1.num (num_of_fin z.2), q2, z.1]
    rw [ef] at hC hCR ⊢
    have hne : fEq (vec_Length (fsub B.1 A.1) (fsub B.2 A.2)) 0 = false := by
      cases h : fEq (vec_Length (fsub B.1 A.1) (fsub B.2 A.2)) 0
      · rfl
      · rw [fEq_iff hLb.num (num_of_fin z.2), z.1] at h; grind
    have hU2 : vec_Unit_2 (vec_Sub_0 (bt A B).bx (bt A B).by' (bt A B).ax (bt A B).ay) (vec_Sub_1 (bt A B).bx (bt A B).by' (bt A B).ax (bt A B).ay) = true := by
      show vec_Unit_2 (fsub B.1 A.1) (fsub B.2 A.2) = true
      unfold vec_Unit_2
      rw [hfin, hne]; rfl
    have hU0 : vec_Unit_0 (vec_Sub_0 (bt A B).bx (bt A B).by' (bt A B).ax (bt A B).ay) (vec_Sub_1 (bt A B).bx (bt A B).by' (bt A B).ax (bt A B).ay) = fdiv (fsub B.1 A.1) (vec_Length (fsub B.1 A.1) (fsub B.2 A.2)) := by
      show vec_Unit_0 (fsub B.1 A.1) (fsub B.2 A.2) = _
      unfold vec_Unit_0
      rw [hfin, hne]; rfl
    have hU1 : vec_Unit_1 (vec_Sub_0 (bt A B).bx (bt A B).by' (bt A B).ax (bt A B).ay) (vec_Sub_1 (bt A B).bx (bt A B).by' (bt A B).ax (bt A B).ay) = fdiv (fsub B.2 A.2) (vec_Length (fsub B.1 A.1) (fsub B.2 A.2)) := by
      show vec_Unit_1 (fsub B.1 A.1) (fsub B.2 A.2) = _
      unfold vec_Unit_1
      rw [hfin, hne]; rfl
    rw [hU2, hU0, hU1]
    simp only [cond_true]
    -- numbers
    obtain ⟨bx, vx⟩ := PB.1.sub PA.1 (by omega)
    obtain ⟨by_, vy⟩ := PB.2.sub PA.2 (by omega)
    obtain ⟨sb, sv, sn⟩ := square_val bx by_ (by omega)
    have p22 : (2 : Rat) ^ (20 + 2) = 4194304 := by grind
    have p23 : (2 : Rat) ^ (20 + 2 + 1) = 8388608 := by grind
    have p24 : (2 : Rat) ^ (20 + 4) = 16777216 := by grind
    have X1 := bx.lo
    have X2 := bx.hi
    have Y1 := by_.lo
    have Y2 := by_.hi
    have CH := hLb.hi
    have A1 := PA.1.lo
    have A2 := PA.1.hi
    have A3 := PA.2.lo
    have A4 := PA.2.hi
    have B1 := PB.1.lo
    have B2 := PB.1.hi
    have B3 := PB.2.lo
    have B4 := PB.2.hi
    rw [p22] at A1 A2 A3 A4 B1 B2 B3 B4
    rw [p23] at X1 X2 Y1 Y2
    rw [p24] at CH
    have hCne : V (vec_Length (fsub B.1 A.1) (fsub B.2 A.2)) ≠ 0 := by grind
    have dx := div_res bx.f hLb.f hCne
    have dy := div_res by_.f hLb.f hCne
    have rl := root_low sb.f rfl (x := V (fsub B.1 A.1)) (y := V (fsub B.2 A.2)) (by grind) (by grind) (by grind) (by grind) sv (show V (fsqrt (vec_Square (fsub B.1 A.1) (fsub B.2 A.2))) ≤ 134217728 by
      have : V (fsqrt (vec_Square (fsub B.1 A.1) (fsub B.2 A.2))) = V (vec_Length (fsub B.1 A.1) (fsub B.2 A.2)) := rfl
      rw [this]; grind)
    have ru := fun (R : Rat) (hR : 0 ≤ R) (hR2 : R ≤ 134217728) (h : V (fsub B.1 A.1) * V (fsub B.1 A.1) + V (fsub B.2 A.2) * V (fsub B.2 A.2) ≤ R * R) =>
      root_up sb.f rfl (x := V (fsub B.1 A.1)) (y := V (fsub B.2 A.2)) (by grind) (by grind) (by grind) (by grind) sv hR hR2 h
    have el : fsqrt (vec_Square (fsub B.1 A.1) (fsub B.2 A.2)) = vec_Length (fsub B.1 A.1) (fsub B.2 A.2) := rfl
    rw [el] at rl ru
    obtain ⟨ξ, hξ⟩ : ∃ ξ, V (fsub B.1 A.1) / V (vec_Length (fsub B.1 A.1) (fsub B.2 A.2)) = ξ := ⟨_, rfl⟩
    obtain ⟨υ, hυ⟩ : ∃ υ, V (fsub B.2 A.2) / V (vec_Length (fsub B.1 A.1) (fsub B.2 A.2)) = υ := ⟨_, rfl⟩
    have mξ : ξ * V (vec_Length (fsub B.1 A.1) (fsub B.2 A.2)) = V (fsub B.1 A.1) := by rw [← hξ]; exact Rat.div_mul_cancel hCne
    have mυ : υ * V (vec_Length (fsub B.1 A.1) (fsub B.2 A.2)) = V (fsub B.2 A.2) := by rw [← hυ]; exact Rat.div_mul_cancel hCne
    rw [hξ] at dx
    rw [hυ] at dy
    have vdx := dx.v
    have vdy := dy.v
    have hCpos : 0 < V (vec_Length (fsub B.1 A.1) (fsub B.2 A.2)) := by grind
    -- the unit way's parts are at most 2
    have part2 : ∀ t W C : Rat, 1 / 1024 < C → t * C = W → W * W ≤ (C + 1 / 16777216) * (C + 1 / 16777216) → -2 ≤ t ∧ t ≤ 2 := by
      intro t W C hC ht hW
      have h1 : W ≤ C + 1 / 16777216 := le_of_mul_self (by grind) hW
      have h2 : -W ≤ C + 1 / 16777216 := le_of_mul_self (by grind) (by grind)
      constructor
      · apply Classical.byContradiction
        intro hn
        have := Rat.mul_lt_mul_of_pos_right (show 2 < -t by grind) (show 0 < C by grind)
        grind
      · apply Classical.byContradiction
        intro hn
        have := Rat.mul_lt_mul_of_pos_right (show 2 < t by grind) (show 0 < C by grind)
        grind
    have nX := mul_self_nonneg (V (fsub B.1 A.1))
    have nY := mul_self_nonneg (V (fsub B.2 A.2))
    have ξb := part2 ξ _ _ hC mξ (by grind)
    have υb := part2 υ _ _ hC mυ (by grind)
    have p1 : (2 : Rat) ^ 1 = 2 := by grind
    have bξ : Bd 1 (fdiv (fsub B.1 A.1) (vec_Length (fsub B.1 A.1) (fsub B.2 A.2))) := dx.bd (by omega) (by rw [p1]; exact ξb.1) (by rw [p1]; exact ξb.2)
    have bυ : Bd 1 (fdiv (fsub B.2 A.2) (vec_Length (fsub B.1 A.1) (fsub B.2 A.2))) := dy.bd (by omega) (by rw [p1]; exact υb.1) (by rw [p1]; exact υb.2)
    obtain ⟨ng1, ng2, ng3⟩ := V_fneg qb.num
    have qn : Bd 20 (fneg rb) := ⟨ng3 qb.f, by rw [ng1, p20]; grind, by rw [ng1, p20]; grind⟩
    have stepA : ∀ {a t : Nat}, Bd 22 a → Bd 1 t → Bd 24 (fadd a (fmul ra t)) ∧ V (fadd a (fmul ra t)) = rs (V a + rs (V ra * V t)) := by
      intro a t ha ht
      obtain ⟨m1, m2⟩ := qa.mul ht (by omega)
      obtain ⟨m3, m4⟩ := ha.add (m1.mono (show 20 + 1 ≤ 22 by omega)) (by omega)
      rw [m2] at m4
      exact ⟨m3.mono (by omega), m4⟩
    have stepB : ∀ {a t : Nat}, Bd 22 a → Bd 1 t → Bd 24 (fadd a (fmul (fneg rb) t)) ∧ V (fadd a (fmul (fneg rb) t)) = rs (V a + rs (-(V rb) * V t)) := by
      intro a t ha ht
      obtain ⟨m1, m2⟩ := qn.mul ht (by omega)
      obtain ⟨m3, m4⟩ := ha.add (m1.mono (show 20 + 1 ≤ 22 by omega)) (by omega)
      rw [m2, ng1] at m4
      exact ⟨m3.mono (by omega), m4⟩
    obtain ⟨ba1, va1⟩ := stepA PA.1 bξ
    obtain ⟨ba2, va2⟩ := stepA PA.2 bυ
    obtain ⟨bb1, vb1⟩ := stepB PB.1 bξ
    obtain ⟨bb2, vb2⟩ := stepB PB.2 bυ
    rw [vdx] at va1 vb1
    rw [vdy] at va2 vb2
    generalize hUx : fdiv (fsub B.1 A.1) (vec_Length (fsub B.1 A.1) (fsub B.2 A.2)) = ux at *
    generalize hUy : fdiv (fsub B.2 A.2) (vec_Length (fsub B.1 A.1) (fsub B.2 A.2)) = uy at *
    have PA' : Pt 24 (fadd A.1 (fmul ra ux), fadd A.2 (fmul ra uy)) := ⟨ba1, ba2⟩
    have PB' : Pt 24 (fadd B.1 (fmul (fneg rb) ux), fadd B.2 (fmul (fneg rb) uy)) := ⟨bb1, bb2⟩
    have wx := way_err A1 A2 B1 B2 vx ra0 ra1 rb0 rb1 ξb.1 ξb.2
    have wy := way_err A3 A4 B3 B4 vy ra0 ra1 rb0 rb1 υb.1 υb.2
    rw [← va1, ← vb1] at wx
    rw [← va2, ← vb2] at wy
    have up := fun (R : Rat) hR hR2 h => len_up PA' PB' (R := R) hR hR2 h
    have lo := len_low PA' PB'
    simp only at up lo
    have ap0 := (between_bd PA' PB' (by omega)).2
    refine ⟨PA', PB', ?_⟩
    show V (near_between_0 (fadd A.1 (fmul ra ux)) (fadd A.2 (fmul ra uy)) (fadd B.1 (fmul (fneg rb) ux)) (fadd B.2 (fmul (fneg rb) uy))) ≤ _ + 1 / 1048576 ∧ _ ≤ V (near_between_0 (fadd A.1 (fmul ra ux)) (fadd A.2 (fmul ra uy)) (fadd B.1 (fmul (fneg rb) ux)) (fadd B.2 (fmul (fneg rb) uy))) + 1 / 1048576
    simp only at ap0
    generalize V (near_between_0 (fadd A.1 (fmul ra ux)) (fadd A.2 (fmul ra uy)) (fadd B.1 (fmul (fneg rb) ux)) (fadd B.2 (fmul (fneg rb) uy))) = P0 at *
    generalize V (fadd A.1 (fmul ra ux)) = a1 at *
    generalize V (fadd A.2 (fmul ra uy)) = a2 at *
    generalize V (fadd B.1 (fmul (fneg rb) ux)) = b1 at *
    generalize V (fadd B.2 (fmul (fneg rb) uy)) = b2 at *
    generalize V (vec_Length (fsub B.1 A.1) (fsub B.2 A.2)) = C at *
    generalize V (fsub B.1 A.1) = X at *
    generalize V (fsub B.2 A.2) = Y at *
    generalize V ra = α at *
    generalize V rb = β at *
    have eR := rsE (q := α + β) (M := 2097152) (by grind) (by grind) (by grind)
    have eF := rsE (q := C - rs (α + β)) (M := 16777216) (by unfold eps at *; grind) (by unfold eps at *; grind) (by grind)
    -- how much of the way is left
    obtain ⟨ρ, hρ⟩ : ∃ ρ, ρ * C = C - (α + β) := ⟨(C - (α + β)) / C, Rat.div_mul_cancel (by grind)⟩
    have hG : 0 < C - (α + β) := by unfold eps at *; grind
    have hρ0 : 0 < ρ := by
      apply Classical.byContradiction
      intro hn
      have := Rat.mul_nonneg (show 0 ≤ -ρ by grind) (Rat.le_of_lt hCpos)
      grind
    have hρ1 : ρ ≤ 1 := by
      apply Classical.byContradiction
      intro hn
      have := Rat.mul_lt_mul_of_pos_right (show 1 < ρ by grind) hCpos
      grind
    have wX : X - (α + β) * ξ = ρ * X := by rw [← mξ]; grind
    have wY : Y - (α + β) * υ = ρ * Y := by rw [← mυ]; grind
    rw [wX] at wx
    rw [wY] at wy
    have sqρ : (ρ * X) * (ρ * X) + (ρ * Y) * (ρ * Y) = (ρ * ρ) * (X * X + Y * Y) := by grind
    have hρρ := Rat.mul_nonneg (Rat.le_of_lt hρ0) (Rat.le_of_lt hρ0)
    -- not farther
    have h1 : (ρ * X) * (ρ * X) + (ρ * Y) * (ρ * Y) ≤ (C - (α + β) + 1 / 16777216) * (C - (α + β) + 1 / 16777216) := by
      have m := Rat.mul_le_mul_of_nonneg_left rl hρρ
      have e : ρ * ρ * ((C + 1 / 16777216) * (C + 1 / 16777216)) = (ρ * C + ρ * (1 / 16777216)) * (ρ * C + ρ * (1 / 16777216)) := by grind
      have g := mul_self_le (show 0 ≤ ρ * C + ρ * (1 / 16777216) by grind) (show ρ * C + ρ * (1 / 16777216) ≤ C - (α + β) + 1 / 16777216 by grind)
      rw [sqρ]; grind
    have t1 := tri2 (e1 := b1 - a1 - ρ * X) (e2 := b2 - a2 - ρ * Y) (E := 1 / 134217728) (show 0 ≤ C - (α + β) + 1 / 16777216 by grind) (by grind) h1 (by grind) (by grind) (by grind) (by grind)
    have k1 : ρ * X + (b1 - a1 - ρ * X) = b1 - a1 := by grind
    have k2 : ρ * Y + (b2 - a2 - ρ * Y) = b2 - a2 := by grind
    rw [k1, k2] at t1
    have u1 := up _ (show 0 ≤ C - (α + β) + 1 / 16777216 + 2 * (1 / 134217728) by grind) (by grind) t1
    -- not nearer
    have t2 := tri2 (e1 := ρ * X - (b1 - a1)) (e2 := ρ * Y - (b2 - a2)) (E := 1 / 134217728) (show 0 ≤ P0 + 1 / 8388608 by grind) (by grind) lo (by grind) (by grind) (by grind) (by grind)
    have k3 : b1 - a1 + (ρ * X - (b1 - a1)) = ρ * X := by grind
    have k4 : b2 - a2 + (ρ * Y - (b2 - a2)) = ρ * Y := by grind
    rw [k3, k4, sqρ] at t2
    have l1 : C - (α + β) ≤ P0 + 1 / 8388608 + 2 * (1 / 134217728) + 1 / 16777216 := by
      apply Classical.byContradiction
      intro hn
      obtain ⟨R, hR⟩ : ∃ R, R * ρ = P0 + 1 / 8388608 + 2 * (1 / 134217728) := ⟨(P0 + 1 / 8388608 + 2 * (1 / 134217728)) / ρ, Rat.div_mul_cancel (by grind)⟩
      have hR0 : 0 ≤ R := by
        apply Classical.byContradiction
        intro h
        have := Rat.mul_lt_mul_of_pos_right (show 0 < -R by grind) hρ0
        grind
      have hRC : R ≤ C := by
        apply Classical.byContradiction
        intro h
        have := Rat.mul_lt_mul_of_pos_right (show C < R by grind) hρ0
        grind
      have hsq : X * X + Y * Y ≤ R * R := by
        refine Rat.le_of_mul_le_mul_left (c := ρ * ρ) ?_ (Rat.mul_pos hρ0 hρ0)
        have : ρ * ρ * (R * R) = (R * ρ) * (R * ρ) := by grind
        rw [this, hR]; exact t2
      have := ru R hR0 (by grind) hsq
      have := Rat.mul_le_mul_of_nonneg_right this (Rat.le_of_lt hρ0)
      grind
    unfold eps at *
    constructor <;> grind
end
end Go.Proofs.Ythopjahoaljhaaa.X

/-! ## The plain law NearBoth: the tree of conditions gives true for all shapes. -/
set_option linter.unusedVariables false
set_option linter.unusedSimpArgs false
namespace Go.Proofs.Ythopjahoaljhaaa.X
open Go
noncomputable section

/-- A word without its sign. -/
theorem absW {x : Nat} (hx : x < 2 ^ 64) : Int.toNat (Go.IntKind.wrap Go.IntKind.u64 (Nat.cast (BitVec.toNat (HAnd.hAnd (BitVec.ofInt (Go.IntKind.bits Go.IntKind.u64) (Nat.cast x : Int)) (Complement.complement (BitVec.ofInt (Go.IntKind.bits Go.IntKind.u64) (9223372036854775808 : Int))))) : Int)) = rg x := by
  have h1 : (BitVec.toNat (HAnd.hAnd (BitVec.ofInt (Go.IntKind.bits Go.IntKind.u64) (Nat.cast x : Int)) (Complement.complement (BitVec.ofInt (Go.IntKind.bits Go.IntKind.u64) (9223372036854775808 : Int))))) = rg x := by
    show (BitVec.ofInt 64 (x : Int) &&& ~~~(BitVec.ofInt 64 (9223372036854775808 : Int))).toNat = rg x
    rw [BitVec.toNat_and]
    have e1 : (BitVec.ofInt 64 (x : Int)).toNat = x := by
      rw [BitVec.toNat_ofInt]
      have : ((x : Int) % ((2 ^ 64 : Nat) : Int)) = (x : Int) := Int.emod_eq_of_lt (by omega) (by omega)
      rw [this]; rfl
    have e2 : (~~~(BitVec.ofInt 64 (9223372036854775808 : Int))).toNat = 2 ^ 63 - 1 := by decide
    rw [e1, e2, Nat.and_two_pow_sub_one_eq_mod]
    rfl
  rw [h1]
  have hl := rg_lt x
  unfold IntKind.wrap
  have hb : (2 : Int) ^ (IntKind.bits .u64) = 18446744073709551616 := by decide
  have hs : IntKind.signed .u64 = false := rfl
  simp only [hb, hs, Bool.false_and, Bool.false_eq_true, if_false]
  omega
theorem V_rg (x : Nat) : V (rg x) = ab (V x) := by
  have h1 : rg (rg x) = rg x := by unfold rg; omega
  have h2 : sg (rg x) = false := by
    unfold sg
    have : rg x / 9223372036854775808 = 0 := by have := rg_lt x; omega
    rw [this]; rfl
  rw [V_pos_of h2, h1]
  have hn : 0 ≤ (val (rg x) : Rat) * u := Rat.mul_nonneg (valR_nonneg _) (Rat.le_of_lt u_pos)
  unfold ab
  cases hs : sg x
  · rw [V_pos_of hs, if_pos hn]
  · rw [V_neg_of hs]
    by_cases h0 : (val (rg x) : Rat) * u = 0
    · rw [h0]; simp
    · rw [if_neg (by grind)]; grind

theorem fEq00 : fEq 0 0 = true := by rw [fEq_iff (num_of_fin V0.2) (num_of_fin V0.2)]
/-- What Shapes says where one may not be. -/
theorem shapes_bad {ka : Int} {ra : Nat} {la : List Pr2} {kb : Int} {rb : Nat} {lb : List Pr2} (h : shape_Check ka ra la ≠ 0 ∨ shape_Check kb rb lb ≠ 0) :
    (near_Shapes_5 ka ra la kb rb lb != 0) = true ∧ near_Shapes_0 ka ra la kb rb lb = 0 ∧ near_Shapes_1 ka ra la kb rb lb = 0 ∧ near_Shapes_2 ka ra la kb rb lb = 0 ∧ near_Shapes_3 ka ra la kb rb lb = 0 ∧ near_Shapes_4 ka ra la kb rb lb = 0 := by
  unfold near_Shapes_5 near_Shapes_0 near_Shapes_1 near_Shapes_2 near_Shapes_3 near_Shapes_4
  by_cases ha : shape_Check ka ra la = 0
  · have hb : shape_Check kb rb lb ≠ 0 := by
      rcases h with h | h
      · exact absurd ha h
      · exact h
    have e1 : (shape_Check ka ra la != 0) = false := by simp [ha]
    have e2 : (shape_Check kb rb lb != 0) = true := by simp [hb]
    rw [e1, e2]
    simp only [cond_false, cond_true]
    simp [e2]
  · have e1 : (shape_Check ka ra la != 0) = true := by simp [ha]
    rw [e1]
    simp only [cond_true]
    simp [e1]

theorem law3 (ka : Int) (ra : Nat) (la : List (Nat × Nat)) (kb : Int) (rb : Nat) (lb : List (Nat × Nat)) :
    d3 [.av (.agg [.int .u8 ka, .flt ra, .sl la]), .av (.agg [.int .u8 kb, .flt rb, .sl lb])] = some (.av (.one (.bool true))) := by
  have z := V0
  simp only [d3]
  by_cases hbad : shape_Check ka ra la ≠ 0 ∨ shape_Check kb rb lb ≠ 0
  · obtain ⟨s5, s0, s1, s2, s3, s4⟩ := shapes_bad hbad
    obtain ⟨t5, t0, t1, t2, t3, t4⟩ := shapes_bad hbad.symm
    rw [s5, t5, s0, s1, s2, s3, s4, t0, t1, t2, t3, t4, fEq00]
    by_cases ha : shape_Check ka ra la = 0
    · have hb : shape_Check kb rb lb ≠ 0 := by
        rcases hbad with h | h
        · exact absurd ha h
        · exact h
      have e1 : (shape_Check ka ra la != 0) = false := by simp [ha]
      have e2 : (shape_Check kb rb lb != 0) = true := by simp [hb]
      rw [e1, e2]; rfl
    · have e1 : (shape_Check ka ra la != 0) = true := by simp [ha]
      rw [e1]; rfl
  · have ca : shape_Check ka ra la = 0 := Classical.byContradiction fun h => hbad (.inl h)
    have cb : shape_Check kb rb lb = 0 := Classical.byContradiction fun h => hbad (.inr h)
    have e1 : (shape_Check ka ra la != 0) = false := by simp [ca]
    have e2 : (shape_Check kb rb lb != 0) = false := by simp [cb]
    have h5 : (near_Shapes_5 ka ra la kb rb lb != 0) = false := by simp [shapes5 ca cb]
    have h5' : (near_Shapes_5 kb rb lb ka ra la != 0) = false := by simp [shapes5 cb ca]
    have h5s : (near_Shapes_5 ka ra la ka ra la != 0) = false := by simp [shapes5 ca ca]
    have o1 : (near_Over_1 kb rb lb ka ra la != 0) = false := by unfold near_Over_1; exact h5'
    have f0 := (shapes0 ca cb).1
    have f0' := (shapes0 cb ca).1
    have fs := (shapes0 ca ca).1
    have sw := shapes0_swap ca cb
    have ne1 : fNe (near_Shapes_0 ka ra la kb rb lb) (near_Shapes_0 kb rb lb ka ra la) = false := by
      cases h : fNe (near_Shapes_0 ka ra la kb rb lb) (near_Shapes_0 kb rb lb ka ra la)
      · rfl
      · rw [fNe_iff (num_of_fin f0) (num_of_fin f0')] at h; exact absurd sw h
    have ne2 : fNe (near_Shapes_0 ka ra la ka ra la) 0 = false := by
      cases h : fNe (near_Shapes_0 ka ra la ka ra la) 0
      · rfl
      · rw [fNe_iff (num_of_fin fs) (num_of_fin z.2), z.1] at h; exact absurd (shapes0_self ca) h
    have o0 : near_Over_0 kb rb lb ka ra la = fEq (near_Shapes_0 ka ra la kb rb lb) 0 := by
      unfold near_Over_0
      have e : (near_Shapes_5 kb rb lb ka ra la == 0) = true := by simp [shapes5 cb ca]
      rw [e, Bool.true_and]
      cases h : fEq (near_Shapes_0 ka ra la kb rb lb) 0
      · cases h' : fEq (near_Shapes_0 kb rb lb ka ra la) 0
        · rfl
        · rw [fEq_iff (num_of_fin f0') (num_of_fin z.2), ← sw, ← fEq_iff (num_of_fin f0) (num_of_fin z.2)] at h'
          rw [h] at h'; exact h'.symm
      · rw [fEq_iff (num_of_fin f0) (num_of_fin z.2), sw] at h
        rw [fEq_iff (num_of_fin f0') (num_of_fin z.2)]; exact h
    have ge0 : fGe (near_Shapes_0 ka ra la kb rb lb) 0 = true := by
      rw [fGe_iff (num_of_fin f0) (num_of_fin z.2), z.1]; exact shapes0_nonneg ca cb
    -- what is asked of calm shapes
    have tail : (cond (law10_calm ka ra la) (cond (law10_calm kb rb lb) (cond (allF (rowOk (near_Shapes_0 ka ra la kb rb lb) ra rb la lb) 0 (List.length la))
        (cond (fLe (near_Shapes_0 ka ra la kb rb lb) 4562146422526312448) (some (AT.av (.one (.bool Bool.true))))
          (cond (isN (fsub (vec_Length (vec_Sub_0 (near_Shapes_3 ka ra la kb rb lb) (near_Shapes_4 ka ra la kb rb lb) (near_Shapes_1 ka ra la kb rb lb) (near_Shapes_2 ka ra la kb rb lb)) (vec_Sub_1 (near_Shapes_3 ka ra la kb rb lb) (near_Shapes_4 ka ra la kb rb lb) (near_Shapes_1 ka ra la kb rb lb) (near_Shapes_2 ka ra la kb rb lb))) (near_Shapes_0 ka ra la kb rb lb))) none
            (cond (fLe (nz (Int.toNat (Go.IntKind.wrap Go.IntKind.u64 (Nat.cast (BitVec.toNat (HAnd.hAnd (BitVec.ofInt (Go.IntKind.bits Go.IntKind.u64) (Nat.cast (fsub (vec_Length (vec_Sub_0 (near_Shapes_3 ka ra la kb rb lb) (near_Shapes_4 ka ra la kb rb lb) (near_Shapes_1 ka ra la kb rb lb) (near_Shapes_2 ka ra la kb rb lb)) (vec_Sub_1 (near_Shapes_3 ka ra la kb rb lb) (near_Shapes_4 ka ra la kb rb lb) (near_Shapes_1 ka ra la kb rb lb) (near_Shapes_2 ka ra la kb rb lb))) (near_Shapes_0 ka ra la kb rb lb)) : Int)) (Complement.complement (BitVec.ofInt (Go.IntKind.bits Go.IntKind.u64) (9223372036854775808 : Int))))) : Int)))) 4517110426252607488) (some (AT.av (.one (.bool Bool.true)))) (some (AT.av (.one (.bool Bool.false)))))))
        (some (AT.av (.one (.bool Bool.false))))) (some (AT.av (.one (.bool Bool.true))))) (some (AT.av (.one (.bool Bool.true))))) = some (AT.av (.one (.bool true))) := by
      cases c1 : law10_calm ka ra la
      · rfl
      · cases c2 : law10_calm kb rb lb
        · rfl
        · rw [rows_ok c1 c2]
          simp only [cond_true]
          cases hl : fLe (near_Shapes_0 ka ra la kb rb lb) 4562146422526312448
          · have m := Vm10
            have hbig : 1 / 1024 < V (near_Shapes_0 ka ra la kb rb lb) := by
              have : ¬ (V (near_Shapes_0 ka ra la kb rb lb) ≤ V 4562146422526312448) := by
                intro h
                rw [← fLe_iff (num_of_fin f0) (num_of_fin m.2), hl] at h; cases h
              rw [m.1, m10] at this; grind
            obtain ⟨P1, P2, h1, h2⟩ := apart_err c1 c2 hbig
            have lb_ := between_bd P1 P2 (by omega)
            have m20' := Vm20
            simp only at lb_
            show (cond (isN (fsub (near_between_0 (near_Shapes_1 ka ra la kb rb lb) (near_Shapes_2 ka ra la kb rb lb) (near_Shapes_3 ka ra la kb rb lb) (near_Shapes_4 ka ra la kb rb lb)) (near_Shapes_0 ka ra la kb rb lb))) none
              (cond (fLe (nz (Int.toNat (Go.IntKind.wrap Go.IntKind.u64 (Nat.cast (BitVec.toNat (HAnd.hAnd (BitVec.ofInt (Go.IntKind.bits Go.IntKind.u64) (Nat.cast (fsub (near_between_0 (near_Shapes_1 ka ra la kb rb lb) (near_Shapes_2 ka ra la kb rb lb) (near_Shapes_3 ka ra la kb rb lb) (near_Shapes_4 ka ra la kb rb lb)) (near_Shapes_0 ka ra la kb rb lb)) : Int)) (Complement.complement (BitVec.ofInt (Go.IntKind.bits Go.IntKind.u64) (9223372036854775808 : Int))))) : Int)))) 4517110426252607488) (some (AT.av (.one (.bool Bool.true)))) (some (AT.av (.one (.bool Bool.false)))))) = some (AT.av (.one (.bool true)))
            have r := sub_res lb_.1.f f0
            have hn : isN (fsub (near_between_0 (near_Shapes_1 ka ra la kb rb lb) (near_Shapes_2 ka ra la kb rb lb) (near_Shapes_3 ka ra la kb rb lb) (near_Shapes_4 ka ra la kb rb lb)) (near_Shapes_0 ka ra la kb rb lb)) = false := isN_num.2 r.num
            rw [hn, cond_false, absW r.lt]
            have r20 : rs (1 / 1048576) = 1 / 1048576 := by
              have := rs_V (num_of_fin m20'.2)
              rw [m20'.1, m20] at this; exact this
            have u1 := rs_mono (show V (near_between_0 (near_Shapes_1 ka ra la kb rb lb) (near_Shapes_2 ka ra la kb rb lb) (near_Shapes_3 ka ra la kb rb lb) (near_Shapes_4 ka ra la kb rb lb)) - V (near_Shapes_0 ka ra la kb rb lb) ≤ 1 / 1048576 by grind)
            have u2 := rs_mono (show -(1 / 1048576) ≤ V (near_between_0 (near_Shapes_1 ka ra la kb rb lb) (near_Shapes_2 ka ra la kb rb lb) (near_Shapes_3 ka ra la kb rb lb) (near_Shapes_4 ka ra la kb rb lb)) - V (near_Shapes_0 ka ra la kb rb lb) by grind)
            rw [rs_neg] at u2
            rw [r20, ← r.v] at u1 u2
            have hv := V_rg (fsub (near_between_0 (near_Shapes_1 ka ra la kb rb lb) (near_Shapes_2 ka ra la kb rb lb) (near_Shapes_3 ka ra la kb rb lb) (near_Shapes_4 ka ra la kb rb lb)) (near_Shapes_0 ka ra la kb rb lb))
            have hnum : num (rg (fsub (near_between_0 (near_Shapes_1 ka ra la kb rb lb) (near_Shapes_2 ka ra la kb rb lb) (near_Shapes_3 ka ra la kb rb lb) (near_Shapes_4 ka ra la kb rb lb)) (near_Shapes_0 ka ra la kb rb lb))) := by
              have := r.le
              unfold num rg at *
              omega
            rw [nz_of_not (isN_num.2 hnum)]
            have : fLe (rg (fsub (near_between_0 (near_Shapes_1 ka ra la kb rb lb) (near_Shapes_2 ka ra la kb rb lb) (near_Shapes_3 ka ra la kb rb lb) (near_Shapes_4 ka ra la kb rb lb)) (near_Shapes_0 ka ra la kb rb lb))) 4517110426252607488 = true := by
              rw [fLe_iff hnum (num_of_fin m20'.2), hv, m20'.1, m20]
              exact ab_bound u2 u1
            rw [this]; rfl
          · rfl
    rw [e1, e2, h5, h5', h5s, o1, ne1, ne2, o0, ge0]
    simp only [cond_false, cond_true]
    cases hz : fEq (near_Shapes_0 ka ra la kb rb lb) 0
    · simp only [cond_false]; exact tail
    · simp only [cond_true]; exact tail
end
end Go.Proofs.Ythopjahoaljhaaa.X
