/- Proved: for any list of points, centre, radius, start and place (numbers or not) tumblelaw12.RayMeets returns true and leaves its arguments as they were: the statement Rows.RayMeetsSaid. Conditions: none beyond the row's own. -/
import Derived.Test.YthopjahoaljhaaaMj
import Derived.Test.YthopjahoaljhaaaMi
import Derived.Test.YthopjahoaljhaaaMr
/-! ## The law RayMeets: what it gives. -/
set_option linter.unusedVariables false
set_option linter.unusedSimpArgs false
set_option maxRecDepth 100000
namespace Go.Proofs.Ythopjahoaljhaaa.X
open Go Go.RowKit
noncomputable section

/-- The half that speaks of a circle. -/
def circT (b0 b1 c d0 d1 e0 e1 : Nat) : Prop := cond (fLt (vec_Square (vec_Sub_0 e0 e1 b0 b1) (vec_Sub_1 e0 e1 b0 b1)) (fmul c c)) (cond (law12_small b0 b1) (cond (fNe c (math_Trunc c)) (AT.av (.one (.bool Bool.true)) = AT.av (.one (.bool true))) (cond (fGe c (4607182418800017408 : Nat)) (cond (fLe c (4652007308841189376 : Nat)) (cond (Bool.and (fEq d0 e0) (Bool.and (fEq d1 e1) Bool.true)) (AT.av (.one (.bool Bool.true)) = AT.av (.one (.bool true))) (cond (ray_Circle_5 b0 b1 c d0 d1 (vec_Sub_0 e0 e1 d0 d1) (vec_Sub_1 e0 e1 d0 d1)) (cond (fLe (vec_Square (vec_Sub_0 d0 d1 b0 b1) (vec_Sub_1 d0 d1 b0 b1)) (fmul c c)) (cond (BEq.beq (ray_Circle_6 b0 b1 c d0 d1 (vec_Sub_0 e0 e1 d0 d1) (vec_Sub_1 e0 e1 d0 d1)) (0 : Int)) (cond (fEq (ray_Circle_4 b0 b1 c d0 d1 (vec_Sub_0 e0 e1 d0 d1) (vec_Sub_1 e0 e1 d0 d1)) (0 : Nat)) (AT.av (.one (.bool Bool.true)) = AT.av (.one (.bool true))) (AT.av (.one (.bool Bool.false)) = AT.av (.one (.bool true)))) (AT.av (.one (.bool Bool.false)) = AT.av (.one (.bool true)))) (cond (BEq.beq (ray_Circle_6 b0 b1 c d0 d1 (vec_Sub_0 e0 e1 d0 d1) (vec_Sub_1 e0 e1 d0 d1)) (0 : Int)) (cond (fGt (ray_Circle_4 b0 b1 c d0 d1 (vec_Sub_0 e0 e1 d0 d1) (vec_Sub_1 e0 e1 d0 d1)) (0 : Nat)) (cond (fLt (ray_Circle_4 b0 b1 c d0 d1 (vec_Sub_0 e0 e1 d0 d1) (vec_Sub_1 e0 e1 d0 d1)) (4607182418800017408 : Nat)) (AT.av (.one (.bool Bool.true)) = AT.av (.one (.bool true))) (AT.av (.one (.bool Bool.false)) = AT.av (.one (.bool true)))) (AT.av (.one (.bool Bool.false)) = AT.av (.one (.bool true)))) (AT.av (.one (.bool Bool.false)) = AT.av (.one (.bool true))))) (cond (fLe (vec_Square (vec_Sub_0 d0 d1 b0 b1) (vec_Sub_1 d0 d1 b0 b1)) (fmul c c)) (cond (BEq.beq (ray_Circle_6 b0 b1 c d0 d1 (vec_Sub_0 e0 e1 d0 d1) (vec_Sub_1 e0 e1 d0 d1)) (0 : Int)) (AT.av (.one (.bool Bool.false)) = AT.av (.one (.bool true))) (AT.av (.one (.bool Bool.false)) = AT.av (.one (.bool true)))) (cond (BEq.beq (ray_Circle_6 b0 b1 c d0 d1 (vec_Sub_0 e0 e1 d0 d1) (vec_Sub_1 e0 e1 d0 d1)) (0 : Int)) (AT.av (.one (.bool Bool.false)) = AT.av (.one (.bool true))) (AT.av (.one (.bool Bool.false)) = AT.av (.one (.bool true))))))) (AT.av (.one (.bool Bool.true)) = AT.av (.one (.bool true)))) (AT.av (.one (.bool Bool.true)) = AT.av (.one (.bool true))))) (AT.av (.one (.bool Bool.true)) = AT.av (.one (.bool true)))) (cond (law12_small b0 b1) (cond (fNe c (math_Trunc c)) (AT.av (.one (.bool Bool.true)) = AT.av (.one (.bool true))) (cond (fGe c (4607182418800017408 : Nat)) (cond (fLe c (4652007308841189376 : Nat)) (AT.av (.one (.bool Bool.true)) = AT.av (.one (.bool true))) (AT.av (.one (.bool Bool.true)) = AT.av (.one (.bool true)))) (AT.av (.one (.bool Bool.true)) = AT.av (.one (.bool true))))) (AT.av (.one (.bool Bool.true)) = AT.av (.one (.bool true))))
theorem circT_ok {b0 b1 c d0 d1 e0 e1 : Nat} (hA0 : law12_small d0 d1 = true) (hA1 : law12_small e0 e1 = true) : circT b0 b1 c d0 d1 e0 e1 := by
  unfold circT
  cases hA12 : (fLt (vec_Square (vec_Sub_0 e0 e1 b0 b1) (vec_Sub_1 e0 e1 b0 b1)) (fmul c c)) with
  | true =>
    cases hA13 : (law12_small b0 b1) with
    | true =>
      cases hA14 : (fNe c (math_Trunc c)) with
      | true =>
        rfl
      | false =>
        cases hA15 : (fGe c (4607182418800017408 : Nat)) with
        | true =>
          cases hA16 : (fLe c (4652007308841189376 : Nat)) with
          | true =>
            cases hA17 : (Bool.and (fEq d0 e0) (Bool.and (fEq d1 e1) Bool.true)) with
            | true =>
              rfl
            | false =>
              cases hA18 : (ray_Circle_5 b0 b1 c d0 d1 (vec_Sub_0 e0 e1 d0 d1) (vec_Sub_1 e0 e1 d0 d1)) with
              | true =>
                cases hA19 : (fLe (vec_Square (vec_Sub_0 d0 d1 b0 b1) (vec_Sub_1 d0 d1 b0 b1)) (fmul c c)) with
                | true =>
                  cases hA20 : (BEq.beq (ray_Circle_6 b0 b1 c d0 d1 (vec_Sub_0 e0 e1 d0 d1) (vec_Sub_1 e0 e1 d0 d1)) (0 : Int)) with
                  | true =>
                    cases hA21 : (fEq (ray_Circle_4 b0 b1 c d0 d1 (vec_Sub_0 e0 e1 d0 d1) (vec_Sub_1 e0 e1 d0 d1)) (0 : Nat)) with
                    | true =>
                      rfl
                    | false =>
                      rw [((law_circ hA0 hA1 hA12 hA13 hA14 hA15 hA16 hA17).2.2.1 hA19)] at hA21; cases hA21
                  | false =>
                    rw [(law_circ hA0 hA1 hA12 hA13 hA14 hA15 hA16 hA17).2.1] at hA20; cases hA20
                | false =>
                  cases hA20 : (BEq.beq (ray_Circle_6 b0 b1 c d0 d1 (vec_Sub_0 e0 e1 d0 d1) (vec_Sub_1 e0 e1 d0 d1)) (0 : Int)) with
                  | true =>
                    cases hA22 : (fGt (ray_Circle_4 b0 b1 c d0 d1 (vec_Sub_0 e0 e1 d0 d1) (vec_Sub_1 e0 e1 d0 d1)) (0 : Nat)) with
                    | true =>
                      cases hA23 : (fLt (ray_Circle_4 b0 b1 c d0 d1 (vec_Sub_0 e0 e1 d0 d1) (vec_Sub_1 e0 e1 d0 d1)) (4607182418800017408 : Nat)) with
                      | true =>
                        rfl
                      | false =>
                        rw [((law_circ hA0 hA1 hA12 hA13 hA14 hA15 hA16 hA17).2.2.2 hA19).2] at hA23; cases hA23
                    | false =>
                      rw [((law_circ hA0 hA1 hA12 hA13 hA14 hA15 hA16 hA17).2.2.2 hA19).1] at hA22; cases hA22
                  | false =>
                    rw [(law_circ hA0 hA1 hA12 hA13 hA14 hA15 hA16 hA17).2.1] at hA20; cases hA20
              | false =>
                cases hA19 : (fLe (vec_Square (vec_Sub_0 d0 d1 b0 b1) (vec_Sub_1 d0 d1 b0 b1)) (fmul c c)) with
                | true =>
                  cases hA20 : (BEq.beq (ray_Circle_6 b0 b1 c d0 d1 (vec_Sub_0 e0 e1 d0 d1) (vec_Sub_1 e0 e1 d0 d1)) (0 : Int)) with
                  | true =>
                    rw [(law_circ hA0 hA1 hA12 hA13 hA14 hA15 hA16 hA17).1] at hA18; cases hA18
                  | false =>
                    rw [(law_circ hA0 hA1 hA12 hA13 hA14 hA15 hA16 hA17).1] at hA18; cases hA18
                | false =>
                  cases hA20 : (BEq.beq (ray_Circle_6 b0 b1 c d0 d1 (vec_Sub_0 e0 e1 d0 d1) (vec_Sub_1 e0 e1 d0 d1)) (0 : Int)) with
                  | true =>
                    rw [(law_circ hA0 hA1 hA12 hA13 hA14 hA15 hA16 hA17).1] at hA18; cases hA18
                  | false =>
                    rw [(law_circ hA0 hA1 hA12 hA13 hA14 hA15 hA16 hA17).1] at hA18; cases hA18
          | false =>
            rfl
        | false =>
          rfl
    | false =>
      rfl
  | false =>
    cases hA13 : (law12_small b0 b1) with
    | true =>
      cases hA14 : (fNe c (math_Trunc c)) with
      | true =>
        rfl
      | false =>
        cases hA15 : (fGe c (4607182418800017408 : Nat)) with
        | true =>
          cases hA16 : (fLe c (4652007308841189376 : Nat)) with
          | true =>
            rfl
          | false =>
            rfl
        | false =>
          rfl
    | false =>
      rfl
theorem poly4 {a : List (Nat × Nat)} {d0 d1 e0 e1 : Nat} (s0 : law12_small d0 d1 = true) (s1 : law12_small e0 e1 = true) (hc : (BEq.beq (poly_Check a) (0 : Int)) = true) (hs : (foldI (smallF a) (0 : Nat) (List.length a) Bool.true) = true) (hin : (law12_inside a e0 e1) = true) :
    (bne (poly_Has_1 a d0 d1) (0 : Int)) = false ∧ ((Bool.not (Bool.and (fEq d0 e0) (Bool.and (fEq d1 e1) Bool.true))) = true → (ray_Polygon_5 a d0 d1 (vec_Sub_0 e0 e1 d0 d1) (vec_Sub_1 e0 e1 d0 d1)) = true ∧ (bne (ray_Polygon_6 a d0 d1 (vec_Sub_0 e0 e1 d0 d1) (vec_Sub_1 e0 e1 d0 d1)) (0 : Int)) = false ∧ (poly_Has_0 a d0 d1 = true → (fNe (ray_Polygon_4 a d0 d1 (vec_Sub_0 e0 e1 d0 d1) (vec_Sub_1 e0 e1 d0 d1)) (0 : Nat)) = false) ∧ (poly_Has_0 a d0 d1 = false → (fGt (ray_Polygon_4 a d0 d1 (vec_Sub_0 e0 e1 d0 d1) (vec_Sub_1 e0 e1 d0 d1)) (0 : Nat)) = true ∧ (fLt (ray_Polygon_4 a d0 d1 (vec_Sub_0 e0 e1 d0 d1) (vec_Sub_1 e0 e1 d0 d1)) (4607182418800017408 : Nat)) = true)) := by
  obtain ⟨p1, p2⟩ := law_poly s0 s1 (eq_of_beq hc) hs hin
  refine ⟨by rw [p1]; rfl, fun h => ?_⟩
  obtain ⟨q1, q2, q3, q4⟩ := p2 (by
    cases hh : (fEq d0 e0 && (fEq d1 e1 && true))
    · rfl
    · rw [hh] at h; cases h)
  exact ⟨q1, by rw [q2]; rfl, fun h6 => by rw [q3 h6]; decide, q4⟩
/-- tumble law RayMeets -/
def d4 : List AT → Option AT
  | [.av (.one (.sl a)), .av (.agg [.flt b0, .flt b1]), .av (.one (.flt c)), .av (.agg [.flt d0, .flt d1]), .av (.agg [.flt e0, .flt e1])] => some (.av (.one (.bool true)))
  | _ => none
def e4 : Ent := .of d4
theorem c4 : CallOk Pr 4 e4 := by
  refine callOk_autoL (T := tb 195 [(13, e13), (15, e15), (16, e16), (17, e17), (18, e18), (19, e19), (20, e20), (21, e21), (22, e22), (23, e23)] [] [(9, s4)]) (tb_ok (fnCons c13 (fnCons c15 (fnCons c16 (fnCons c17 (fnCons c18 (fnCons c19 (fnCons c20 (fnCons c21 (fnCons c22 (fnCons c23 (fnNil _))))))))))) (fnBNil _)) Try.func4 rfl (by decide) rfl (loops1 (by kernel_rfl) rfl lo4) (Ent.of_k d4) ?_
  intro l r h hb
  change d4 l = some r at h
  unfold d4 at h
  split at h
  · rename_i a b0 b1 c d0 d1 e0 e1
    cases h
    refine ⟨rfl, rfl, by_kernel (q := cond (law12_small d0 d1) (cond (law12_small e0 e1) (cond (BEq.beq (poly_Check a) (0 : Int)) ((LE.le (List.length a) (8796093022208 : Nat)) ∧ (cond (foldI (smallF a) (0 : Nat) (List.length a) Bool.true) (cond (law12_inside a e0 e1) (cond (poly_Has_0 a d0 d1) (cond (bne (poly_Has_1 a d0 d1) (0 : Int)) (AT.av (.one (.bool Bool.false)) = AT.av (.one (.bool true))) (cond (ray_Polygon_5 a d0 d1 (vec_Sub_0 e0 e1 d0 d1) (vec_Sub_1 e0 e1 d0 d1)) (cond (Bool.not (Bool.and (fEq d0 e0) (Bool.and (fEq d1 e1) Bool.true))) (cond (bne (ray_Polygon_6 a d0 d1 (vec_Sub_0 e0 e1 d0 d1) (vec_Sub_1 e0 e1 d0 d1)) (0 : Int)) (AT.av (.one (.bool Bool.false)) = AT.av (.one (.bool true))) (cond (fNe (ray_Polygon_4 a d0 d1 (vec_Sub_0 e0 e1 d0 d1) (vec_Sub_1 e0 e1 d0 d1)) (0 : Nat)) (AT.av (.one (.bool Bool.false)) = AT.av (.one (.bool true))) (circT b0 b1 c d0 d1 e0 e1))) (circT b0 b1 c d0 d1 e0 e1)) (cond (Bool.not (Bool.and (fEq d0 e0) (Bool.and (fEq d1 e1) Bool.true))) (cond (bne (ray_Polygon_6 a d0 d1 (vec_Sub_0 e0 e1 d0 d1) (vec_Sub_1 e0 e1 d0 d1)) (0 : Int)) (AT.av (.one (.bool Bool.false)) = AT.av (.one (.bool true))) (AT.av (.one (.bool Bool.false)) = AT.av (.one (.bool true)))) (circT b0 b1 c d0 d1 e0 e1)))) (cond (bne (poly_Has_1 a d0 d1) (0 : Int)) (AT.av (.one (.bool Bool.false)) = AT.av (.one (.bool true))) (cond (ray_Polygon_5 a d0 d1 (vec_Sub_0 e0 e1 d0 d1) (vec_Sub_1 e0 e1 d0 d1)) (cond (Bool.not (Bool.and (fEq d0 e0) (Bool.and (fEq d1 e1) Bool.true))) (cond (bne (ray_Polygon_6 a d0 d1 (vec_Sub_0 e0 e1 d0 d1) (vec_Sub_1 e0 e1 d0 d1)) (0 : Int)) (AT.av (.one (.bool Bool.false)) = AT.av (.one (.bool true))) (cond (fGt (ray_Polygon_4 a d0 d1 (vec_Sub_0 e0 e1 d0 d1) (vec_Sub_1 e0 e1 d0 d1)) (0 : Nat)) (cond (fLt (ray_Polygon_4 a d0 d1 (vec_Sub_0 e0 e1 d0 d1) (vec_Sub_1 e0 e1 d0 d1)) (4607182418800017408 : Nat)) (circT b0 b1 c d0 d1 e0 e1) (AT.av (.one (.bool Bool.false)) = AT.av (.one (.bool true)))) (AT.av (.one (.bool Bool.false)) = AT.av (.one (.bool true))))) (circT b0 b1 c d0 d1 e0 e1)) (cond (Bool.not (Bool.and (fEq d0 e0) (Bool.and (fEq d1 e1) Bool.true))) (cond (bne (ray_Polygon_6 a d0 d1 (vec_Sub_0 e0 e1 d0 d1) (vec_Sub_1 e0 e1 d0 d1)) (0 : Int)) (AT.av (.one (.bool Bool.false)) = AT.av (.one (.bool true))) (AT.av (.one (.bool Bool.false)) = AT.av (.one (.bool true)))) (circT b0 b1 c d0 d1 e0 e1))))) (circT b0 b1 c d0 d1 e0 e1)) (circT b0 b1 c d0 d1 e0 e1))) ((LE.le (List.length a) (8796093022208 : Nat)) ∧ (cond (foldI (smallF a) (0 : Nat) (List.length a) Bool.false) (cond (law12_inside a e0 e1) (cond (poly_Has_0 a d0 d1) (cond (bne (poly_Has_1 a d0 d1) (0 : Int)) (AT.av (.one (.bool Bool.false)) = AT.av (.one (.bool true))) (cond (ray_Polygon_5 a d0 d1 (vec_Sub_0 e0 e1 d0 d1) (vec_Sub_1 e0 e1 d0 d1)) (cond (Bool.not (Bool.and (fEq d0 e0) (Bool.and (fEq d1 e1) Bool.true))) (cond (bne (ray_Polygon_6 a d0 d1 (vec_Sub_0 e0 e1 d0 d1) (vec_Sub_1 e0 e1 d0 d1)) (0 : Int)) (AT.av (.one (.bool Bool.false)) = AT.av (.one (.bool true))) (cond (fNe (ray_Polygon_4 a d0 d1 (vec_Sub_0 e0 e1 d0 d1) (vec_Sub_1 e0 e1 d0 d1)) (0 : Nat)) (AT.av (.one (.bool Bool.false)) = AT.av (.one (.bool true))) (circT b0 b1 c d0 d1 e0 e1))) (circT b0 b1 c d0 d1 e0 e1)) (cond (Bool.not (Bool.and (fEq d0 e0) (Bool.and (fEq d1 e1) Bool.true))) (cond (bne (ray_Polygon_6 a d0 d1 (vec_Sub_0 e0 e1 d0 d1) (vec_Sub_1 e0 e1 d0 d1)) (0 : Int)) (AT.av (.one (.bool Bool.false)) = AT.av (.one (.bool true))) (AT.av (.one (.bool Bool.false)) = AT.av (.one (.bool true)))) (circT b0 b1 c d0 d1 e0 e1)))) (cond (bne (poly_Has_1 a d0 d1) (0 : Int)) (AT.av (.one (.bool Bool.false)) = AT.av (.one (.bool true))) (cond (ray_Polygon_5 a d0 d1 (vec_Sub_0 e0 e1 d0 d1) (vec_Sub_1 e0 e1 d0 d1)) (cond (Bool.not (Bool.and (fEq d0 e0) (Bool.and (fEq d1 e1) Bool.true))) (cond (bne (ray_Polygon_6 a d0 d1 (vec_Sub_0 e0 e1 d0 d1) (vec_Sub_1 e0 e1 d0 d1)) (0 : Int)) (AT.av (.one (.bool Bool.false)) = AT.av (.one (.bool true))) (cond (fGt (ray_Polygon_4 a d0 d1 (vec_Sub_0 e0 e1 d0 d1) (vec_Sub_1 e0 e1 d0 d1)) (0 : Nat)) (cond (fLt (ray_Polygon_4 a d0 d1 (vec_Sub_0 e0 e1 d0 d1) (vec_Sub_1 e0 e1 d0 d1)) (4607182418800017408 : Nat)) (circT b0 b1 c d0 d1 e0 e1) (AT.av (.one (.bool Bool.false)) = AT.av (.one (.bool true)))) (AT.av (.one (.bool Bool.false)) = AT.av (.one (.bool true))))) (circT b0 b1 c d0 d1 e0 e1)) (cond (Bool.not (Bool.and (fEq d0 e0) (Bool.and (fEq d1 e1) Bool.true))) (cond (bne (ray_Polygon_6 a d0 d1 (vec_Sub_0 e0 e1 d0 d1) (vec_Sub_1 e0 e1 d0 d1)) (0 : Int)) (AT.av (.one (.bool Bool.false)) = AT.av (.one (.bool true))) (AT.av (.one (.bool Bool.false)) = AT.av (.one (.bool true)))) (circT b0 b1 c d0 d1 e0 e1))))) (circT b0 b1 c d0 d1 e0 e1)) (circT b0 b1 c d0 d1 e0 e1)))) (AT.av (.one (.bool Bool.true)) = AT.av (.one (.bool true)))) (AT.av (.one (.bool Bool.true)) = AT.av (.one (.bool true)))) (by kernel_rfl) ?_⟩
    cases hA0 : (law12_small d0 d1) with
    | true =>
      cases hA1 : (law12_small e0 e1) with
      | true =>
        cases hA2 : (BEq.beq (poly_Check a) (0 : Int)) with
        | true =>
          refine ⟨hb (.av (.one (.sl a))) (by simp), ?_⟩
          cases hA4 : (foldI (smallF a) (0 : Nat) (List.length a) Bool.true) with
          | true =>
            cases hA5 : (law12_inside a e0 e1) with
            | true =>
              cases hA6 : (poly_Has_0 a d0 d1) with
              | true =>
                cases hA7 : (bne (poly_Has_1 a d0 d1) (0 : Int)) with
                | true =>
                  rw [(poly4 hA0 hA1 hA2 hA4 hA5).1] at hA7; cases hA7
                | false =>
                  cases hA8 : (ray_Polygon_5 a d0 d1 (vec_Sub_0 e0 e1 d0 d1) (vec_Sub_1 e0 e1 d0 d1)) with
                  | true =>
                    cases hA9 : (Bool.not (Bool.and (fEq d0 e0) (Bool.and (fEq d1 e1) Bool.true))) with
                    | true =>
                      cases hA10 : (bne (ray_Polygon_6 a d0 d1 (vec_Sub_0 e0 e1 d0 d1) (vec_Sub_1 e0 e1 d0 d1)) (0 : Int)) with
                      | true =>
                        rw [((poly4 hA0 hA1 hA2 hA4 hA5).2 hA9).2.1] at hA10; cases hA10
                      | false =>
                        cases hA11 : (fNe (ray_Polygon_4 a d0 d1 (vec_Sub_0 e0 e1 d0 d1) (vec_Sub_1 e0 e1 d0 d1)) (0 : Nat)) with
                        | true =>
                          rw [(((poly4 hA0 hA1 hA2 hA4 hA5).2 hA9).2.2.1 hA6)] at hA11; cases hA11
                        | false =>
                          exact circT_ok hA0 hA1
                    | false =>
                      exact circT_ok hA0 hA1
                  | false =>
                    cases hA9 : (Bool.not (Bool.and (fEq d0 e0) (Bool.and (fEq d1 e1) Bool.true))) with
                    | true =>
                      cases hA10 : (bne (ray_Polygon_6 a d0 d1 (vec_Sub_0 e0 e1 d0 d1) (vec_Sub_1 e0 e1 d0 d1)) (0 : Int)) with
                      | true =>
                        rw [((poly4 hA0 hA1 hA2 hA4 hA5).2 hA9).1] at hA8; cases hA8
                      | false =>
                        rw [((poly4 hA0 hA1 hA2 hA4 hA5).2 hA9).1] at hA8; cases hA8
                    | false =>
                      exact circT_ok hA0 hA1
              | false =>
                cases hA7 : (bne (poly_Has_1 a d0 d1) (0 : Int)) with
                | true =>
                  rw [(poly4 hA0 hA1 hA2 hA4 hA5).1] at hA7; cases hA7
                | false =>
                  cases hA8 : (ray_Polygon_5 a d0 d1 (vec_Sub_0 e0 e1 d0 d1) (vec_Sub_1 e0 e1 d0 d1)) with
                  | true =>
                    cases hA9 : (Bool.not (Bool.and (fEq d0 e0) (Bool.and (fEq d1 e1) Bool.true))) with
                    | true =>
                      cases hA10 : (bne (ray_Polygon_6 a d0 d1 (vec_Sub_0 e0 e1 d0 d1) (vec_Sub_1 e0 e1 d0 d1)) (0 : Int)) with
                      | true =>
                        rw [((poly4 hA0 hA1 hA2 hA4 hA5).2 hA9).2.1] at hA10; cases hA10
                      | false =>
                        cases hA24 : (fGt (ray_Polygon_4 a d0 d1 (vec_Sub_0 e0 e1 d0 d1) (vec_Sub_1 e0 e1 d0 d1)) (0 : Nat)) with
                        | true =>
                          cases hA25 : (fLt (ray_Polygon_4 a d0 d1 (vec_Sub_0 e0 e1 d0 d1) (vec_Sub_1 e0 e1 d0 d1)) (4607182418800017408 : Nat)) with
                          | true =>
                            exact circT_ok hA0 hA1
                          | false =>
                            rw [(((poly4 hA0 hA1 hA2 hA4 hA5).2 hA9).2.2.2 hA6).2] at hA25; cases hA25
                        | false =>
                          rw [(((poly4 hA0 hA1 hA2 hA4 hA5).2 hA9).2.2.2 hA6).1] at hA24; cases hA24
                    | false =>
                      exact circT_ok hA0 hA1
                  | false =>
                    cases hA9 : (Bool.not (Bool.and (fEq d0 e0) (Bool.and (fEq d1 e1) Bool.true))) with
                    | true =>
                      cases hA10 : (bne (ray_Polygon_6 a d0 d1 (vec_Sub_0 e0 e1 d0 d1) (vec_Sub_1 e0 e1 d0 d1)) (0 : Int)) with
                      | true =>
                        rw [((poly4 hA0 hA1 hA2 hA4 hA5).2 hA9).1] at hA8; cases hA8
                      | false =>
                        rw [((poly4 hA0 hA1 hA2 hA4 hA5).2 hA9).1] at hA8; cases hA8
                    | false =>
                      exact circT_ok hA0 hA1
            | false =>
              exact circT_ok hA0 hA1
          | false =>
            exact circT_ok hA0 hA1
        | false =>
          refine ⟨hb (.av (.one (.sl a))) (by simp), ?_⟩
          cases hA26 : (foldI (smallF a) (0 : Nat) (List.length a) Bool.false) with
          | true =>
            exact absurd (smallFold _ _ _ hA26).1 (by decide)
          | false =>
            exact circT_ok hA0 hA1
      | false =>
        rfl
    | false =>
      rfl
  · cases h
end
end Go.Proofs.Ythopjahoaljhaaa.X

/-! ## The row RayMeets. -/
set_option linter.unusedVariables false
set_option linter.unusedSimpArgs false
namespace Go.Proofs.Ythopjahoaljhaaa.X
open Go Go.RowKit Go.ChangeShapes Go.WideShapes Go.ChangeAt Go.Joins

set_option maxRecDepth 100000 in
theorem rayMeets_lifted (os : Os) (started : os.Started) (H : Type) (enc : TypeId × Value → H) :
    ReturnsInHanded {} Try.checked os 4 .any (Rows.rayMeetsSpec.pre6 enc Try.prog Try.f4 Rows.rayMeetsRow.domain false) (Rows.rayMeetsSpec.post enc Try.prog Try.f4 false true false false) := by
  refine returnsInHanded_of_change_sized (C := Try.checked) own_ started (by kernel_rfl) Try.func4
    (ChangeSpec.witness6 (enc := enc) (C := Try.checked) false ⟨#[], #[.slice none 0 0, .agg #[.float .f64 0, .float .f64 0], .float .f64 0, .agg #[.float .f64 0, .float .f64 0], .agg #[.float .f64 0, .float .f64 0]], []⟩ 8 (by kernel_rfl) (by kernel_rfl) (by kernel_rfl) (by kernel_rfl)) ?_
  intro W base args ds gs before hval0 hW hcnd hsz0 _
  have hsz : (DataW.weightsEach Try.prog (Try.f4.params.toList ++ Rows.rayMeetsSpec.plain.varTypes Try.prog) (ds ++ gs)).all (· ≤ reachBytes) = true := hsz0
  have hval : ∀ (j : Nat) t v, Try.f4.params[j]? = some t → args[j]? = some v → Value.okWide Try.prog W .any base t v := hval0
  have hW' := hW
  obtain ⟨p, q, hA0, hV, rfl, hfz, hnd⟩ := hW
  have hA : DataW.TrodAll enc Try.prog W 0 (fun _ => true) true Try.f4.params.toList args.toList ds p := hA0
  have hps : Try.f4.params = #[23, 28, 22, 28, 28] := by kernel_rfl
  rw [hps] at hA hval hsz
  obtain ⟨v0, v1, v2, v3, v4, d0, d1, d2, d3, d4, p0, p1, p2, p3, p4, rfl, rfl, rfl, h0, h1, h2, h3, h4⟩ := trodAll_five hA
  obtain ⟨rfl, rfl⟩ := trodVars_none hV
  obtain ⟨la, ha, la'⟩ := open_pairs (hval 0 23 v0 rfl rfl) h0
  obtain ⟨b0, b1, hb⟩ := open_pair (hval 1 28 v1 rfl rfl) h1
  obtain ⟨c, hc⟩ := open_flt (hval 2 22 v2 rfl rfl) h2
  obtain ⟨f0, f1, hf⟩ := open_pair (hval 3 28 v3 rfl rfl) h3
  obtain ⟨t0, t1, ht⟩ := open_pair (hval 4 28 v4 rfl rfl) h4
  simp only [List.append_nil] at hW'
  have hla : la.length ≤ LM := by
    rcases la' with rfl | ⟨elems, sp, rfl, he⟩
    · simp [LM]
    · have h3 := List.all_eq_true.1 hsz ((elems.length + sp.length) * Try.prog.bytesOf 28) (DataW.weights_mem_each (j := 0) (t := 23) rfl rfl _ (by simp [DataW.weights, und23]))
      have h4 : Try.prog.bytesOf 28 = 16 := by kernel_rfl
      have h5 := reachBytes_lt
      simp only [h4, decide_eq_true_eq] at h3
      show la.length ≤ 8796093022208
      omega
  have ats : ATs (bare No W) [.av (.one (.sl la)), .av (.agg [.flt b0, .flt b1]), .av (.one (.flt c)), .av (.agg [.flt f0, .flt f1]), .av (.agg [.flt t0, .flt t1])] [v0, v1, v2, v3, v4] :=
    ATs.cons (ha No (fun b h => h.elim) hla) (ATs.cons (hb No) (ATs.cons (hc No) (ATs.cons (hf No) (ATs.cons (ht No) ⟨rfl, fun i a x h => by simp at h⟩))))
  have hlt : ∀ x ∈ p0 ++ (p1 ++ (p2 ++ (p3 ++ p4))), x.block < W.heap.size := fun x hx => by simpa using hW'.lt x hx
  have hd : e4.d [.av (.one (.sl la)), .av (.agg [.flt b0, .flt b1]), .av (.one (.flt c)), .av (.agg [.flt f0, .flt f1]), .av (.agg [.flt t0, .flt t1])] = some (.av (.one (.bool true))) := rfl
  refine (calls_of Try.func4 rfl (by decide) c4 hd ats).mono fun e W' ⟨x, he, hr, hg⟩ => ?_
  have hx : x = .bool true := hr
  subst hx; subst he
  have bel : Below W.heap.size W W' := hg.below
  have k23 : Try.prog.readableRec 23 = true := by kernel_rfl
  have k28 : Try.prog.readableRec 28 = true := by kernel_rfl
  have k22 : Try.prog.readableRec 22 = true := by kernel_rfl
  have s23 : 23 < Try.prog.types.size := of_decide_eq_true (by kernel_rfl)
  have s28 : 28 < Try.prog.types.size := of_decide_eq_true (by kernel_rfl)
  have s22 : 22 < Try.prog.types.size := of_decide_eq_true (by kernel_rfl)
  refine ⟨_, rfl, ?_⟩
  refine ⟨_, _, _, [], p0 ++ (p1 ++ (p2 ++ (p3 ++ p4))), [], hW', trodAll_mk1 (shut_bool (by kernel_rfl) true),
    ⟨p0, _, Below.trod laid_ k23 s23 h0 bel (fun x hx => hlt x (by simp [hx])), ⟨p1, _, Below.trod laid_ k28 s28 h1 bel (fun x hx => hlt x (by simp [hx])), ⟨p2, _, Below.trod laid_ k22 s22 h2 bel (fun x hx => hlt x (by simp [hx])),
      trodAll_mk2 (Below.trod laid_ k28 s28 h3 bel (fun x hx => hlt x (by simp [hx]))) (Below.trod laid_ k28 s28 h4 bel (fun x hx => hlt x (by simp [hx]))), rfl⟩, rfl⟩, rfl⟩, rfl, bel.frame _, fun h => by cases h⟩

/-- Proved: the law RayMeets. -/
theorem rayMeets_all : Rows.RayMeetsSaid :=
  OpenClaim.holds_of_wide 4 Try.f4 rfl rfl rfl rfl rfl rfl rfl ⟨rfl, rfl, rfl, rfl, rfl⟩ rfl rfl rfl rfl rfl (by kernel_rfl) Try.func4 (by kernel_rfl)
    (of_decide_eq_true (by kernel_rfl)) (by unfold Func.isWrapper; rw [if_neg (of_decide_eq_false (by kernel_rfl))]; exact ⟨rfl, rfl⟩)
    (fun os started H enc _ => rayMeets_lifted os started H enc)
end Go.Proofs.Ythopjahoaljhaaa.X

/-! ## Proved: for any list of points, centre, radius, start and place (numbers or not) tumblelaw12.RayMeets returns true and leaves its arguments as they were: the statement Rows.RayMeetsSaid. Conditions: none beyond the row's own. -/
namespace Go.Proofs.Ythopjahoaljhaaa

/-- RayMeets holds of every input. -/
theorem rayMeets_holds : Rows.RayMeetsSaid := X.rayMeets_all

end Go.Proofs.Ythopjahoaljhaaa
