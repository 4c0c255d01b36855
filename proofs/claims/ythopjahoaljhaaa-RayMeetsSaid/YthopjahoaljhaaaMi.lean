/- Contracts of functions of the program that take a shape, laid out by a program of mine (genv.py): by the number of points. (and what goes with it: 5 parts.) -/
import Derived.Test.YthopjahoaljhaaaMh
/-! ## Contracts of functions of the program that take a shape, laid out by a program of mine (genv.py): by the number of points. -/
set_option linter.unusedVariables false
set_option linter.unusedSimpArgs false
set_option maxRecDepth 100000
namespace Go.Proofs.Ythopjahoaljhaaa.X
open Go Go.RowKit

theorem neBeq {x y : Int} (h : bne x y = true) (h' : BEq.beq x y = true) : False := by
  unfold bne at h; rw [h'] at h; cases h
/-- tumble/shape.Has -/
def shape_Has_0_v0 (a0 : Int) (a1 : Nat) (b0 : Nat) (b1 : Nat) : Bool := Bool.false
def shape_Has_0_v1 (a0 : Int) (a1 : Nat) (b0 : Nat) (b1 : Nat) (pa : Nat × Nat) : Bool := cond (Decidable.decide (LT.lt a0 (1 : Int))) (Bool.false) (cond (Decidable.decide (GT.gt a0 (3 : Int))) (Bool.false) (((BEq.beq a0 (1 : Int)) && cond (bne (shape_circle_check (Prod.fst (gp (List.cons pa List.nil) (Int.toNat (0 : Int)))) (Prod.snd (gp (List.cons pa List.nil) (Int.toNat (0 : Int)))) a1) (0 : Int)) (Bool.false) (cond (bne (shape_within b0 b1) (0 : Int)) (Bool.false) ((shape_circle_has_0 (Prod.fst (gp (List.cons pa List.nil) (Int.toNat (0 : Int)))) (Prod.snd (gp (List.cons pa List.nil) (Int.toNat (0 : Int)))) a1 b0 b1))))))
def shape_Has_0_v2 (a0 : Int) (a1 : Nat) (b0 : Nat) (b1 : Nat) (pa : Nat × Nat) (pb : Nat × Nat) : Bool := cond (Decidable.decide (LT.lt a0 (1 : Int))) (Bool.false) (cond (Decidable.decide (GT.gt a0 (3 : Int))) (Bool.false) (((BEq.beq a0 (2 : Int)) && cond (bne (shape_capsule_check (Prod.fst (gp (List.cons pa (List.cons pb List.nil)) (Int.toNat (0 : Int)))) (Prod.snd (gp (List.cons pa (List.cons pb List.nil)) (Int.toNat (0 : Int)))) (Prod.fst (gp (List.cons pa (List.cons pb List.nil)) (Int.toNat (1 : Int)))) (Prod.snd (gp (List.cons pa (List.cons pb List.nil)) (Int.toNat (1 : Int)))) a1) (0 : Int)) (Bool.false) (cond (bne (shape_within b0 b1) (0 : Int)) (Bool.false) ((shape_capsule_has_0 (Prod.fst (gp (List.cons pa (List.cons pb List.nil)) (Int.toNat (0 : Int)))) (Prod.snd (gp (List.cons pa (List.cons pb List.nil)) (Int.toNat (0 : Int)))) (Prod.fst (gp (List.cons pa (List.cons pb List.nil)) (Int.toNat (1 : Int)))) (Prod.snd (gp (List.cons pa (List.cons pb List.nil)) (Int.toNat (1 : Int)))) a1 b0 b1))))))
def shape_Has_0_v3 (a0 : Int) (a1 : Nat) (b0 : Nat) (b1 : Nat) (pa : Nat × Nat) (pb : Nat × Nat) (pc : Nat × Nat) (pz : List (Nat × Nat)) : Bool := cond (Decidable.decide (LT.lt a0 (1 : Int))) (Bool.false) (cond (Decidable.decide (GT.gt a0 (3 : Int))) (Bool.false) (((BEq.beq a0 (3 : Int)) && ((Decidable.decide (GE.ge (Nat.cast (List.length (List.cons pa (List.cons pb (List.cons pc pz)))) : Int) (3 : Int))) && ((Decidable.decide (LE.le (Nat.cast (List.length (List.cons pa (List.cons pb (List.cons pc pz)))) : Int) (8 : Int))) && ((fEq a1 (0 : Nat)) && cond (bne (shape_polygon_check (List.cons pa (List.cons pb (List.cons pc pz)))) (0 : Int)) (Bool.false) (cond (bne (shape_within b0 b1) (0 : Int)) (Bool.false) ((shape_polygon_has_0 (List.cons pa (List.cons pb (List.cons pc pz))) b0 b1)))))))))
def shape_Has_0 (a0 : Int) (a1 : Nat) (a2 : List (Nat × Nat)) (b0 : Nat) (b1 : Nat) : Bool := match a2 with
  | [] => shape_Has_0_v0 a0 a1 b0 b1
  | [pa] => shape_Has_0_v1 a0 a1 b0 b1 pa
  | [pa, pb] => shape_Has_0_v2 a0 a1 b0 b1 pa pb
  | pa :: pb :: pc :: pz => shape_Has_0_v3 a0 a1 b0 b1 pa pb pc pz
def shape_Has_1_v0 (a0 : Int) (a1 : Nat) (b0 : Nat) (b1 : Nat) : Int := cond (Decidable.decide (LT.lt a0 (1 : Int))) ((70 : Int)) (cond (Decidable.decide (GT.gt a0 (3 : Int))) ((70 : Int)) ((6 : Int)))
def shape_Has_1_v1 (a0 : Int) (a1 : Nat) (b0 : Nat) (b1 : Nat) (pa : Nat × Nat) : Int := cond (Decidable.decide (LT.lt a0 (1 : Int))) ((70 : Int)) (cond (Decidable.decide (GT.gt a0 (3 : Int))) ((70 : Int)) (cond (BEq.beq a0 (1 : Int)) (cond (bne (shape_circle_check (Prod.fst (gp (List.cons pa List.nil) (Int.toNat (0 : Int)))) (Prod.snd (gp (List.cons pa List.nil) (Int.toNat (0 : Int)))) a1) (0 : Int)) (cond (BEq.beq (shape_circle_check (Prod.fst (gp (List.cons pa List.nil) (Int.toNat (0 : Int)))) (Prod.snd (gp (List.cons pa List.nil) (Int.toNat (0 : Int)))) a1) (0 : Int)) (shape_within b0 b1) (shape_circle_check (Prod.fst (gp (List.cons pa List.nil) (Int.toNat (0 : Int)))) (Prod.snd (gp (List.cons pa List.nil) (Int.toNat (0 : Int)))) a1)) (cond (bne (shape_within b0 b1) (0 : Int)) (shape_within b0 b1) (shape_circle_has_1 (Prod.fst (gp (List.cons pa List.nil) (Int.toNat (0 : Int)))) (Prod.snd (gp (List.cons pa List.nil) (Int.toNat (0 : Int)))) a1 b0 b1))) ((6 : Int))))
def shape_Has_1_v2 (a0 : Int) (a1 : Nat) (b0 : Nat) (b1 : Nat) (pa : Nat × Nat) (pb : Nat × Nat) : Int := cond (Decidable.decide (LT.lt a0 (1 : Int))) ((70 : Int)) (cond (Decidable.decide (GT.gt a0 (3 : Int))) ((70 : Int)) (cond (BEq.beq a0 (2 : Int)) (cond (bne (shape_capsule_check (Prod.fst (gp (List.cons pa (List.cons pb List.nil)) (Int.toNat (0 : Int)))) (Prod.snd (gp (List.cons pa (List.cons pb List.nil)) (Int.toNat (0 : Int)))) (Prod.fst (gp (List.cons pa (List.cons pb List.nil)) (Int.toNat (1 : Int)))) (Prod.snd (gp (List.cons pa (List.cons pb List.nil)) (Int.toNat (1 : Int)))) a1) (0 : Int)) (cond (BEq.beq (shape_capsule_check (Prod.fst (gp (List.cons pa (List.cons pb List.nil)) (Int.toNat (0 : Int)))) (Prod.snd (gp (List.cons pa (List.cons pb List.nil)) (Int.toNat (0 : Int)))) (Prod.fst (gp (List.cons pa (List.cons pb List.nil)) (Int.toNat (1 : Int)))) (Prod.snd (gp (List.cons pa (List.cons pb List.nil)) (Int.toNat (1 : Int)))) a1) (0 : Int)) (shape_within b0 b1) (shape_capsule_check (Prod.fst (gp (List.cons pa (List.cons pb List.nil)) (Int.toNat (0 : Int)))) (Prod.snd (gp (List.cons pa (List.cons pb List.nil)) (Int.toNat (0 : Int)))) (Prod.fst (gp (List.cons pa (List.cons pb List.nil)) (Int.toNat (1 : Int)))) (Prod.snd (gp (List.cons pa (List.cons pb List.nil)) (Int.toNat (1 : Int)))) a1)) (cond (bne (shape_within b0 b1) (0 : Int)) (shape_within b0 b1) (shape_capsule_has_1 (Prod.fst (gp (List.cons pa (List.cons pb List.nil)) (Int.toNat (0 : Int)))) (Prod.snd (gp (List.cons pa (List.cons pb List.nil)) (Int.toNat (0 : Int)))) (Prod.fst (gp (List.cons pa (List.cons pb List.nil)) (Int.toNat (1 : Int)))) (Prod.snd (gp (List.cons pa (List.cons pb List.nil)) (Int.toNat (1 : Int)))) a1 b0 b1))) ((6 : Int))))
def shape_Has_1_v3 (a0 : Int) (a1 : Nat) (b0 : Nat) (b1 : Nat) (pa : Nat × Nat) (pb : Nat × Nat) (pc : Nat × Nat) (pz : List (Nat × Nat)) : Int := cond (Decidable.decide (LT.lt a0 (1 : Int))) ((70 : Int)) (cond (Decidable.decide (GT.gt a0 (3 : Int))) ((70 : Int)) (cond (BEq.beq a0 (3 : Int)) (cond (Decidable.decide (GE.ge (Nat.cast (List.length (List.cons pa (List.cons pb (List.cons pc pz)))) : Int) (3 : Int))) (cond (Decidable.decide (LE.le (Nat.cast (List.length (List.cons pa (List.cons pb (List.cons pc pz)))) : Int) (8 : Int))) (cond (fEq a1 (0 : Nat)) (cond (bne (shape_polygon_check (List.cons pa (List.cons pb (List.cons pc pz)))) (0 : Int)) (cond (BEq.beq (shape_polygon_check (List.cons pa (List.cons pb (List.cons pc pz)))) (0 : Int)) (shape_within b0 b1) (shape_polygon_check (List.cons pa (List.cons pb (List.cons pc pz))))) (cond (bne (shape_within b0 b1) (0 : Int)) (shape_within b0 b1) (shape_polygon_has_1 (List.cons pa (List.cons pb (List.cons pc pz))) b0 b1))) ((6 : Int))) ((6 : Int))) ((6 : Int))) ((6 : Int))))
def shape_Has_1 (a0 : Int) (a1 : Nat) (a2 : List (Nat × Nat)) (b0 : Nat) (b1 : Nat) : Int := match a2 with
  | [] => shape_Has_1_v0 a0 a1 b0 b1
  | [pa] => shape_Has_1_v1 a0 a1 b0 b1 pa
  | [pa, pb] => shape_Has_1_v2 a0 a1 b0 b1 pa pb
  | pa :: pb :: pc :: pz => shape_Has_1_v3 a0 a1 b0 b1 pa pb pc pz
def d34 : List AT → Option AT
  | [.av (.agg [.int .u8 a0, .flt a1, .sl a2]), .av (.agg [.flt b0, .flt b1])] => some (.tup [(.one (.bool (shape_Has_0 a0 a1 a2 b0 b1))), (.one (.int .i64 (shape_Has_1 a0 a1 a2 b0 b1)))])
  | _ => none
def e34 : Ent := .of d34
theorem c34 : CallOk Pr 34 e34 := by
  refine callOk_auto (T := tb 25 [(44, e44), (73, e73), (130, e130), (141, e141), (145, e145)] [] []) (tb_ok (fnCons c44 (fnCons c73 (fnCons c130 (fnCons c141 (fnCons c145 (fnNil _)))))) (fnBNil _)) Try.func34 rfl (by decide) rfl rfl (Ent.of_k d34) ?_
  intro l r h hb
  change d34 l = some r at h
  unfold d34 at h
  split at h
  · rename_i a0 a1 a2 b0 b1
    cases h
    rcases a2 with _ | ⟨pa, _ | ⟨pb, _ | ⟨pc, pz⟩⟩⟩
    · refine ⟨rfl, rfl, by_kernel (q := cond (Decidable.decide (LT.lt a0 (1 : Int))) (AT.tup [(.one (.bool Bool.false)), (.one (.int .i64 ((70 : Int))))] = (.tup [(.one (.bool (shape_Has_0_v0 a0 a1 b0 b1))), (.one (.int .i64 (shape_Has_1_v0 a0 a1 b0 b1)))])) (cond (Decidable.decide (GT.gt a0 (3 : Int))) (AT.tup [(.one (.bool Bool.false)), (.one (.int .i64 ((70 : Int))))] = (.tup [(.one (.bool (shape_Has_0_v0 a0 a1 b0 b1))), (.one (.int .i64 (shape_Has_1_v0 a0 a1 b0 b1)))])) (AT.tup [(.one (.bool Bool.false)), (.one (.int .i64 ((6 : Int))))] = (.tup [(.one (.bool (shape_Has_0_v0 a0 a1 b0 b1))), (.one (.int .i64 (shape_Has_1_v0 a0 a1 b0 b1)))])))) (by kernel_rfl) ?_⟩
      unfold shape_Has_0_v0 shape_Has_1_v0
      cases (Decidable.decide (LT.lt a0 (1 : Int))) with
      | true =>
          rfl
      | false =>
          cases (Decidable.decide (GT.gt a0 (3 : Int))) with
          | true =>
              rfl
          | false =>
              rfl
    · refine ⟨rfl, rfl, by_kernel (q := cond (Decidable.decide (LT.lt a0 (1 : Int))) (AT.tup [(.one (.bool Bool.false)), (.one (.int .i64 ((70 : Int))))] = (.tup [(.one (.bool (shape_Has_0_v1 a0 a1 b0 b1 pa))), (.one (.int .i64 (shape_Has_1_v1 a0 a1 b0 b1 pa)))])) (cond (Decidable.decide (GT.gt a0 (3 : Int))) (AT.tup [(.one (.bool Bool.false)), (.one (.int .i64 ((70 : Int))))] = (.tup [(.one (.bool (shape_Has_0_v1 a0 a1 b0 b1 pa))), (.one (.int .i64 (shape_Has_1_v1 a0 a1 b0 b1 pa)))])) (cond (BEq.beq a0 (1 : Int)) (cond (bne (shape_circle_check (Prod.fst (gp (List.cons pa List.nil) (Int.toNat (0 : Int)))) (Prod.snd (gp (List.cons pa List.nil) (Int.toNat (0 : Int)))) a1) (0 : Int)) (cond (BEq.beq (shape_circle_check (Prod.fst (gp (List.cons pa List.nil) (Int.toNat (0 : Int)))) (Prod.snd (gp (List.cons pa List.nil) (Int.toNat (0 : Int)))) a1) (0 : Int)) (cond (bne (shape_within b0 b1) (0 : Int)) (AT.tup [(.one (.bool Bool.false)), (.one (.int .i64 (shape_within b0 b1)))] = (.tup [(.one (.bool (shape_Has_0_v1 a0 a1 b0 b1 pa))), (.one (.int .i64 (shape_Has_1_v1 a0 a1 b0 b1 pa)))])) (False)) (cond (bne (shape_circle_check (Prod.fst (gp (List.cons pa List.nil) (Int.toNat (0 : Int)))) (Prod.snd (gp (List.cons pa List.nil) (Int.toNat (0 : Int)))) a1) (0 : Int)) (AT.tup [(.one (.bool Bool.false)), (.one (.int .i64 (shape_circle_check (Prod.fst (gp (List.cons pa List.nil) (Int.toNat (0 : Int)))) (Prod.snd (gp (List.cons pa List.nil) (Int.toNat (0 : Int)))) a1)))] = (.tup [(.one (.bool (shape_Has_0_v1 a0 a1 b0 b1 pa))), (.one (.int .i64 (shape_Has_1_v1 a0 a1 b0 b1 pa)))])) (False))) (cond (bne (shape_within b0 b1) (0 : Int)) (AT.tup [(.one (.bool Bool.false)), (.one (.int .i64 (shape_within b0 b1)))] = (.tup [(.one (.bool (shape_Has_0_v1 a0 a1 b0 b1 pa))), (.one (.int .i64 (shape_Has_1_v1 a0 a1 b0 b1 pa)))])) (cond (shape_circle_has_0 (Prod.fst (gp (List.cons pa List.nil) (Int.toNat (0 : Int)))) (Prod.snd (gp (List.cons pa List.nil) (Int.toNat (0 : Int)))) a1 b0 b1) (AT.tup [(.one (.bool Bool.true)), (.one (.int .i64 (shape_circle_has_1 (Prod.fst (gp (List.cons pa List.nil) (Int.toNat (0 : Int)))) (Prod.snd (gp (List.cons pa List.nil) (Int.toNat (0 : Int)))) a1 b0 b1)))] = (.tup [(.one (.bool (shape_Has_0_v1 a0 a1 b0 b1 pa))), (.one (.int .i64 (shape_Has_1_v1 a0 a1 b0 b1 pa)))])) (AT.tup [(.one (.bool Bool.false)), (.one (.int .i64 (shape_circle_has_1 (Prod.fst (gp (List.cons pa List.nil) (Int.toNat (0 : Int)))) (Prod.snd (gp (List.cons pa List.nil) (Int.toNat (0 : Int)))) a1 b0 b1)))] = (.tup [(.one (.bool (shape_Has_0_v1 a0 a1 b0 b1 pa))), (.one (.int .i64 (shape_Has_1_v1 a0 a1 b0 b1 pa)))]))))) (AT.tup [(.one (.bool Bool.false)), (.one (.int .i64 ((6 : Int))))] = (.tup [(.one (.bool (shape_Has_0_v1 a0 a1 b0 b1 pa))), (.one (.int .i64 (shape_Has_1_v1 a0 a1 b0 b1 pa)))]))))) (by kernel_rfl) ?_⟩
      unfold shape_Has_0_v1 shape_Has_1_v1
      cases hc1 : (Decidable.decide (LT.lt a0 (1 : Int))) with
      | true =>
          rfl
      | false =>
          cases hc2 : (Decidable.decide (GT.gt a0 (3 : Int))) with
          | true =>
              rfl
          | false =>
              cases hc3 : (BEq.beq a0 (1 : Int)) with
              | true =>
                  cases hc4 : (bne (shape_circle_check (Prod.fst (gp (List.cons pa List.nil) (Int.toNat (0 : Int)))) (Prod.snd (gp (List.cons pa List.nil) (Int.toNat (0 : Int)))) a1) (0 : Int)) with
                  | true =>
                      cases hc5 : (BEq.beq (shape_circle_check (Prod.fst (gp (List.cons pa List.nil) (Int.toNat (0 : Int)))) (Prod.snd (gp (List.cons pa List.nil) (Int.toNat (0 : Int)))) a1) (0 : Int)) with
                      | true =>
                          cases hc6 : (bne (shape_within b0 b1) (0 : Int)) with
                          | true =>
                              rfl
                          | false =>
                              first | exact (neBeq hc4 hc5).elim | exact (neBeq hc7 hc8).elim
                      | false =>
                          rfl
                  | false =>
                      cases hc7 : (bne (shape_within b0 b1) (0 : Int)) with
                      | true =>
                          rfl
                      | false =>
                          cases hc8 : (shape_circle_has_0 (Prod.fst (gp (List.cons pa List.nil) (Int.toNat (0 : Int)))) (Prod.snd (gp (List.cons pa List.nil) (Int.toNat (0 : Int)))) a1 b0 b1) with
                          | true =>
                              rfl
                          | false =>
                              rfl
              | false =>
                  rfl
    · refine ⟨rfl, rfl, by_kernel (q := cond (Decidable.decide (LT.lt a0 (1 : Int))) (AT.tup [(.one (.bool Bool.false)), (.one (.int .i64 ((70 : Int))))] = (.tup [(.one (.bool (shape_Has_0_v2 a0 a1 b0 b1 pa pb))), (.one (.int .i64 (shape_Has_1_v2 a0 a1 b0 b1 pa pb)))])) (cond (Decidable.decide (GT.gt a0 (3 : Int))) (AT.tup [(.one (.bool Bool.false)), (.one (.int .i64 ((70 : Int))))] = (.tup [(.one (.bool (shape_Has_0_v2 a0 a1 b0 b1 pa pb))), (.one (.int .i64 (shape_Has_1_v2 a0 a1 b0 b1 pa pb)))])) (cond (BEq.beq a0 (2 : Int)) (cond (bne (shape_capsule_check (Prod.fst (gp (List.cons pa (List.cons pb List.nil)) (Int.toNat (0 : Int)))) (Prod.snd (gp (List.cons pa (List.cons pb List.nil)) (Int.toNat (0 : Int)))) (Prod.fst (gp (List.cons pa (List.cons pb List.nil)) (Int.toNat (1 : Int)))) (Prod.snd (gp (List.cons pa (List.cons pb List.nil)) (Int.toNat (1 : Int)))) a1) (0 : Int)) (cond (BEq.beq (shape_capsule_check (Prod.fst (gp (List.cons pa (List.cons pb List.nil)) (Int.toNat (0 : Int)))) (Prod.snd (gp (List.cons pa (List.cons pb List.nil)) (Int.toNat (0 : Int)))) (Prod.fst (gp (List.cons pa (List.cons pb List.nil)) (Int.toNat (1 : Int)))) (Prod.snd (gp (List.cons pa (List.cons pb List.nil)) (Int.toNat (1 : Int)))) a1) (0 : Int)) (cond (bne (shape_within b0 b1) (0 : Int)) (AT.tup [(.one (.bool Bool.false)), (.one (.int .i64 (shape_within b0 b1)))] = (.tup [(.one (.bool (shape_Has_0_v2 a0 a1 b0 b1 pa pb))), (.one (.int .i64 (shape_Has_1_v2 a0 a1 b0 b1 pa pb)))])) (False)) (cond (bne (shape_capsule_check (Prod.fst (gp (List.cons pa (List.cons pb List.nil)) (Int.toNat (0 : Int)))) (Prod.snd (gp (List.cons pa (List.cons pb List.nil)) (Int.toNat (0 : Int)))) (Prod.fst (gp (List.cons pa (List.cons pb List.nil)) (Int.toNat (1 : Int)))) (Prod.snd (gp (List.cons pa (List.cons pb List.nil)) (Int.toNat (1 : Int)))) a1) (0 : Int)) (AT.tup [(.one (.bool Bool.false)), (.one (.int .i64 (shape_capsule_check (Prod.fst (gp (List.cons pa (List.cons pb List.nil)) (Int.toNat (0 : Int)))) (Prod.snd (gp (List.cons pa (List.cons pb List.nil)) (Int.toNat (0 : Int)))) (Prod.fst (gp (List.cons pa (List.cons pb List.nil)) (Int.toNat (1 : Int)))) (Prod.snd (gp (List.cons pa (List.cons pb List.nil)) (Int.toNat (1 : Int)))) a1)))] = (.tup [(.one (.bool (shape_Has_0_v2 a0 a1 b0 b1 pa pb))), (.one (.int .i64 (shape_Has_1_v2 a0 a1 b0 b1 pa pb)))])) (False))) (cond (bne (shape_within b0 b1) (0 : Int)) (AT.tup [(.one (.bool Bool.false)), (.one (.int .i64 (shape_within b0 b1)))] = (.tup [(.one (.bool (shape_Has_0_v2 a0 a1 b0 b1 pa pb))), (.one (.int .i64 (shape_Has_1_v2 a0 a1 b0 b1 pa pb)))])) (cond (shape_capsule_has_0 (Prod.fst (gp (List.cons pa (List.cons pb List.nil)) (Int.toNat (0 : Int)))) (Prod.snd (gp (List.cons pa (List.cons pb List.nil)) (Int.toNat (0 : Int)))) (Prod.fst (gp (List.cons pa (List.cons pb List.nil)) (Int.toNat (1 : Int)))) (Prod.snd (gp (List.cons pa (List.cons pb List.nil)) (Int.toNat (1 : Int)))) a1 b0 b1) (AT.tup [(.one (.bool Bool.true)), (.one (.int .i64 (shape_capsule_has_1 (Prod.fst (gp (List.cons pa (List.cons pb List.nil)) (Int.toNat (0 : Int)))) (Prod.snd (gp (List.cons pa (List.cons pb List.nil)) (Int.toNat (0 : Int)))) (Prod.fst (gp (List.cons pa (List.cons pb List.nil)) (Int.toNat (1 : Int)))) (Prod.snd (gp (List.cons pa (List.cons pb List.nil)) (Int.toNat (1 : Int)))) a1 b0 b1)))] = (.tup [(.one (.bool (shape_Has_0_v2 a0 a1 b0 b1 pa pb))), (.one (.int .i64 (shape_Has_1_v2 a0 a1 b0 b1 pa pb)))])) (AT.tup [(.one (.bool Bool.false)), (.one (.int .i64 (shape_capsule_has_1 (Prod.fst (gp (List.cons pa (List.cons pb List.nil)) (Int.toNat (0 : Int)))) (Prod.snd (gp (List.cons pa (List.cons pb List.nil)) (Int.toNat (0 : Int)))) (Prod.fst (gp (List.cons pa (List.cons pb List.nil)) (Int.toNat (1 : Int)))) (Prod.snd (gp (List.cons pa (List.cons pb List.nil)) (Int.toNat (1 : Int)))) a1 b0 b1)))] = (.tup [(.one (.bool (shape_Has_0_v2 a0 a1 b0 b1 pa pb))), (.one (.int .i64 (shape_Has_1_v2 a0 a1 b0 b1 pa pb)))]))))) (AT.tup [(.one (.bool Bool.false)), (.one (.int .i64 ((6 : Int))))] = (.tup [(.one (.bool (shape_Has_0_v2 a0 a1 b0 b1 pa pb))), (.one (.int .i64 (shape_Has_1_v2 a0 a1 b0 b1 pa pb)))]))))) (by kernel_rfl) ?_⟩
      unfold shape_Has_0_v2 shape_Has_1_v2
      cases hc1 : (Decidable.decide (LT.lt a0 (1 : Int))) with
      | true =>
          rfl
      | false =>
          cases hc2 : (Decidable.decide (GT.gt a0 (3 : Int))) with
          | true =>
              rfl
          | false =>
              cases hc3 : (BEq.beq a0 (2 : Int)) with
              | true =>
                  cases hc4 : (bne (shape_capsule_check (Prod.fst (gp (List.cons pa (List.cons pb List.nil)) (Int.toNat (0 : Int)))) (Prod.snd (gp (List.cons pa (List.cons pb List.nil)) (Int.toNat (0 : Int)))) (Prod.fst (gp (List.cons pa (List.cons pb List.nil)) (Int.toNat (1 : Int)))) (Prod.snd (gp (List.cons pa (List.cons pb List.nil)) (Int.toNat (1 : Int)))) a1) (0 : Int)) with
                  | true =>
                      cases hc5 : (BEq.beq (shape_capsule_check (Prod.fst (gp (List.cons pa (List.cons pb List.nil)) (Int.toNat (0 : Int)))) (Prod.snd (gp (List.cons pa (List.cons pb List.nil)) (Int.toNat (0 : Int)))) (Prod.fst (gp (List.cons pa (List.cons pb List.nil)) (Int.toNat (1 : Int)))) (Prod.snd (gp (List.cons pa (List.cons pb List.nil)) (Int.toNat (1 : Int)))) a1) (0 : Int)) with
                      | true =>
                          cases hc6 : (bne (shape_within b0 b1) (0 : Int)) with
                          | true =>
                              rfl
                          | false =>
                              first | exact (neBeq hc4 hc5).elim | exact (neBeq hc7 hc8).elim
                      | false =>
                          rfl
                  | false =>
                      cases hc7 : (bne (shape_within b0 b1) (0 : Int)) with
                      | true =>
                          rfl
                      | false =>
                          cases hc8 : (shape_capsule_has_0 (Prod.fst (gp (List.cons pa (List.cons pb List.nil)) (Int.toNat (0 : Int)))) (Prod.snd (gp (List.cons pa (List.cons pb List.nil)) (Int.toNat (0 : Int)))) (Prod.fst (gp (List.cons pa (List.cons pb List.nil)) (Int.toNat (1 : Int)))) (Prod.snd (gp (List.cons pa (List.cons pb List.nil)) (Int.toNat (1 : Int)))) a1 b0 b1) with
                          | true =>
                              rfl
                          | false =>
                              rfl
              | false =>
                  rfl
    · refine ⟨rfl, rfl, by_kernel (q := cond (Decidable.decide (LT.lt a0 (1 : Int))) (AT.tup [(.one (.bool Bool.false)), (.one (.int .i64 ((70 : Int))))] = (.tup [(.one (.bool (shape_Has_0_v3 a0 a1 b0 b1 pa pb pc pz))), (.one (.int .i64 (shape_Has_1_v3 a0 a1 b0 b1 pa pb pc pz)))])) (cond (Decidable.decide (GT.gt a0 (3 : Int))) (AT.tup [(.one (.bool Bool.false)), (.one (.int .i64 ((70 : Int))))] = (.tup [(.one (.bool (shape_Has_0_v3 a0 a1 b0 b1 pa pb pc pz))), (.one (.int .i64 (shape_Has_1_v3 a0 a1 b0 b1 pa pb pc pz)))])) (cond (BEq.beq a0 (3 : Int)) (cond (Decidable.decide (GE.ge (Nat.cast (List.length (List.cons pa (List.cons pb (List.cons pc pz)))) : Int) (3 : Int))) (cond (Decidable.decide (LE.le (Nat.cast (List.length (List.cons pa (List.cons pb (List.cons pc pz)))) : Int) (8 : Int))) (cond (fEq a1 (0 : Nat)) (cond (bne (shape_polygon_check (List.cons pa (List.cons pb (List.cons pc pz)))) (0 : Int)) (cond (BEq.beq (shape_polygon_check (List.cons pa (List.cons pb (List.cons pc pz)))) (0 : Int)) (cond (bne (shape_within b0 b1) (0 : Int)) (AT.tup [(.one (.bool Bool.false)), (.one (.int .i64 (shape_within b0 b1)))] = (.tup [(.one (.bool (shape_Has_0_v3 a0 a1 b0 b1 pa pb pc pz))), (.one (.int .i64 (shape_Has_1_v3 a0 a1 b0 b1 pa pb pc pz)))])) (False)) (cond (bne (shape_polygon_check (List.cons pa (List.cons pb (List.cons pc pz)))) (0 : Int)) (AT.tup [(.one (.bool Bool.false)), (.one (.int .i64 (shape_polygon_check (List.cons pa (List.cons pb (List.cons pc pz))))))] = (.tup [(.one (.bool (shape_Has_0_v3 a0 a1 b0 b1 pa pb pc pz))), (.one (.int .i64 (shape_Has_1_v3 a0 a1 b0 b1 pa pb pc pz)))])) (False))) (cond (bne (shape_within b0 b1) (0 : Int)) (AT.tup [(.one (.bool Bool.false)), (.one (.int .i64 (shape_within b0 b1)))] = (.tup [(.one (.bool (shape_Has_0_v3 a0 a1 b0 b1 pa pb pc pz))), (.one (.int .i64 (shape_Has_1_v3 a0 a1 b0 b1 pa pb pc pz)))])) (cond (shape_polygon_has_0 (List.cons pa (List.cons pb (List.cons pc pz))) b0 b1) (AT.tup [(.one (.bool Bool.true)), (.one (.int .i64 (shape_polygon_has_1 (List.cons pa (List.cons pb (List.cons pc pz))) b0 b1)))] = (.tup [(.one (.bool (shape_Has_0_v3 a0 a1 b0 b1 pa pb pc pz))), (.one (.int .i64 (shape_Has_1_v3 a0 a1 b0 b1 pa pb pc pz)))])) (AT.tup [(.one (.bool Bool.false)), (.one (.int .i64 (shape_polygon_has_1 (List.cons pa (List.cons pb (List.cons pc pz))) b0 b1)))] = (.tup [(.one (.bool (shape_Has_0_v3 a0 a1 b0 b1 pa pb pc pz))), (.one (.int .i64 (shape_Has_1_v3 a0 a1 b0 b1 pa pb pc pz)))]))))) (AT.tup [(.one (.bool Bool.false)), (.one (.int .i64 ((6 : Int))))] = (.tup [(.one (.bool (shape_Has_0_v3 a0 a1 b0 b1 pa pb pc pz))), (.one (.int .i64 (shape_Has_1_v3 a0 a1 b0 b1 pa pb pc pz)))]))) (AT.tup [(.one (.bool Bool.false)), (.one (.int .i64 ((6 : Int))))] = (.tup [(.one (.bool (shape_Has_0_v3 a0 a1 b0 b1 pa pb pc pz))), (.one (.int .i64 (shape_Has_1_v3 a0 a1 b0 b1 pa pb pc pz)))]))) (AT.tup [(.one (.bool Bool.false)), (.one (.int .i64 ((6 : Int))))] = (.tup [(.one (.bool (shape_Has_0_v3 a0 a1 b0 b1 pa pb pc pz))), (.one (.int .i64 (shape_Has_1_v3 a0 a1 b0 b1 pa pb pc pz)))]))) (AT.tup [(.one (.bool Bool.false)), (.one (.int .i64 ((6 : Int))))] = (.tup [(.one (.bool (shape_Has_0_v3 a0 a1 b0 b1 pa pb pc pz))), (.one (.int .i64 (shape_Has_1_v3 a0 a1 b0 b1 pa pb pc pz)))]))))) (by kernel_rfl) ?_⟩
      unfold shape_Has_0_v3 shape_Has_1_v3
      cases hc1 : (Decidable.decide (LT.lt a0 (1 : Int))) with
      | true =>
          rfl
      | false =>
          cases hc2 : (Decidable.decide (GT.gt a0 (3 : Int))) with
          | true =>
              rfl
          | false =>
              cases hc3 : (BEq.beq a0 (3 : Int)) with
              | true =>
                  cases hc4 : (Decidable.decide (GE.ge (Nat.cast (List.length (List.cons pa (List.cons pb (List.cons pc pz)))) : Int) (3 : Int))) with
                  | true =>
                      cases hc5 : (Decidable.decide (LE.le (Nat.cast (List.length (List.cons pa (List.cons pb (List.cons pc pz)))) : Int) (8 : Int))) with
                      | true =>
                          cases hc6 : (fEq a1 (0 : Nat)) with
                          | true =>
                              cases hc7 : (bne (shape_polygon_check (List.cons pa (List.cons pb (List.cons pc pz)))) (0 : Int)) with
                              | true =>
                                  cases hc8 : (BEq.beq (shape_polygon_check (List.cons pa (List.cons pb (List.cons pc pz)))) (0 : Int)) with
                                  | true =>
                                      cases hc9 : (bne (shape_within b0 b1) (0 : Int)) with
                                      | true =>
                                          rfl
                                      | false =>
                                          first | exact (neBeq hc4 hc5).elim | exact (neBeq hc7 hc8).elim
                                  | false =>
                                      rfl
                              | false =>
                                  cases hc10 : (bne (shape_within b0 b1) (0 : Int)) with
                                  | true =>
                                      rfl
                                  | false =>
                                      cases hc11 : (shape_polygon_has_0 (List.cons pa (List.cons pb (List.cons pc pz))) b0 b1) with
                                      | true =>
                                          rfl
                                      | false =>
                                          rfl
                          | false =>
                              rfl
                      | false =>
                          rfl
                  | false =>
                      rfl
              | false =>
                  rfl
  · cases h

end Go.Proofs.Ythopjahoaljhaaa.X

/-! ## The closure of ray.capsule: the first of some hits. -/
set_option linter.unusedVariables false
set_option linter.unusedSimpArgs false
set_option maxRecDepth 100000
namespace Go.Proofs.Ythopjahoaljhaaa.X
open Go Go.RowKit


/-- A hit. -/
structure Ht where
  (x y nx ny t : Nat)
/-- Whether something is met, and what is met first. -/
def putF (b : Bool × Ht) (h : Ht) (met : Bool) (e : Int) : Bool × Ht := bif (e == (0 : Int)) && (met && (!b.1 || fLt h.t b.2.t)) then (true, h) else b
theorem f104 (h0 : Nat) (h1 : Nat) (h2 : Nat) (h3 : Nat) (h4 : Nat) (b0 : Nat) (b1 : Nat) (b2 : Nat) (b3 : Nat) (b4 : Nat) (met : Bool) (e : Int) (ist : Bool) (Q : AT → AT → Prop) (h : cond (BEq.beq e (0 : Int)) (cond (met) (cond (ist) (cond (fLt h4 b4) (Q (AT.tup []) (AT.tup [(.agg [(.bool Bool.true)]), (.agg [(.flt h0), (.flt h1), (.flt h2), (.flt h3), (.flt h4)])])) (Q (AT.tup []) (AT.tup [(.agg [(.bool ist)]), (.agg [(.flt b0), (.flt b1), (.flt b2), (.flt b3), (.flt b4)])]))) (Q (AT.tup []) (AT.tup [(.agg [(.bool Bool.true)]), (.agg [(.flt h0), (.flt h1), (.flt h2), (.flt h3), (.flt h4)])]))) (Q (AT.tup []) (AT.tup [(.agg [(.bool ist)]), (.agg [(.flt b0), (.flt b1), (.flt b2), (.flt b3), (.flt b4)])]))) (Q (AT.tup []) (AT.tup [(.agg [(.bool ist)]), (.agg [(.flt b0), (.flt b1), (.flt b2), (.flt b3), (.flt b4)])]))) : xfun (tb 25 [] [] []) (Try.f104.body.getD .skip) Try.f104.results.toList [.av (.agg [.flt h0, .flt h1, .flt h2, .flt h3, .flt h4]), .av (.one (.bool met)), .av (.one (.int .i64 e)), .av (.one (.lp 1000 0)), .av (.one (.lp 1001 0))] [(1000, .cells [.bool ist]), (1001, .cells [.flt b0, .flt b1, .flt b2, .flt b3, .flt b4])] (fun r bx => Q r (obsB [1000, 1001] bx)) := by_kernel (q := cond (BEq.beq e (0 : Int)) (cond (met) (cond (ist) (cond (fLt h4 b4) (Q (AT.tup []) (AT.tup [(.agg [(.bool Bool.true)]), (.agg [(.flt h0), (.flt h1), (.flt h2), (.flt h3), (.flt h4)])])) (Q (AT.tup []) (AT.tup [(.agg [(.bool ist)]), (.agg [(.flt b0), (.flt b1), (.flt b2), (.flt b3), (.flt b4)])]))) (Q (AT.tup []) (AT.tup [(.agg [(.bool Bool.true)]), (.agg [(.flt h0), (.flt h1), (.flt h2), (.flt h3), (.flt h4)])]))) (Q (AT.tup []) (AT.tup [(.agg [(.bool ist)]), (.agg [(.flt b0), (.flt b1), (.flt b2), (.flt b3), (.flt b4)])]))) (Q (AT.tup []) (AT.tup [(.agg [(.bool ist)]), (.agg [(.flt b0), (.flt b1), (.flt b2), (.flt b3), (.flt b4)])]))) (by kernel_rfl) h

def e104 : EntB := ⟨fun l bx_ K => match l with
  | [.av (.agg [.flt h0, .flt h1, .flt h2, .flt h3, .flt h4]), .av (.one (.bool met)), .av (.one (.int .i64 e)), .av (.one (.lp P 0)), .av (.one (.lp Q 0))] =>
    (match lk bx_ P, lk bx_ Q with
    | some (.cells [.bool ist]), some (.cells [.flt b0, .flt b1, .flt b2, .flt b3, .flt b4]) =>
      bif distinct [P, Q] then K (.tup []) (zipR [P, Q] [.cells [.bool (putF (ist, ⟨b0, b1, b2, b3, b4⟩) ⟨h0, h1, h2, h3, h4⟩ met e).1], .cells [.flt (putF (ist, ⟨b0, b1, b2, b3, b4⟩) ⟨h0, h1, h2, h3, h4⟩ met e).2.x, .flt (putF (ist, ⟨b0, b1, b2, b3, b4⟩) ⟨h0, h1, h2, h3, h4⟩ met e).2.y, .flt (putF (ist, ⟨b0, b1, b2, b3, b4⟩) ⟨h0, h1, h2, h3, h4⟩ met e).2.nx, .flt (putF (ist, ⟨b0, b1, b2, b3, b4⟩) ⟨h0, h1, h2, h3, h4⟩ met e).2.ny, .flt (putF (ist, ⟨b0, b1, b2, b3, b4⟩) ⟨h0, h1, h2, h3, h4⟩ met e).2.t]] bx_) else False
    | _, _ => False)
  | _ => False⟩
theorem c104 : CallOkB Pr 104 e104 := by
  refine callOkB_of (T := tb 25 [] [] []) (tb_ok (fnNil _) (fnBNil _)) Try.func104 rfl (by decide) rfl (noLoops rfl) ?_
  intro l bx_ K hLB h
  unfold e104 at h
  dsimp only at h
  split at h
  · rename_i h0 h1 h2 h3 h4 met e P Q
    split at h
    · rename_i ist b0 b1 b2 b3 b4 g1 g2
      cases hd : distinct [P, Q] with
      | false => rw [hd] at h; exact h.elim
      | true =>
        rw [hd] at h
        rw [cond_true] at h
        have hlk : lkAll bx_ [P, Q] [.cells [.bool ist], .cells [.flt b0, .flt b1, .flt b2, .flt b3, .flt b4]] := by simp only [lkAll, g1, g2, and_self]
        have hx := f104 h0 h1 h2 h3 h4 b0 b1 b2 b3 b4 met e ist (fun r X => r = .tup [] ∧ X = .tup (([.cells [.bool (putF (ist, ⟨b0, b1, b2, b3, b4⟩) ⟨h0, h1, h2, h3, h4⟩ met e).1], .cells [.flt (putF (ist, ⟨b0, b1, b2, b3, b4⟩) ⟨h0, h1, h2, h3, h4⟩ met e).2.x, .flt (putF (ist, ⟨b0, b1, b2, b3, b4⟩) ⟨h0, h1, h2, h3, h4⟩ met e).2.y, .flt (putF (ist, ⟨b0, b1, b2, b3, b4⟩) ⟨h0, h1, h2, h3, h4⟩ met e).2.nx, .flt (putF (ist, ⟨b0, b1, b2, b3, b4⟩) ⟨h0, h1, h2, h3, h4⟩ met e).2.ny, .flt (putF (ist, ⟨b0, b1, b2, b3, b4⟩) ⟨h0, h1, h2, h3, h4⟩ met e).2.t]] : List Bx).map encB)) ?_
        · exact canonB [.av (.agg [.flt h0, .flt h1, .flt h2, .flt h3, .flt h4]), .av (.one (.bool met)), .av (.one (.int .i64 e)), .av (.one (.lp 1000 0)), .av (.one (.lp 1001 0))] [P, Q] [.cells [.bool ist], .cells [.flt b0, .flt b1, .flt b2, .flt b3, .flt b4]] [.cells [.bool (putF (ist, ⟨b0, b1, b2, b3, b4⟩) ⟨h0, h1, h2, h3, h4⟩ met e).1], .cells [.flt (putF (ist, ⟨b0, b1, b2, b3, b4⟩) ⟨h0, h1, h2, h3, h4⟩ met e).2.x, .flt (putF (ist, ⟨b0, b1, b2, b3, b4⟩) ⟨h0, h1, h2, h3, h4⟩ met e).2.y, .flt (putF (ist, ⟨b0, b1, b2, b3, b4⟩) ⟨h0, h1, h2, h3, h4⟩ met e).2.nx, .flt (putF (ist, ⟨b0, b1, b2, b3, b4⟩) ⟨h0, h1, h2, h3, h4⟩ met e).2.ny, .flt (putF (ist, ⟨b0, b1, b2, b3, b4⟩) ⟨h0, h1, h2, h3, h4⟩ met e).2.t]] (.tup []) (by kernel_rfl) (by kernel_rfl) (by kernel_rfl) hlk hd (by kernel_rfl) (by kernel_rfl) (by kernel_rfl) (by kernel_rfl) hx h
        unfold putF
        cases (e == (0 : Int)) <;> cases met <;> cases ist <;> cases fLt h4 b4 <;> exact ⟨rfl, rfl⟩
    · exact h.elim
  · exact h.elim

end Go.Proofs.Ythopjahoaljhaaa.X

/-! ## Contracts of functions of the program, laid out by a program of mine (gen.py): what each gives, as a function of its arguments; floats up to the bits of a NaN. -/
set_option linter.unusedVariables false
set_option linter.unusedSimpArgs false
set_option maxRecDepth 100000
namespace Go.Proofs.Ythopjahoaljhaaa.X
open Go Go.RowKit
noncomputable section

/-- tumble/ray.Segment -/
def ray_Segment_0 (a0 : Nat) (a1 : Nat) (b0 : Nat) (b1 : Nat) (c0 : Nat) (c1 : Nat) (d0 : Nat) (d1 : Nat) : Nat := cond (ray_real a0 a1) (cond (ray_real b0 b1) (cond (fLt (vec_Length (vec_Sub_0 b0 b1 a0 a1) (vec_Sub_1 b0 b1 a0 a1)) (4472074429978902528 : Nat)) ((0 : Nat)) (cond (bne (ray_asked c0 c1 d0 d1) (0 : Int)) ((0 : Nat)) (cond (fEq (vec_Cross d0 d1 (vec_Sub_0 b0 b1 a0 a1) (vec_Sub_1 b0 b1 a0 a1)) (0 : Nat)) ((0 : Nat)) (cond (ray_part (fdiv (vec_Cross (vec_Sub_0 a0 a1 c0 c1) (vec_Sub_1 a0 a1 c0 c1) (vec_Sub_0 b0 b1 a0 a1) (vec_Sub_1 b0 b1 a0 a1)) (vec_Cross d0 d1 (vec_Sub_0 b0 b1 a0 a1) (vec_Sub_1 b0 b1 a0 a1)))) (cond (ray_part (fdiv (vec_Cross (vec_Sub_0 a0 a1 c0 c1) (vec_Sub_1 a0 a1 c0 c1) d0 d1) (vec_Cross d0 d1 (vec_Sub_0 b0 b1 a0 a1) (vec_Sub_1 b0 b1 a0 a1)))) (cond (fGt (vec_Dot (vec_Unit_0 (vec_Right_0 (vec_Sub_0 b0 b1 a0 a1) (vec_Sub_1 b0 b1 a0 a1)) (vec_Right_1 (vec_Sub_0 b0 b1 a0 a1) (vec_Sub_1 b0 b1 a0 a1))) (vec_Unit_1 (vec_Right_0 (vec_Sub_0 b0 b1 a0 a1) (vec_Sub_1 b0 b1 a0 a1)) (vec_Right_1 (vec_Sub_0 b0 b1 a0 a1) (vec_Sub_1 b0 b1 a0 a1))) d0 d1) (0 : Nat)) (ray_hit_0 c0 c1 d0 d1 (fdiv (vec_Cross (vec_Sub_0 a0 a1 c0 c1) (vec_Sub_1 a0 a1 c0 c1) (vec_Sub_0 b0 b1 a0 a1) (vec_Sub_1 b0 b1 a0 a1)) (vec_Cross d0 d1 (vec_Sub_0 b0 b1 a0 a1) (vec_Sub_1 b0 b1 a0 a1))) (vec_Neg_0 (vec_Unit_0 (vec_Right_0 (vec_Sub_0 b0 b1 a0 a1) (vec_Sub_1 b0 b1 a0 a1)) (vec_Right_1 (vec_Sub_0 b0 b1 a0 a1) (vec_Sub_1 b0 b1 a0 a1))) (vec_Unit_1 (vec_Right_0 (vec_Sub_0 b0 b1 a0 a1) (vec_Sub_1 b0 b1 a0 a1)) (vec_Right_1 (vec_Sub_0 b0 b1 a0 a1) (vec_Sub_1 b0 b1 a0 a1)))) (vec_Neg_1 (vec_Unit_0 (vec_Right_0 (vec_Sub_0 b0 b1 a0 a1) (vec_Sub_1 b0 b1 a0 a1)) (vec_Right_1 (vec_Sub_0 b0 b1 a0 a1) (vec_Sub_1 b0 b1 a0 a1))) (vec_Unit_1 (vec_Right_0 (vec_Sub_0 b0 b1 a0 a1) (vec_Sub_1 b0 b1 a0 a1)) (vec_Right_1 (vec_Sub_0 b0 b1 a0 a1) (vec_Sub_1 b0 b1 a0 a1))))) (ray_hit_0 c0 c1 d0 d1 (fdiv (vec_Cross (vec_Sub_0 a0 a1 c0 c1) (vec_Sub_1 a0 a1 c0 c1) (vec_Sub_0 b0 b1 a0 a1) (vec_Sub_1 b0 b1 a0 a1)) (vec_Cross d0 d1 (vec_Sub_0 b0 b1 a0 a1) (vec_Sub_1 b0 b1 a0 a1))) (vec_Unit_0 (vec_Right_0 (vec_Sub_0 b0 b1 a0 a1) (vec_Sub_1 b0 b1 a0 a1)) (vec_Right_1 (vec_Sub_0 b0 b1 a0 a1) (vec_Sub_1 b0 b1 a0 a1))) (vec_Unit_1 (vec_Right_0 (vec_Sub_0 b0 b1 a0 a1) (vec_Sub_1 b0 b1 a0 a1)) (vec_Right_1 (vec_Sub_0 b0 b1 a0 a1) (vec_Sub_1 b0 b1 a0 a1))))) ((0 : Nat))) ((0 : Nat)))))) ((0 : Nat))) ((0 : Nat))
def ray_Segment_1 (a0 : Nat) (a1 : Nat) (b0 : Nat) (b1 : Nat) (c0 : Nat) (c1 : Nat) (d0 : Nat) (d1 : Nat) : Nat := cond (ray_real a0 a1) (cond (ray_real b0 b1) (cond (fLt (vec_Length (vec_Sub_0 b0 b1 a0 a1) (vec_Sub_1 b0 b1 a0 a1)) (4472074429978902528 : Nat)) ((0 : Nat)) (cond (bne (ray_asked c0 c1 d0 d1) (0 : Int)) ((0 : Nat)) (cond (fEq (vec_Cross d0 d1 (vec_Sub_0 b0 b1 a0 a1) (vec_Sub_1 b0 b1 a0 a1)) (0 : Nat)) ((0 : Nat)) (cond (ray_part (fdiv (vec_Cross (vec_Sub_0 a0 a1 c0 c1) (vec_Sub_1 a0 a1 c0 c1) (vec_Sub_0 b0 b1 a0 a1) (vec_Sub_1 b0 b1 a0 a1)) (vec_Cross d0 d1 (vec_Sub_0 b0 b1 a0 a1) (vec_Sub_1 b0 b1 a0 a1)))) (cond (ray_part (fdiv (vec_Cross (vec_Sub_0 a0 a1 c0 c1) (vec_Sub_1 a0 a1 c0 c1) d0 d1) (vec_Cross d0 d1 (vec_Sub_0 b0 b1 a0 a1) (vec_Sub_1 b0 b1 a0 a1)))) (cond (fGt (vec_Dot (vec_Unit_0 (vec_Right_0 (vec_Sub_0 b0 b1 a0 a1) (vec_Sub_1 b0 b1 a0 a1)) (vec_Right_1 (vec_Sub_0 b0 b1 a0 a1) (vec_Sub_1 b0 b1 a0 a1))) (vec_Unit_1 (vec_Right_0 (vec_Sub_0 b0 b1 a0 a1) (vec_Sub_1 b0 b1 a0 a1)) (vec_Right_1 (vec_Sub_0 b0 b1 a0 a1) (vec_Sub_1 b0 b1 a0 a1))) d0 d1) (0 : Nat)) (ray_hit_1 c0 c1 d0 d1 (fdiv (vec_Cross (vec_Sub_0 a0 a1 c0 c1) (vec_Sub_1 a0 a1 c0 c1) (vec_Sub_0 b0 b1 a0 a1) (vec_Sub_1 b0 b1 a0 a1)) (vec_Cross d0 d1 (vec_Sub_0 b0 b1 a0 a1) (vec_Sub_1 b0 b1 a0 a1))) (vec_Neg_0 (vec_Unit_0 (vec_Right_0 (vec_Sub_0 b0 b1 a0 a1) (vec_Sub_1 b0 b1 a0 a1)) (vec_Right_1 (vec_Sub_0 b0 b1 a0 a1) (vec_Sub_1 b0 b1 a0 a1))) (vec_Unit_1 (vec_Right_0 (vec_Sub_0 b0 b1 a0 a1) (vec_Sub_1 b0 b1 a0 a1)) (vec_Right_1 (vec_Sub_0 b0 b1 a0 a1) (vec_Sub_1 b0 b1 a0 a1)))) (vec_Neg_1 (vec_Unit_0 (vec_Right_0 (vec_Sub_0 b0 b1 a0 a1) (vec_Sub_1 b0 b1 a0 a1)) (vec_Right_1 (vec_Sub_0 b0 b1 a0 a1) (vec_Sub_1 b0 b1 a0 a1))) (vec_Unit_1 (vec_Right_0 (vec_Sub_0 b0 b1 a0 a1) (vec_Sub_1 b0 b1 a0 a1)) (vec_Right_1 (vec_Sub_0 b0 b1 a0 a1) (vec_Sub_1 b0 b1 a0 a1))))) (ray_hit_1 c0 c1 d0 d1 (fdiv (vec_Cross (vec_Sub_0 a0 a1 c0 c1) (vec_Sub_1 a0 a1 c0 c1) (vec_Sub_0 b0 b1 a0 a1) (vec_Sub_1 b0 b1 a0 a1)) (vec_Cross d0 d1 (vec_Sub_0 b0 b1 a0 a1) (vec_Sub_1 b0 b1 a0 a1))) (vec_Unit_0 (vec_Right_0 (vec_Sub_0 b0 b1 a0 a1) (vec_Sub_1 b0 b1 a0 a1)) (vec_Right_1 (vec_Sub_0 b0 b1 a0 a1) (vec_Sub_1 b0 b1 a0 a1))) (vec_Unit_1 (vec_Right_0 (vec_Sub_0 b0 b1 a0 a1) (vec_Sub_1 b0 b1 a0 a1)) (vec_Right_1 (vec_Sub_0 b0 b1 a0 a1) (vec_Sub_1 b0 b1 a0 a1))))) ((0 : Nat))) ((0 : Nat)))))) ((0 : Nat))) ((0 : Nat))
def ray_Segment_2 (a0 : Nat) (a1 : Nat) (b0 : Nat) (b1 : Nat) (c0 : Nat) (c1 : Nat) (d0 : Nat) (d1 : Nat) : Nat := cond (ray_real a0 a1) (cond (ray_real b0 b1) (cond (fLt (vec_Length (vec_Sub_0 b0 b1 a0 a1) (vec_Sub_1 b0 b1 a0 a1)) (4472074429978902528 : Nat)) ((0 : Nat)) (cond (bne (ray_asked c0 c1 d0 d1) (0 : Int)) ((0 : Nat)) (cond (fEq (vec_Cross d0 d1 (vec_Sub_0 b0 b1 a0 a1) (vec_Sub_1 b0 b1 a0 a1)) (0 : Nat)) ((0 : Nat)) (cond (ray_part (fdiv (vec_Cross (vec_Sub_0 a0 a1 c0 c1) (vec_Sub_1 a0 a1 c0 c1) (vec_Sub_0 b0 b1 a0 a1) (vec_Sub_1 b0 b1 a0 a1)) (vec_Cross d0 d1 (vec_Sub_0 b0 b1 a0 a1) (vec_Sub_1 b0 b1 a0 a1)))) (cond (ray_part (fdiv (vec_Cross (vec_Sub_0 a0 a1 c0 c1) (vec_Sub_1 a0 a1 c0 c1) d0 d1) (vec_Cross d0 d1 (vec_Sub_0 b0 b1 a0 a1) (vec_Sub_1 b0 b1 a0 a1)))) (cond (fGt (vec_Dot (vec_Unit_0 (vec_Right_0 (vec_Sub_0 b0 b1 a0 a1) (vec_Sub_1 b0 b1 a0 a1)) (vec_Right_1 (vec_Sub_0 b0 b1 a0 a1) (vec_Sub_1 b0 b1 a0 a1))) (vec_Unit_1 (vec_Right_0 (vec_Sub_0 b0 b1 a0 a1) (vec_Sub_1 b0 b1 a0 a1)) (vec_Right_1 (vec_Sub_0 b0 b1 a0 a1) (vec_Sub_1 b0 b1 a0 a1))) d0 d1) (0 : Nat)) (vec_Neg_0 (vec_Unit_0 (vec_Right_0 (vec_Sub_0 b0 b1 a0 a1) (vec_Sub_1 b0 b1 a0 a1)) (vec_Right_1 (vec_Sub_0 b0 b1 a0 a1) (vec_Sub_1 b0 b1 a0 a1))) (vec_Unit_1 (vec_Right_0 (vec_Sub_0 b0 b1 a0 a1) (vec_Sub_1 b0 b1 a0 a1)) (vec_Right_1 (vec_Sub_0 b0 b1 a0 a1) (vec_Sub_1 b0 b1 a0 a1)))) (vec_Unit_0 (vec_Right_0 (vec_Sub_0 b0 b1 a0 a1) (vec_Sub_1 b0 b1 a0 a1)) (vec_Right_1 (vec_Sub_0 b0 b1 a0 a1) (vec_Sub_1 b0 b1 a0 a1)))) ((0 : Nat))) ((0 : Nat)))))) ((0 : Nat))) ((0 : Nat))
def ray_Segment_3 (a0 : Nat) (a1 : Nat) (b0 : Nat) (b1 : Nat) (c0 : Nat) (c1 : Nat) (d0 : Nat) (d1 : Nat) : Nat := cond (ray_real a0 a1) (cond (ray_real b0 b1) (cond (fLt (vec_Length (vec_Sub_0 b0 b1 a0 a1) (vec_Sub_1 b0 b1 a0 a1)) (4472074429978902528 : Nat)) ((0 : Nat)) (cond (bne (ray_asked c0 c1 d0 d1) (0 : Int)) ((0 : Nat)) (cond (fEq (vec_Cross d0 d1 (vec_Sub_0 b0 b1 a0 a1) (vec_Sub_1 b0 b1 a0 a1)) (0 : Nat)) ((0 : Nat)) (cond (ray_part (fdiv (vec_Cross (vec_Sub_0 a0 a1 c0 c1) (vec_Sub_1 a0 a1 c0 c1) (vec_Sub_0 b0 b1 a0 a1) (vec_Sub_1 b0 b1 a0 a1)) (vec_Cross d0 d1 (vec_Sub_0 b0 b1 a0 a1) (vec_Sub_1 b0 b1 a0 a1)))) (cond (ray_part (fdiv (vec_Cross (vec_Sub_0 a0 a1 c0 c1) (vec_Sub_1 a0 a1 c0 c1) d0 d1) (vec_Cross d0 d1 (vec_Sub_0 b0 b1 a0 a1) (vec_Sub_1 b0 b1 a0 a1)))) (cond (fGt (vec_Dot (vec_Unit_0 (vec_Right_0 (vec_Sub_0 b0 b1 a0 a1) (vec_Sub_1 b0 b1 a0 a1)) (vec_Right_1 (vec_Sub_0 b0 b1 a0 a1) (vec_Sub_1 b0 b1 a0 a1))) (vec_Unit_1 (vec_Right_0 (vec_Sub_0 b0 b1 a0 a1) (vec_Sub_1 b0 b1 a0 a1)) (vec_Right_1 (vec_Sub_0 b0 b1 a0 a1) (vec_Sub_1 b0 b1 a0 a1))) d0 d1) (0 : Nat)) (vec_Neg_1 (vec_Unit_0 (vec_Right_0 (vec_Sub_0 b0 b1 a0 a1) (vec_Sub_1 b0 b1 a0 a1)) (vec_Right_1 (vec_Sub_0 b0 b1 a0 a1) (vec_Sub_1 b0 b1 a0 a1))) (vec_Unit_1 (vec_Right_0 (vec_Sub_0 b0 b1 a0 a1) (vec_Sub_1 b0 b1 a0 a1)) (vec_Right_1 (vec_Sub_0 b0 b1 a0 a1) (vec_Sub_1 b0 b1 a0 a1)))) (vec_Unit_1 (vec_Right_0 (vec_Sub_0 b0 b1 a0 a1) (vec_Sub_1 b0 b1 a0 a1)) (vec_Right_1 (vec_Sub_0 b0 b1 a0 a1) (vec_Sub_1 b0 b1 a0 a1)))) ((0 : Nat))) ((0 : Nat)))))) ((0 : Nat))) ((0 : Nat))
def ray_Segment_4 (a0 : Nat) (a1 : Nat) (b0 : Nat) (b1 : Nat) (c0 : Nat) (c1 : Nat) (d0 : Nat) (d1 : Nat) : Nat := cond (ray_real a0 a1) (cond (ray_real b0 b1) (cond (fLt (vec_Length (vec_Sub_0 b0 b1 a0 a1) (vec_Sub_1 b0 b1 a0 a1)) (4472074429978902528 : Nat)) ((0 : Nat)) (cond (bne (ray_asked c0 c1 d0 d1) (0 : Int)) ((0 : Nat)) (cond (fEq (vec_Cross d0 d1 (vec_Sub_0 b0 b1 a0 a1) (vec_Sub_1 b0 b1 a0 a1)) (0 : Nat)) ((0 : Nat)) (cond (ray_part (fdiv (vec_Cross (vec_Sub_0 a0 a1 c0 c1) (vec_Sub_1 a0 a1 c0 c1) (vec_Sub_0 b0 b1 a0 a1) (vec_Sub_1 b0 b1 a0 a1)) (vec_Cross d0 d1 (vec_Sub_0 b0 b1 a0 a1) (vec_Sub_1 b0 b1 a0 a1)))) (cond (ray_part (fdiv (vec_Cross (vec_Sub_0 a0 a1 c0 c1) (vec_Sub_1 a0 a1 c0 c1) d0 d1) (vec_Cross d0 d1 (vec_Sub_0 b0 b1 a0 a1) (vec_Sub_1 b0 b1 a0 a1)))) (fdiv (vec_Cross (vec_Sub_0 a0 a1 c0 c1) (vec_Sub_1 a0 a1 c0 c1) (vec_Sub_0 b0 b1 a0 a1) (vec_Sub_1 b0 b1 a0 a1)) (vec_Cross d0 d1 (vec_Sub_0 b0 b1 a0 a1) (vec_Sub_1 b0 b1 a0 a1))) ((0 : Nat))) ((0 : Nat)))))) ((0 : Nat))) ((0 : Nat))
def ray_Segment_5 (a0 : Nat) (a1 : Nat) (b0 : Nat) (b1 : Nat) (c0 : Nat) (c1 : Nat) (d0 : Nat) (d1 : Nat) : Bool := ((ray_real a0 a1) && ((ray_real b0 b1) && cond (fLt (vec_Length (vec_Sub_0 b0 b1 a0 a1) (vec_Sub_1 b0 b1 a0 a1)) (4472074429978902528 : Nat)) (Bool.false) (cond (bne (ray_asked c0 c1 d0 d1) (0 : Int)) (Bool.false) (cond (fEq (vec_Cross d0 d1 (vec_Sub_0 b0 b1 a0 a1) (vec_Sub_1 b0 b1 a0 a1)) (0 : Nat)) (Bool.false) (((ray_part (fdiv (vec_Cross (vec_Sub_0 a0 a1 c0 c1) (vec_Sub_1 a0 a1 c0 c1) (vec_Sub_0 b0 b1 a0 a1) (vec_Sub_1 b0 b1 a0 a1)) (vec_Cross d0 d1 (vec_Sub_0 b0 b1 a0 a1) (vec_Sub_1 b0 b1 a0 a1)))) && (ray_part (fdiv (vec_Cross (vec_Sub_0 a0 a1 c0 c1) (vec_Sub_1 a0 a1 c0 c1) d0 d1) (vec_Cross d0 d1 (vec_Sub_0 b0 b1 a0 a1) (vec_Sub_1 b0 b1 a0 a1))))))))))
def ray_Segment_6 (a0 : Nat) (a1 : Nat) (b0 : Nat) (b1 : Nat) (c0 : Nat) (c1 : Nat) (d0 : Nat) (d1 : Nat) : Int := cond (ray_real a0 a1) (cond (ray_real b0 b1) (cond (fLt (vec_Length (vec_Sub_0 b0 b1 a0 a1) (vec_Sub_1 b0 b1 a0 a1)) (4472074429978902528 : Nat)) ((5 : Int)) (cond (bne (ray_asked c0 c1 d0 d1) (0 : Int)) (ray_asked c0 c1 d0 d1) ((0 : Int)))) ((5 : Int))) ((5 : Int))
def d50 : List AT → Option AT
  | [.av (.agg [.flt a0, .flt a1]), .av (.agg [.flt b0, .flt b1]), .av (.agg [.flt c0, .flt c1]), .av (.agg [.flt d0, .flt d1])] => some (.tup [(.agg [(.flt (ray_Segment_0 a0 a1 b0 b1 c0 c1 d0 d1)), (.flt (ray_Segment_1 a0 a1 b0 b1 c0 c1 d0 d1)), (.flt (ray_Segment_2 a0 a1 b0 b1 c0 c1 d0 d1)), (.flt (ray_Segment_3 a0 a1 b0 b1 c0 c1 d0 d1)), (.flt (ray_Segment_4 a0 a1 b0 b1 c0 c1 d0 d1))]), (.one (.bool (ray_Segment_5 a0 a1 b0 b1 c0 c1 d0 d1))), (.one (.int .i64 (ray_Segment_6 a0 a1 b0 b1 c0 c1 d0 d1)))])
  | _ => none
def e50 : Ent := .of d50
theorem c50 : CallOk Pr 50 e50 := by
  refine callOk_auto (T := tb 88 [(12, e12), (13, e13), (42, e42), (54, e54), (56, e56), (58, e58), (59, e59), (60, e60), (63, e63), (91, e91), (92, e92)] [] []) (tb_ok (fnCons c12 (fnCons c13 (fnCons c42 (fnCons c54 (fnCons c56 (fnCons c58 (fnCons c59 (fnCons c60 (fnCons c63 (fnCons c91 (fnCons c92 (fnNil _)))))))))))) (fnBNil _)) Try.func50 rfl (by decide) rfl rfl (Ent.of_k d50) ?_
  intro l r h hb
  change d50 l = some r at h
  unfold d50 at h
  split at h
  · rename_i a0 a1 b0 b1 c0 c1 d0 d1
    cases h
    refine ⟨rfl, rfl, by_kernel (q := cond (ray_real a0 a1) (cond (ray_real b0 b1) (cond (fLt (vec_Length (vec_Sub_0 b0 b1 a0 a1) (vec_Sub_1 b0 b1 a0 a1)) (4472074429978902528 : Nat)) (AT.tup [(.agg [(.flt ((0 : Nat))), (.flt ((0 : Nat))), (.flt ((0 : Nat))), (.flt ((0 : Nat))), (.flt ((0 : Nat)))]), (.one (.bool Bool.false)), (.one (.int .i64 ((5 : Int))))] = (.tup [(.agg [(.flt (ray_Segment_0 a0 a1 b0 b1 c0 c1 d0 d1)), (.flt (ray_Segment_1 a0 a1 b0 b1 c0 c1 d0 d1)), (.flt (ray_Segment_2 a0 a1 b0 b1 c0 c1 d0 d1)), (.flt (ray_Segment_3 a0 a1 b0 b1 c0 c1 d0 d1)), (.flt (ray_Segment_4 a0 a1 b0 b1 c0 c1 d0 d1))]), (.one (.bool (ray_Segment_5 a0 a1 b0 b1 c0 c1 d0 d1))), (.one (.int .i64 (ray_Segment_6 a0 a1 b0 b1 c0 c1 d0 d1)))])) (cond (bne (ray_asked c0 c1 d0 d1) (0 : Int)) (AT.tup [(.agg [(.flt ((0 : Nat))), (.flt ((0 : Nat))), (.flt ((0 : Nat))), (.flt ((0 : Nat))), (.flt ((0 : Nat)))]), (.one (.bool Bool.false)), (.one (.int .i64 (ray_asked c0 c1 d0 d1)))] = (.tup [(.agg [(.flt (ray_Segment_0 a0 a1 b0 b1 c0 c1 d0 d1)), (.flt (ray_Segment_1 a0 a1 b0 b1 c0 c1 d0 d1)), (.flt (ray_Segment_2 a0 a1 b0 b1 c0 c1 d0 d1)), (.flt (ray_Segment_3 a0 a1 b0 b1 c0 c1 d0 d1)), (.flt (ray_Segment_4 a0 a1 b0 b1 c0 c1 d0 d1))]), (.one (.bool (ray_Segment_5 a0 a1 b0 b1 c0 c1 d0 d1))), (.one (.int .i64 (ray_Segment_6 a0 a1 b0 b1 c0 c1 d0 d1)))])) (cond (fEq (vec_Cross d0 d1 (vec_Sub_0 b0 b1 a0 a1) (vec_Sub_1 b0 b1 a0 a1)) (0 : Nat)) (AT.tup [(.agg [(.flt ((0 : Nat))), (.flt ((0 : Nat))), (.flt ((0 : Nat))), (.flt ((0 : Nat))), (.flt ((0 : Nat)))]), (.one (.bool Bool.false)), (.one (.int .i64 ((0 : Int))))] = (.tup [(.agg [(.flt (ray_Segment_0 a0 a1 b0 b1 c0 c1 d0 d1)), (.flt (ray_Segment_1 a0 a1 b0 b1 c0 c1 d0 d1)), (.flt (ray_Segment_2 a0 a1 b0 b1 c0 c1 d0 d1)), (.flt (ray_Segment_3 a0 a1 b0 b1 c0 c1 d0 d1)), (.flt (ray_Segment_4 a0 a1 b0 b1 c0 c1 d0 d1))]), (.one (.bool (ray_Segment_5 a0 a1 b0 b1 c0 c1 d0 d1))), (.one (.int .i64 (ray_Segment_6 a0 a1 b0 b1 c0 c1 d0 d1)))])) (cond (ray_part (fdiv (vec_Cross (vec_Sub_0 a0 a1 c0 c1) (vec_Sub_1 a0 a1 c0 c1) (vec_Sub_0 b0 b1 a0 a1) (vec_Sub_1 b0 b1 a0 a1)) (vec_Cross d0 d1 (vec_Sub_0 b0 b1 a0 a1) (vec_Sub_1 b0 b1 a0 a1)))) (cond (ray_part (fdiv (vec_Cross (vec_Sub_0 a0 a1 c0 c1) (vec_Sub_1 a0 a1 c0 c1) d0 d1) (vec_Cross d0 d1 (vec_Sub_0 b0 b1 a0 a1) (vec_Sub_1 b0 b1 a0 a1)))) (cond (vec_Unit_2 (vec_Right_0 (vec_Sub_0 b0 b1 a0 a1) (vec_Sub_1 b0 b1 a0 a1)) (vec_Right_1 (vec_Sub_0 b0 b1 a0 a1) (vec_Sub_1 b0 b1 a0 a1))) (cond (fGt (vec_Dot (vec_Unit_0 (vec_Right_0 (vec_Sub_0 b0 b1 a0 a1) (vec_Sub_1 b0 b1 a0 a1)) (vec_Right_1 (vec_Sub_0 b0 b1 a0 a1) (vec_Sub_1 b0 b1 a0 a1))) (vec_Unit_1 (vec_Right_0 (vec_Sub_0 b0 b1 a0 a1) (vec_Sub_1 b0 b1 a0 a1)) (vec_Right_1 (vec_Sub_0 b0 b1 a0 a1) (vec_Sub_1 b0 b1 a0 a1))) d0 d1) (0 : Nat)) (AT.tup [(.agg [(.flt (ray_hit_0 c0 c1 d0 d1 (fdiv (vec_Cross (vec_Sub_0 a0 a1 c0 c1) (vec_Sub_1 a0 a1 c0 c1) (vec_Sub_0 b0 b1 a0 a1) (vec_Sub_1 b0 b1 a0 a1)) (vec_Cross d0 d1 (vec_Sub_0 b0 b1 a0 a1) (vec_Sub_1 b0 b1 a0 a1))) (vec_Neg_0 (vec_Unit_0 (vec_Right_0 (vec_Sub_0 b0 b1 a0 a1) (vec_Sub_1 b0 b1 a0 a1)) (vec_Right_1 (vec_Sub_0 b0 b1 a0 a1) (vec_Sub_1 b0 b1 a0 a1))) (vec_Unit_1 (vec_Right_0 (vec_Sub_0 b0 b1 a0 a1) (vec_Sub_1 b0 b1 a0 a1)) (vec_Right_1 (vec_Sub_0 b0 b1 a0 a1) (vec_Sub_1 b0 b1 a0 a1)))) (vec_Neg_1 (vec_Unit_0 (vec_Right_0 (vec_Sub_0 b0 b1 a0 a1) (vec_Sub_1 b0 b1 a0 a1)) (vec_Right_1 (vec_Sub_0 b0 b1 a0 a1) (vec_Sub_1 b0 b1 a0 a1))) (vec_Unit_1 (vec_Right_0 (vec_Sub_0 b0 b1 a0 a1) (vec_Sub_1 b0 b1 a0 a1)) (vec_Right_1 (vec_Sub_0 b0 b1 a0 a1) (vec_Sub_1 b0 b1 a0 a1)))))), (.flt (ray_hit_1 c0 c1 d0 d1 (fdiv (vec_Cross (vec_Sub_0 a0 a1 c0 c1) (vec_Sub_1 a0 a1 c0 c1) (vec_Sub_0 b0 b1 a0 a1) (vec_Sub_1 b0 b1 a0 a1)) (vec_Cross d0 d1 (vec_Sub_0 b0 b1 a0 a1) (vec_Sub_1 b0 b1 a0 a1))) (vec_Neg_0 (vec_Unit_0 (vec_Right_0 (vec_Sub_0 b0 b1 a0 a1) (vec_Sub_1 b0 b1 a0 a1)) (vec_Right_1 (vec_Sub_0 b0 b1 a0 a1) (vec_Sub_1 b0 b1 a0 a1))) (vec_Unit_1 (vec_Right_0 (vec_Sub_0 b0 b1 a0 a1) (vec_Sub_1 b0 b1 a0 a1)) (vec_Right_1 (vec_Sub_0 b0 b1 a0 a1) (vec_Sub_1 b0 b1 a0 a1)))) (vec_Neg_1 (vec_Unit_0 (vec_Right_0 (vec_Sub_0 b0 b1 a0 a1) (vec_Sub_1 b0 b1 a0 a1)) (vec_Right_1 (vec_Sub_0 b0 b1 a0 a1) (vec_Sub_1 b0 b1 a0 a1))) (vec_Unit_1 (vec_Right_0 (vec_Sub_0 b0 b1 a0 a1) (vec_Sub_1 b0 b1 a0 a1)) (vec_Right_1 (vec_Sub_0 b0 b1 a0 a1) (vec_Sub_1 b0 b1 a0 a1)))))), (.flt (vec_Neg_0 (vec_Unit_0 (vec_Right_0 (vec_Sub_0 b0 b1 a0 a1) (vec_Sub_1 b0 b1 a0 a1)) (vec_Right_1 (vec_Sub_0 b0 b1 a0 a1) (vec_Sub_1 b0 b1 a0 a1))) (vec_Unit_1 (vec_Right_0 (vec_Sub_0 b0 b1 a0 a1) (vec_Sub_1 b0 b1 a0 a1)) (vec_Right_1 (vec_Sub_0 b0 b1 a0 a1) (vec_Sub_1 b0 b1 a0 a1))))), (.flt (vec_Neg_1 (vec_Unit_0 (vec_Right_0 (vec_Sub_0 b0 b1 a0 a1) (vec_Sub_1 b0 b1 a0 a1)) (vec_Right_1 (vec_Sub_0 b0 b1 a0 a1) (vec_Sub_1 b0 b1 a0 a1))) (vec_Unit_1 (vec_Right_0 (vec_Sub_0 b0 b1 a0 a1) (vec_Sub_1 b0 b1 a0 a1)) (vec_Right_1 (vec_Sub_0 b0 b1 a0 a1) (vec_Sub_1 b0 b1 a0 a1))))), (.flt (fdiv (vec_Cross (vec_Sub_0 a0 a1 c0 c1) (vec_Sub_1 a0 a1 c0 c1) (vec_Sub_0 b0 b1 a0 a1) (vec_Sub_1 b0 b1 a0 a1)) (vec_Cross d0 d1 (vec_Sub_0 b0 b1 a0 a1) (vec_Sub_1 b0 b1 a0 a1))))]), (.one (.bool Bool.true)), (.one (.int .i64 ((0 : Int))))] = (.tup [(.agg [(.flt (ray_Segment_0 a0 a1 b0 b1 c0 c1 d0 d1)), (.flt (ray_Segment_1 a0 a1 b0 b1 c0 c1 d0 d1)), (.flt (ray_Segment_2 a0 a1 b0 b1 c0 c1 d0 d1)), (.flt (ray_Segment_3 a0 a1 b0 b1 c0 c1 d0 d1)), (.flt (ray_Segment_4 a0 a1 b0 b1 c0 c1 d0 d1))]), (.one (.bool (ray_Segment_5 a0 a1 b0 b1 c0 c1 d0 d1))), (.one (.int .i64 (ray_Segment_6 a0 a1 b0 b1 c0 c1 d0 d1)))])) (AT.tup [(.agg [(.flt (ray_hit_0 c0 c1 d0 d1 (fdiv (vec_Cross (vec_Sub_0 a0 a1 c0 c1) (vec_Sub_1 a0 a1 c0 c1) (vec_Sub_0 b0 b1 a0 a1) (vec_Sub_1 b0 b1 a0 a1)) (vec_Cross d0 d1 (vec_Sub_0 b0 b1 a0 a1) (vec_Sub_1 b0 b1 a0 a1))) (vec_Unit_0 (vec_Right_0 (vec_Sub_0 b0 b1 a0 a1) (vec_Sub_1 b0 b1 a0 a1)) (vec_Right_1 (vec_Sub_0 b0 b1 a0 a1) (vec_Sub_1 b0 b1 a0 a1))) (vec_Unit_1 (vec_Right_0 (vec_Sub_0 b0 b1 a0 a1) (vec_Sub_1 b0 b1 a0 a1)) (vec_Right_1 (vec_Sub_0 b0 b1 a0 a1) (vec_Sub_1 b0 b1 a0 a1))))), (.flt (ray_hit_1 c0 c1 d0 d1 (fdiv (vec_Cross (vec_Sub_0 a0 a1 c0 c1) (vec_Sub_1 a0 a1 c0 c1) (vec_Sub_0 b0 b1 a0 a1) (vec_Sub_1 b0 b1 a0 a1)) (vec_Cross d0 d1 (vec_Sub_0 b0 b1 a0 a1) (vec_Sub_1 b0 b1 a0 a1))) (vec_Unit_0 (vec_Right_0 (vec_Sub_0 b0 b1 a0 a1) (vec_Sub_1 b0 b1 a0 a1)) (vec_Right_1 (vec_Sub_0 b0 b1 a0 a1) (vec_Sub_1 b0 b1 a0 a1))) (vec_Unit_1 (vec_Right_0 (vec_Sub_0 b0 b1 a0 a1) (vec_Sub_1 b0 b1 a0 a1)) (vec_Right_1 (vec_Sub_0 b0 b1 a0 a1) (vec_Sub_1 b0 b1 a0 a1))))), (.flt (vec_Unit_0 (vec_Right_0 (vec_Sub_0 b0 b1 a0 a1) (vec_Sub_1 b0 b1 a0 a1)) (vec_Right_1 (vec_Sub_0 b0 b1 a0 a1) (vec_Sub_1 b0 b1 a0 a1)))), (.flt (vec_Unit_1 (vec_Right_0 (vec_Sub_0 b0 b1 a0 a1) (vec_Sub_1 b0 b1 a0 a1)) (vec_Right_1 (vec_Sub_0 b0 b1 a0 a1) (vec_Sub_1 b0 b1 a0 a1)))), (.flt (fdiv (vec_Cross (vec_Sub_0 a0 a1 c0 c1) (vec_Sub_1 a0 a1 c0 c1) (vec_Sub_0 b0 b1 a0 a1) (vec_Sub_1 b0 b1 a0 a1)) (vec_Cross d0 d1 (vec_Sub_0 b0 b1 a0 a1) (vec_Sub_1 b0 b1 a0 a1))))]), (.one (.bool Bool.true)), (.one (.int .i64 ((0 : Int))))] = (.tup [(.agg [(.flt (ray_Segment_0 a0 a1 b0 b1 c0 c1 d0 d1)), (.flt (ray_Segment_1 a0 a1 b0 b1 c0 c1 d0 d1)), (.flt (ray_Segment_2 a0 a1 b0 b1 c0 c1 d0 d1)), (.flt (ray_Segment_3 a0 a1 b0 b1 c0 c1 d0 d1)), (.flt (ray_Segment_4 a0 a1 b0 b1 c0 c1 d0 d1))]), (.one (.bool (ray_Segment_5 a0 a1 b0 b1 c0 c1 d0 d1))), (.one (.int .i64 (ray_Segment_6 a0 a1 b0 b1 c0 c1 d0 d1)))]))) (cond (fGt (vec_Dot (vec_Unit_0 (vec_Right_0 (vec_Sub_0 b0 b1 a0 a1) (vec_Sub_1 b0 b1 a0 a1)) (vec_Right_1 (vec_Sub_0 b0 b1 a0 a1) (vec_Sub_1 b0 b1 a0 a1))) (vec_Unit_1 (vec_Right_0 (vec_Sub_0 b0 b1 a0 a1) (vec_Sub_1 b0 b1 a0 a1)) (vec_Right_1 (vec_Sub_0 b0 b1 a0 a1) (vec_Sub_1 b0 b1 a0 a1))) d0 d1) (0 : Nat)) (AT.tup [(.agg [(.flt (ray_hit_0 c0 c1 d0 d1 (fdiv (vec_Cross (vec_Sub_0 a0 a1 c0 c1) (vec_Sub_1 a0 a1 c0 c1) (vec_Sub_0 b0 b1 a0 a1) (vec_Sub_1 b0 b1 a0 a1)) (vec_Cross d0 d1 (vec_Sub_0 b0 b1 a0 a1) (vec_Sub_1 b0 b1 a0 a1))) (vec_Neg_0 (vec_Unit_0 (vec_Right_0 (vec_Sub_0 b0 b1 a0 a1) (vec_Sub_1 b0 b1 a0 a1)) (vec_Right_1 (vec_Sub_0 b0 b1 a0 a1) (vec_Sub_1 b0 b1 a0 a1))) (vec_Unit_1 (vec_Right_0 (vec_Sub_0 b0 b1 a0 a1) (vec_Sub_1 b0 b1 a0 a1)) (vec_Right_1 (vec_Sub_0 b0 b1 a0 a1) (vec_Sub_1 b0 b1 a0 a1)))) (vec_Neg_1 (vec_Unit_0 (vec_Right_0 (vec_Sub_0 b0 b1 a0 a1) (vec_Sub_1 b0 b1 a0 a1)) (vec_Right_1 (vec_Sub_0 b0 b1 a0 a1) (vec_Sub_1 b0 b1 a0 a1))) (vec_Unit_1 (vec_Right_0 (vec_Sub_0 b0 b1 a0 a1) (vec_Sub_1 b0 b1 a0 a1)) (vec_Right_1 (vec_Sub_0 b0 b1 a0 a1) (vec_Sub_1 b0 b1 a0 a1)))))), (.flt (ray_hit_1 c0 c1 d0 d1 (fdiv (vec_Cross (vec_Sub_0 a0 a1 c0 c1) (vec_Sub_1 a0 a1 c0 c1) (vec_Sub_0 b0 b1 a0 a1) (vec_Sub_1 b0 b1 a0 a1)) (vec_Cross d0 d1 (vec_Sub_0 b0 b1 a0 a1) (vec_Sub_1 b0 b1 a0 a1))) (vec_Neg_0 (vec_Unit_0 (vec_Right_0 (vec_Sub_0 b0 b1 a0 a1) (vec_Sub_1 b0 b1 a0 a1)) (vec_Right_1 (vec_Sub_0 b0 b1 a0 a1) (vec_Sub_1 b0 b1 a0 a1))) (vec_Unit_1 (vec_Right_0 (vec_Sub_0 b0 b1 a0 a1) (vec_Sub_1 b0 b1 a0 a1)) (vec_Right_1 (vec_Sub_0 b0 b1 a0 a1) (vec_Sub_1 b0 b1 a0 a1)))) (vec_Neg_1 (vec_Unit_0 (vec_Right_0 (vec_Sub_0 b0 b1 a0 a1) (vec_Sub_1 b0 b1 a0 a1)) (vec_Right_1 (vec_Sub_0 b0 b1 a0 a1) (vec_Sub_1 b0 b1 a0 a1))) (vec_Unit_1 (vec_Right_0 (vec_Sub_0 b0 b1 a0 a1) (vec_Sub_1 b0 b1 a0 a1)) (vec_Right_1 (vec_Sub_0 b0 b1 a0 a1) (vec_Sub_1 b0 b1 a0 a1)))))), (.flt (vec_Neg_0 (vec_Unit_0 (vec_Right_0 (vec_Sub_0 b0 b1 a0 a1) (vec_Sub_1 b0 b1 a0 a1)) (vec_Right_1 (vec_Sub_0 b0 b1 a0 a1) (vec_Sub_1 b0 b1 a0 a1))) (vec_Unit_1 (vec_Right_0 (vec_Sub_0 b0 b1 a0 a1) (vec_Sub_1 b0 b1 a0 a1)) (vec_Right_1 (vec_Sub_0 b0 b1 a0 a1) (vec_Sub_1 b0 b1 a0 a1))))), (.flt (vec_Neg_1 (vec_Unit_0 (vec_Right_0 (vec_Sub_0 b0 b1 a0 a1) (vec_Sub_1 b0 b1 a0 a1)) (vec_Right_1 (vec_Sub_0 b0 b1 a0 a1) (vec_Sub_1 b0 b1 a0 a1))) (vec_Unit_1 (vec_Right_0 (vec_Sub_0 b0 b1 a0 a1) (vec_Sub_1 b0 b1 a0 a1)) (vec_Right_1 (vec_Sub_0 b0 b1 a0 a1) (vec_Sub_1 b0 b1 a0 a1))))), (.flt (fdiv (vec_Cross (vec_Sub_0 a0 a1 c0 c1) (vec_Sub_1 a0 a1 c0 c1) (vec_Sub_0 b0 b1 a0 a1) (vec_Sub_1 b0 b1 a0 a1)) (vec_Cross d0 d1 (vec_Sub_0 b0 b1 a0 a1) (vec_Sub_1 b0 b1 a0 a1))))]), (.one (.bool Bool.true)), (.one (.int .i64 ((0 : Int))))] = (.tup [(.agg [(.flt (ray_Segment_0 a0 a1 b0 b1 c0 c1 d0 d1)), (.flt (ray_Segment_1 a0 a1 b0 b1 c0 c1 d0 d1)), (.flt (ray_Segment_2 a0 a1 b0 b1 c0 c1 d0 d1)), (.flt (ray_Segment_3 a0 a1 b0 b1 c0 c1 d0 d1)), (.flt (ray_Segment_4 a0 a1 b0 b1 c0 c1 d0 d1))]), (.one (.bool (ray_Segment_5 a0 a1 b0 b1 c0 c1 d0 d1))), (.one (.int .i64 (ray_Segment_6 a0 a1 b0 b1 c0 c1 d0 d1)))])) (AT.tup [(.agg [(.flt (ray_hit_0 c0 c1 d0 d1 (fdiv (vec_Cross (vec_Sub_0 a0 a1 c0 c1) (vec_Sub_1 a0 a1 c0 c1) (vec_Sub_0 b0 b1 a0 a1) (vec_Sub_1 b0 b1 a0 a1)) (vec_Cross d0 d1 (vec_Sub_0 b0 b1 a0 a1) (vec_Sub_1 b0 b1 a0 a1))) (vec_Unit_0 (vec_Right_0 (vec_Sub_0 b0 b1 a0 a1) (vec_Sub_1 b0 b1 a0 a1)) (vec_Right_1 (vec_Sub_0 b0 b1 a0 a1) (vec_Sub_1 b0 b1 a0 a1))) (vec_Unit_1 (vec_Right_0 (vec_Sub_0 b0 b1 a0 a1) (vec_Sub_1 b0 b1 a0 a1)) (vec_Right_1 (vec_Sub_0 b0 b1 a0 a1) (vec_Sub_1 b0 b1 a0 a1))))), (.flt (ray_hit_1 c0 c1 d0 d1 (fdiv (vec_Cross (vec_Sub_0 a0 a1 c0 c1) (vec_Sub_1 a0 a1 c0 c1) (vec_Sub_0 b0 b1 a0 a1) (vec_Sub_1 b0 b1 a0 a1)) (vec_Cross d0 d1 (vec_Sub_0 b0 b1 a0 a1) (vec_Sub_1 b0 b1 a0 a1))) (vec_Unit_0 (vec_Right_0 (vec_Sub_0 b0 b1 a0 a1) (vec_Sub_1 b0 b1 a0 a1)) (vec_Right_1 (vec_Sub_0 b0 b1 a0 a1) (vec_Sub_1 b0 b1 a0 a1))) (vec_Unit_1 (vec_Right_0 (vec_Sub_0 b0 b1 a0 a1) (vec_Sub_1 b0 b1 a0 a1)) (vec_Right_1 (vec_Sub_0 b0 b1 a0 a1) (vec_Sub_1 b0 b1 a0 a1))))), (.flt (vec_Unit_0 (vec_Right_0 (vec_Sub_0 b0 b1 a0 a1) (vec_Sub_1 b0 b1 a0 a1)) (vec_Right_1 (vec_Sub_0 b0 b1 a0 a1) (vec_Sub_1 b0 b1 a0 a1)))), (.flt (vec_Unit_1 (vec_Right_0 (vec_Sub_0 b0 b1 a0 a1) (vec_Sub_1 b0 b1 a0 a1)) (vec_Right_1 (vec_Sub_0 b0 b1 a0 a1) (vec_Sub_1 b0 b1 a0 a1)))), (.flt (fdiv (vec_Cross (vec_Sub_0 a0 a1 c0 c1) (vec_Sub_1 a0 a1 c0 c1) (vec_Sub_0 b0 b1 a0 a1) (vec_Sub_1 b0 b1 a0 a1)) (vec_Cross d0 d1 (vec_Sub_0 b0 b1 a0 a1) (vec_Sub_1 b0 b1 a0 a1))))]), (.one (.bool Bool.true)), (.one (.int .i64 ((0 : Int))))] = (.tup [(.agg [(.flt (ray_Segment_0 a0 a1 b0 b1 c0 c1 d0 d1)), (.flt (ray_Segment_1 a0 a1 b0 b1 c0 c1 d0 d1)), (.flt (ray_Segment_2 a0 a1 b0 b1 c0 c1 d0 d1)), (.flt (ray_Segment_3 a0 a1 b0 b1 c0 c1 d0 d1)), (.flt (ray_Segment_4 a0 a1 b0 b1 c0 c1 d0 d1))]), (.one (.bool (ray_Segment_5 a0 a1 b0 b1 c0 c1 d0 d1))), (.one (.int .i64 (ray_Segment_6 a0 a1 b0 b1 c0 c1 d0 d1)))])))) (AT.tup [(.agg [(.flt ((0 : Nat))), (.flt ((0 : Nat))), (.flt ((0 : Nat))), (.flt ((0 : Nat))), (.flt ((0 : Nat)))]), (.one (.bool Bool.false)), (.one (.int .i64 ((0 : Int))))] = (.tup [(.agg [(.flt (ray_Segment_0 a0 a1 b0 b1 c0 c1 d0 d1)), (.flt (ray_Segment_1 a0 a1 b0 b1 c0 c1 d0 d1)), (.flt (ray_Segment_2 a0 a1 b0 b1 c0 c1 d0 d1)), (.flt (ray_Segment_3 a0 a1 b0 b1 c0 c1 d0 d1)), (.flt (ray_Segment_4 a0 a1 b0 b1 c0 c1 d0 d1))]), (.one (.bool (ray_Segment_5 a0 a1 b0 b1 c0 c1 d0 d1))), (.one (.int .i64 (ray_Segment_6 a0 a1 b0 b1 c0 c1 d0 d1)))]))) (AT.tup [(.agg [(.flt ((0 : Nat))), (.flt ((0 : Nat))), (.flt ((0 : Nat))), (.flt ((0 : Nat))), (.flt ((0 : Nat)))]), (.one (.bool Bool.false)), (.one (.int .i64 ((0 : Int))))] = (.tup [(.agg [(.flt (ray_Segment_0 a0 a1 b0 b1 c0 c1 d0 d1)), (.flt (ray_Segment_1 a0 a1 b0 b1 c0 c1 d0 d1)), (.flt (ray_Segment_2 a0 a1 b0 b1 c0 c1 d0 d1)), (.flt (ray_Segment_3 a0 a1 b0 b1 c0 c1 d0 d1)), (.flt (ray_Segment_4 a0 a1 b0 b1 c0 c1 d0 d1))]), (.one (.bool (ray_Segment_5 a0 a1 b0 b1 c0 c1 d0 d1))), (.one (.int .i64 (ray_Segment_6 a0 a1 b0 b1 c0 c1 d0 d1)))])))))) (AT.tup [(.agg [(.flt ((0 : Nat))), (.flt ((0 : Nat))), (.flt ((0 : Nat))), (.flt ((0 : Nat))), (.flt ((0 : Nat)))]), (.one (.bool Bool.false)), (.one (.int .i64 ((5 : Int))))] = (.tup [(.agg [(.flt (ray_Segment_0 a0 a1 b0 b1 c0 c1 d0 d1)), (.flt (ray_Segment_1 a0 a1 b0 b1 c0 c1 d0 d1)), (.flt (ray_Segment_2 a0 a1 b0 b1 c0 c1 d0 d1)), (.flt (ray_Segment_3 a0 a1 b0 b1 c0 c1 d0 d1)), (.flt (ray_Segment_4 a0 a1 b0 b1 c0 c1 d0 d1))]), (.one (.bool (ray_Segment_5 a0 a1 b0 b1 c0 c1 d0 d1))), (.one (.int .i64 (ray_Segment_6 a0 a1 b0 b1 c0 c1 d0 d1)))]))) (AT.tup [(.agg [(.flt ((0 : Nat))), (.flt ((0 : Nat))), (.flt ((0 : Nat))), (.flt ((0 : Nat))), (.flt ((0 : Nat)))]), (.one (.bool Bool.false)), (.one (.int .i64 ((5 : Int))))] = (.tup [(.agg [(.flt (ray_Segment_0 a0 a1 b0 b1 c0 c1 d0 d1)), (.flt (ray_Segment_1 a0 a1 b0 b1 c0 c1 d0 d1)), (.flt (ray_Segment_2 a0 a1 b0 b1 c0 c1 d0 d1)), (.flt (ray_Segment_3 a0 a1 b0 b1 c0 c1 d0 d1)), (.flt (ray_Segment_4 a0 a1 b0 b1 c0 c1 d0 d1))]), (.one (.bool (ray_Segment_5 a0 a1 b0 b1 c0 c1 d0 d1))), (.one (.int .i64 (ray_Segment_6 a0 a1 b0 b1 c0 c1 d0 d1)))]))) (by kernel_rfl) ?_⟩
    unfold ray_Segment_0 ray_Segment_1 ray_Segment_2 ray_Segment_3 ray_Segment_4 ray_Segment_5 ray_Segment_6
    cases (ray_real a0 a1) with
    | true =>
        cases (ray_real b0 b1) with
        | true =>
            cases (fLt (vec_Length (vec_Sub_0 b0 b1 a0 a1) (vec_Sub_1 b0 b1 a0 a1)) (4472074429978902528 : Nat)) with
            | true =>
                rfl
            | false =>
                cases (bne (ray_asked c0 c1 d0 d1) (0 : Int)) with
                | true =>
                    rfl
                | false =>
                    cases (fEq (vec_Cross d0 d1 (vec_Sub_0 b0 b1 a0 a1) (vec_Sub_1 b0 b1 a0 a1)) (0 : Nat)) with
                    | true =>
                        rfl
                    | false =>
                        cases (ray_part (fdiv (vec_Cross (vec_Sub_0 a0 a1 c0 c1) (vec_Sub_1 a0 a1 c0 c1) (vec_Sub_0 b0 b1 a0 a1) (vec_Sub_1 b0 b1 a0 a1)) (vec_Cross d0 d1 (vec_Sub_0 b0 b1 a0 a1) (vec_Sub_1 b0 b1 a0 a1)))) with
                        | true =>
                            cases (ray_part (fdiv (vec_Cross (vec_Sub_0 a0 a1 c0 c1) (vec_Sub_1 a0 a1 c0 c1) d0 d1) (vec_Cross d0 d1 (vec_Sub_0 b0 b1 a0 a1) (vec_Sub_1 b0 b1 a0 a1)))) with
                            | true =>
                                cases (vec_Unit_2 (vec_Right_0 (vec_Sub_0 b0 b1 a0 a1) (vec_Sub_1 b0 b1 a0 a1)) (vec_Right_1 (vec_Sub_0 b0 b1 a0 a1) (vec_Sub_1 b0 b1 a0 a1))) with
                                | true =>
                                    cases (fGt (vec_Dot (vec_Unit_0 (vec_Right_0 (vec_Sub_0 b0 b1 a0 a1) (vec_Sub_1 b0 b1 a0 a1)) (vec_Right_1 (vec_Sub_0 b0 b1 a0 a1) (vec_Sub_1 b0 b1 a0 a1))) (vec_Unit_1 (vec_Right_0 (vec_Sub_0 b0 b1 a0 a1) (vec_Sub_1 b0 b1 a0 a1)) (vec_Right_1 (vec_Sub_0 b0 b1 a0 a1) (vec_Sub_1 b0 b1 a0 a1))) d0 d1) (0 : Nat)) with
                                    | true =>
                                        rfl
                                    | false =>
                                        rfl
                                | false =>
                                    cases (fGt (vec_Dot (vec_Unit_0 (vec_Right_0 (vec_Sub_0 b0 b1 a0 a1) (vec_Sub_1 b0 b1 a0 a1)) (vec_Right_1 (vec_Sub_0 b0 b1 a0 a1) (vec_Sub_1 b0 b1 a0 a1))) (vec_Unit_1 (vec_Right_0 (vec_Sub_0 b0 b1 a0 a1) (vec_Sub_1 b0 b1 a0 a1)) (vec_Right_1 (vec_Sub_0 b0 b1 a0 a1) (vec_Sub_1 b0 b1 a0 a1))) d0 d1) (0 : Nat)) with
                                    | true =>
                                        rfl
                                    | false =>
                                        rfl
                            | false =>
                                rfl
                        | false =>
                            rfl
        | false =>
            rfl
    | false =>
        rfl
  · cases h

end
end Go.Proofs.Ythopjahoaljhaaa.X

/-! ## ray.capsule and ray.Shape of the document's example, and the law's awake: by reckoning. -/
set_option linter.unusedVariables false
set_option linter.unusedSimpArgs false
set_option maxRecDepth 100000
namespace Go.Proofs.Ythopjahoaljhaaa.X
open Go Go.RowKit

def exArgs (k : Int) (r x0 y0 x1 y1 p q u v : Nat) : Bool :=
  (k == (2 : Int)) && (Nat.beq r 4602678819172646912 && (Nat.beq x0 0 && (Nat.beq y0 13830554455654793216 && (Nat.beq x1 0 && (Nat.beq y1 4607182418800017408 && (Nat.beq p 13840687554816376832 && (Nat.beq q 4602678819172646912 && (Nat.beq u 4621819117588971520 && Nat.beq v 0))))))))
theorem exArgs_eq {k : Int} {r x0 y0 x1 y1 p q u v : Nat} (h : exArgs k r x0 y0 x1 y1 p q u v = true) :
    k = 2 ∧ r = 4602678819172646912 ∧ x0 = 0 ∧ y0 = 13830554455654793216 ∧ x1 = 0 ∧ y1 = 4607182418800017408 ∧ p = 13840687554816376832 ∧ q = 4602678819172646912 ∧ u = 4621819117588971520 ∧ v = 0 := by
  unfold exArgs at h
  simp only [Bool.and_eq_true, beq_iff_eq] at h
  obtain ⟨h0, h1, h2, h3, h4, h5, h6, h7, h8, h9⟩ := h
  exact ⟨h0, Nat.eq_of_beq_eq_true h1, Nat.eq_of_beq_eq_true h2, Nat.eq_of_beq_eq_true h3, Nat.eq_of_beq_eq_true h4, Nat.eq_of_beq_eq_true h5, Nat.eq_of_beq_eq_true h6, Nat.eq_of_beq_eq_true h7, Nat.eq_of_beq_eq_true h8, Nat.eq_of_beq_eq_true h9⟩

def d93 : List AT → Option AT
  | [.av (.agg [.int .u8 k, .flt r, .sl [(x0, y0), (x1, y1)]]), .av (.agg [.flt p, .flt q]), .av (.agg [.flt u, .flt v])] => bif exArgs k r x0 y0 x1 y1 p q u v then some (.tup [(.agg [.flt 13826050856027422720, .flt 4602678819172646912, .flt 13830554455654793216, .flt 0, .flt 4601778099247172813]), .one (.bool true)]) else none
  | _ => none
def e93 : Ent := ⟨d93, fun l K => match l with
  | [.av (.agg [.int .u8 k, .flt r, .sl [(x0, y0), (x1, y1)]]), .av (.agg [.flt p, .flt q]), .av (.agg [.flt u, .flt v])] => bif exArgs k r x0 y0 x1 y1 p q u v then K (.tup [(.agg [.flt 13826050856027422720, .flt 4602678819172646912, .flt 13830554455654793216, .flt 0, .flt 4601778099247172813]), .one (.bool true)]) else False
  | _ => False⟩
theorem k93 (l : List AT) (K : AT → Prop) (h : e93.k l K) : ∃ r, e93.d l = some r ∧ K r := by
  simp only [e93] at h ⊢
  unfold d93
  split at h
  · rename_i k r x0 y0 x1 y1 p q u v
    revert h
    cases exArgs k r x0 y0 x1 y1 p q u v with
    | true => intro h; exact ⟨_, rfl, h⟩
    | false => intro h; exact h.elim
  · exact h.elim
theorem c93 : CallOk Pr 93 e93 := by
  refine callOk_auto (T := tb 98 [(13, e13), (23, e23), (34, e34), (42, e42), (50, e50), (103, e103), (105, e105), (106, e106)] [(104, e104)] []) (tb_ok (fnCons c13 (fnCons c23 (fnCons c34 (fnCons c42 (fnCons c50 (fnCons c103 (fnCons c105 (fnCons c106 (fnNil _))))))))) (fnBCons c104 (fnBNil _))) Try.func93 rfl (by decide) rfl rfl k93 ?_
  intro l r h hb
  change d93 l = some r at h
  unfold d93 at h
  split at h
  · rename_i k r x0 y0 x1 y1 p q u v
    cases hc : exArgs k r x0 y0 x1 y1 p q u v with
    | false => rw [hc] at h; cases h
    | true =>
      rw [hc] at h
      cases h
      obtain ⟨rfl, rfl, rfl, rfl, rfl, rfl, rfl, rfl, rfl, rfl⟩ := exArgs_eq hc
      exact ⟨rfl, rfl, by_kernel (q := (AT.tup [(.agg [.flt 13826050856027422720, .flt 4602678819172646912, .flt 13830554455654793216, .flt 0, .flt 4601778099247172813]), .one (.bool true)] = AT.tup [(.agg [.flt 13826050856027422720, .flt 4602678819172646912, .flt 13830554455654793216, .flt 0, .flt 4601778099247172813]), .one (.bool true)])) (by kernel_rfl) rfl⟩
  · cases h

def d51 : List AT → Option AT
  | [.av (.agg [.int .u8 k, .flt r, .sl [(x0, y0), (x1, y1)]]), .av (.agg [.flt p, .flt q]), .av (.agg [.flt u, .flt v])] => bif exArgs k r x0 y0 x1 y1 p q u v then some (.tup [(.agg [.flt 13826050856027422720, .flt 4602678819172646912, .flt 13830554455654793216, .flt 0, .flt 4601778099247172813]), .one (.bool true), .one (.int .i64 0)]) else none
  | _ => none
def e51 : Ent := ⟨d51, fun l K => match l with
  | [.av (.agg [.int .u8 k, .flt r, .sl [(x0, y0), (x1, y1)]]), .av (.agg [.flt p, .flt q]), .av (.agg [.flt u, .flt v])] => bif exArgs k r x0 y0 x1 y1 p q u v then K (.tup [(.agg [.flt 13826050856027422720, .flt 4602678819172646912, .flt 13830554455654793216, .flt 0, .flt 4601778099247172813]), .one (.bool true), .one (.int .i64 0)]) else False
  | _ => False⟩
theorem k51 (l : List AT) (K : AT → Prop) (h : e51.k l K) : ∃ r, e51.d l = some r ∧ K r := by
  simp only [e51] at h ⊢
  unfold d51
  split at h
  · rename_i k r x0 y0 x1 y1 p q u v
    revert h
    cases exArgs k r x0 y0 x1 y1 p q u v with
    | true => intro h; exact ⟨_, rfl, h⟩
    | false => intro h; exact h.elim
  · exact h.elim
theorem c51 : CallOk Pr 51 e51 := by
  refine callOk_auto (T := tb 61 [(8, e8), (23, e23), (56, e56), (93, e93)] [] []) (tb_ok (fnCons c8 (fnCons c23 (fnCons c56 (fnCons c93 (fnNil _))))) (fnBNil _)) Try.func51 rfl (by decide) rfl rfl k51 ?_
  intro l r h hb
  change d51 l = some r at h
  unfold d51 at h
  split at h
  · rename_i k r x0 y0 x1 y1 p q u v
    cases hc : exArgs k r x0 y0 x1 y1 p q u v with
    | false => rw [hc] at h; cases h
    | true =>
      rw [hc] at h
      cases h
      obtain ⟨rfl, rfl, rfl, rfl, rfl, rfl, rfl, rfl, rfl, rfl⟩ := exArgs_eq hc
      exact ⟨rfl, rfl, by_kernel (q := (AT.tup [(.agg [.flt 13826050856027422720, .flt 4602678819172646912, .flt 13830554455654793216, .flt 0, .flt 4601778099247172813]), .one (.bool true), .one (.int .i64 0)] = AT.tup [(.agg [.flt 13826050856027422720, .flt 4602678819172646912, .flt 13830554455654793216, .flt 0, .flt 4601778099247172813]), .one (.bool true), .one (.int .i64 0)])) (by kernel_rfl) rfl⟩
  · cases h

def d15 : List AT → Option AT
  | [] => some (.av (.one (.bool true)))
  | _ => none
def e15 : Ent := .of d15
theorem c15 : CallOk Pr 15 e15 := by
  refine callOk_auto (T := tb 132 [(23, e23), (50, e50), (51, e51)] [] []) (tb_ok (fnCons c23 (fnCons c50 (fnCons c51 (fnNil _)))) (fnBNil _)) Try.func15 rfl (by decide) rfl rfl (Ent.of_k d15) ?_
  intro l r h hb
  change d15 l = some r at h
  unfold d15 at h
  split at h
  · cases h
    exact ⟨rfl, rfl, by_kernel (q := (AT.av (.one (.bool true)) = AT.av (.one (.bool true)))) (by kernel_rfl) rfl⟩
  · cases h

end Go.Proofs.Ythopjahoaljhaaa.X

/-! ## The law RayMeets' loop over points. -/
set_option linter.unusedVariables false
set_option linter.unusedSimpArgs false
set_option maxRecDepth 100000
namespace Go.Proofs.Ythopjahoaljhaaa.X
open Go Go.RowKit

noncomputable def b4 : Code := ((loopsOf (Try.f4.body.getD .skip)).getD 0 .skip)
def vl4 : XE → List LV := fun
  | .n => [.t 0, .t 2, .t 6, .b 6, .t 8, .b 8, .t 9, .b 9, .t 12, .b 12, .t 11, .t 13, .t 14]
  | .r => []
  | _ => [.t 0, .t 2, .t 6, .b 6, .t 8, .b 8, .t 9, .b 9, .t 12, .b 12, .t 11, .t 13]

theorem t4 (l : List (Nat × Nat)) (r : Nat) (c0 : Nat) (c1 : Nat) (f0 : Nat) (f1 : Nat) (o0 : Nat) (o1 : Nat) (w0 : Nat) (w1 : Nat) (ok : Bool) (al : Bool) (i : Nat) (R : AT) (h : cond (Decidable.decide (LT.lt (Nat.cast i : Int) (Nat.cast (List.length l) : Int))) (cond (al) (cond (inRange ((Nat.cast i : Int)) (List.length l)) (cond (law12_small (Prod.fst (gp l (Int.toNat (Nat.cast i : Int)))) (Prod.snd (gp l (Int.toNat (Nat.cast i : Int))))) (AT.tup [(.one (.int .i64 (Int.ofNat (codeX XE.n)))), (.one (.sl l)), (.one (.flt r)), (.one (.lp 6 0)), (.agg [(.flt c0), (.flt c1)]), (.one (.lp 8 0)), (.agg [(.flt f0), (.flt f1)]), (.one (.lp 9 0)), (.agg [(.flt o0), (.flt o1)]), (.one (.lp 12 0)), (.agg [(.flt w0), (.flt w1)]), (.one (.bool ok)), (.one (.bool Bool.true)), (.one (.int .i64 (Go.IntKind.wrap Go.IntKind.i64 (HAdd.hAdd (Nat.cast i : Int) (1 : Int)))))] = R) (AT.tup [(.one (.int .i64 (Int.ofNat (codeX XE.n)))), (.one (.sl l)), (.one (.flt r)), (.one (.lp 6 0)), (.agg [(.flt c0), (.flt c1)]), (.one (.lp 8 0)), (.agg [(.flt f0), (.flt f1)]), (.one (.lp 9 0)), (.agg [(.flt o0), (.flt o1)]), (.one (.lp 12 0)), (.agg [(.flt w0), (.flt w1)]), (.one (.bool ok)), (.one (.bool Bool.false)), (.one (.int .i64 (Go.IntKind.wrap Go.IntKind.i64 (HAdd.hAdd (Nat.cast i : Int) (1 : Int)))))] = R)) (False)) (AT.tup [(.one (.int .i64 (Int.ofNat (codeX XE.n)))), (.one (.sl l)), (.one (.flt r)), (.one (.lp 6 0)), (.agg [(.flt c0), (.flt c1)]), (.one (.lp 8 0)), (.agg [(.flt f0), (.flt f1)]), (.one (.lp 9 0)), (.agg [(.flt o0), (.flt o1)]), (.one (.lp 12 0)), (.agg [(.flt w0), (.flt w1)]), (.one (.bool ok)), (.one (.bool Bool.false)), (.one (.int .i64 (Go.IntKind.wrap Go.IntKind.i64 (HAdd.hAdd (Nat.cast i : Int) (1 : Int)))))] = R)) (AT.tup [(.one (.int .i64 (Int.ofNat (codeX (XE.x (0 : Nat)))))), (.one (.sl l)), (.one (.flt r)), (.one (.lp 6 0)), (.agg [(.flt c0), (.flt c1)]), (.one (.lp 8 0)), (.agg [(.flt f0), (.flt f1)]), (.one (.lp 9 0)), (.agg [(.flt o0), (.flt o1)]), (.one (.lp 12 0)), (.agg [(.flt w0), (.flt w1)]), (.one (.bool ok)), (.one (.bool al))] = R)) : xcode (tb 195 [(13, e13), (15, e15), (16, e16), (17, e17), (18, e18), (19, e19), (20, e20), (21, e21), (22, e22), (23, e23)] [] []) b4 (mkS (vl4 .n) [.one (.sl l), .one (.flt r), .one (.lp 6 0), .agg [.flt c0, .flt c1], .one (.lp 8 0), .agg [.flt f0, .flt f1], .one (.lp 9 0), .agg [.flt o0, .flt o1], .one (.lp 12 0), .agg [.flt w0, .flt w1], .one (.bool ok), .one (.bool al), .one (.int .i64 i)]) (fun e σ => obsT vl4 e σ = R) := by_kernel (q := cond (Decidable.decide (LT.lt (Nat.cast i : Int) (Nat.cast (List.length l) : Int))) (cond (al) (cond (inRange ((Nat.cast i : Int)) (List.length l)) (cond (law12_small (Prod.fst (gp l (Int.toNat (Nat.cast i : Int)))) (Prod.snd (gp l (Int.toNat (Nat.cast i : Int))))) (AT.tup [(.one (.int .i64 (Int.ofNat (codeX XE.n)))), (.one (.sl l)), (.one (.flt r)), (.one (.lp 6 0)), (.agg [(.flt c0), (.flt c1)]), (.one (.lp 8 0)), (.agg [(.flt f0), (.flt f1)]), (.one (.lp 9 0)), (.agg [(.flt o0), (.flt o1)]), (.one (.lp 12 0)), (.agg [(.flt w0), (.flt w1)]), (.one (.bool ok)), (.one (.bool Bool.true)), (.one (.int .i64 (Go.IntKind.wrap Go.IntKind.i64 (HAdd.hAdd (Nat.cast i : Int) (1 : Int)))))] = R) (AT.tup [(.one (.int .i64 (Int.ofNat (codeX XE.n)))), (.one (.sl l)), (.one (.flt r)), (.one (.lp 6 0)), (.agg [(.flt c0), (.flt c1)]), (.one (.lp 8 0)), (.agg [(.flt f0), (.flt f1)]), (.one (.lp 9 0)), (.agg [(.flt o0), (.flt o1)]), (.one (.lp 12 0)), (.agg [(.flt w0), (.flt w1)]), (.one (.bool ok)), (.one (.bool Bool.false)), (.one (.int .i64 (Go.IntKind.wrap Go.IntKind.i64 (HAdd.hAdd (Nat.cast i : Int) (1 : Int)))))] = R)) (False)) (AT.tup [(.one (.int .i64 (Int.ofNat (codeX XE.n)))), (.one (.sl l)), (.one (.flt r)), (.one (.lp 6 0)), (.agg [(.flt c0), (.flt c1)]), (.one (.lp 8 0)), (.agg [(.flt f0), (.flt f1)]), (.one (.lp 9 0)), (.agg [(.flt o0), (.flt o1)]), (.one (.lp 12 0)), (.agg [(.flt w0), (.flt w1)]), (.one (.bool ok)), (.one (.bool Bool.false)), (.one (.int .i64 (Go.IntKind.wrap Go.IntKind.i64 (HAdd.hAdd (Nat.cast i : Int) (1 : Int)))))] = R)) (AT.tup [(.one (.int .i64 (Int.ofNat (codeX (XE.x (0 : Nat)))))), (.one (.sl l)), (.one (.flt r)), (.one (.lp 6 0)), (.agg [(.flt c0), (.flt c1)]), (.one (.lp 8 0)), (.agg [(.flt f0), (.flt f1)]), (.one (.lp 9 0)), (.agg [(.flt o0), (.flt o1)]), (.one (.lp 12 0)), (.agg [(.flt w0), (.flt w1)]), (.one (.bool ok)), (.one (.bool al))] = R)) (by kernel_rfl) h

/-- Are all points small? -/
def smallF (l : List (Nat × Nat)) (i : Nat) (b : Bool) : Bool := b && law12_small (gp l i).1 (gp l i).2
structure Cx4 where
  (l : List (Nat × Nat)) (r c0 c1 f0 f1 o0 o1 w0 w1 : Nat) (ok : Bool)
def s4 (σ : St) (K : XE → St → Prop) : Prop :=
  match getLVs σ (vl4 .n) with
  | some [.one (.sl l), .one (.flt r), .one (.lp 6 0), .agg [.flt c0, .flt c1], .one (.lp 8 0), .agg [.flt f0, .flt f1], .one (.lp 9 0), .agg [.flt o0, .flt o1], .one (.lp 12 0), .agg [.flt w0, .flt w1], .one (.bool ok), .one (.bool al), .one (.int .i64 0)] =>
    l.length ≤ 8796093022208 ∧ K (.x 0) ⟨[(0, .av (.one (.sl l))), (2, .av (.one (.flt r))), (6, .av (.one (.lp 6 0))), (8, .av (.one (.lp 8 0))), (9, .av (.one (.lp 9 0))), (12, .av (.one (.lp 12 0))), (11, .av (.one (.bool ok))), (13, .av (.one (.bool (foldI (smallF l) 0 l.length al))))],
      [(6, .cells [.flt c0, .flt c1]), (8, .cells [.flt f0, .flt f1]), (9, .cells [.flt o0, .flt o1]), (12, .cells [.flt w0, .flt w1])]⟩
  | _ => False
theorem lo4 : LoopOk Pr (tb 195 [(13, e13), (15, e15), (16, e16), (17, e17), (18, e18), (19, e19), (20, e20), (21, e21), (22, e22), (23, e23)] [] []) b4 s4 := by
  refine fold_ok (tb_ok (fnCons c13 (fnCons c15 (fnCons c16 (fnCons c17 (fnCons c18 (fnCons c19 (fnCons c20 (fnCons c21 (fnCons c22 (fnCons c23 (fnNil _))))))))))) (fnBNil _)) (vl := vl4) (Ctx := Cx4) (B := Bool)
    (enc := fun c i b => [.one (.sl c.l), .one (.flt c.r), .one (.lp 6 0), .agg [.flt c.c0, .flt c.c1], .one (.lp 8 0), .agg [.flt c.f0, .flt c.f1], .one (.lp 9 0), .agg [.flt c.o0, .flt c.o1], .one (.lp 12 0), .agg [.flt c.w0, .flt c.w1], .one (.bool c.ok), .one (.bool b), .one (.int .i64 i)])
    (N := fun c => c.l.length) (f := fun c i b => smallF c.l i b) (xd := 0) (done := fun c b => [.one (.sl c.l), .one (.flt c.r), .one (.lp 6 0), .agg [.flt c.c0, .flt c.c1], .one (.lp 8 0), .agg [.flt c.f0, .flt c.f1], .one (.lp 9 0), .agg [.flt c.o0, .flt c.o1], .one (.lp 12 0), .agg [.flt c.w0, .flt c.w1], .one (.bool c.ok), .one (.bool b)])
    (pre := fun c => c.l.length ≤ 8796093022208) (noLoops (by kernel_rfl)) ?_ ?_ ?_
  · intro σ K h
    unfold s4 at h
    split at h
    · rename_i l r c0 c1 f0 f1 o0 o1 w0 w1 ok al hg
      obtain ⟨hl, h⟩ := h
      refine ⟨⟨l, r, c0, c1, f0, f1, o0, o1, w0, w1, ok⟩, 0, al, hl, Nat.zero_le _, hg, ?_⟩
      rw [Nat.sub_zero]; exact h
    · exact h.elim
  · intro c i b h
    exact ⟨rfl, rfl⟩
  · rintro ⟨l, r, c0, c1, f0, f1, o0, o1, w0, w1, ok⟩ i b hl hk hb
    dsimp only at hl hk
    apply t4
    rw [dlt, inRange_nat, Int.toNat_natCast]
    by_cases hi : i < l.length
    · have hw : IntKind.i64.wrap ((i : Int) + 1) = ((i + 1 : Nat) : Int) := wrap_succ (by omega)
      rw [hw, decide_eq_true hi]
      simp only [smallF]
      cases b <;> cases law12_small (gp l i).1 (gp l i).2 <;> cases ok <;> rfl
    · rw [decide_eq_false hi]
      cases b <;> cases ok <;> rfl

end Go.Proofs.Ythopjahoaljhaaa.X
