/- Contracts of functions of the program, laid out by a program of mine (gen.py): what each gives, as a function of its arguments; floats up to the bits of a NaN. (and what goes with it: 9 parts.) -/
import Derived.Test.YthopjahoaljhaaaMb
/-! ## Contracts of functions of the program, laid out by a program of mine (gen.py): what each gives, as a function of its arguments; floats up to the bits of a NaN. -/
set_option linter.unusedVariables false
set_option linter.unusedSimpArgs false
set_option maxRecDepth 100000
namespace Go.Proofs.Ythopjahoaljhaaa.X
open Go Go.RowKit

/-- tumble/poly.Check -/
def poly_Check (a : List (Nat × Nat)) : Int := cond (bne (poly_reals a) (0 : Int)) (poly_reals a) (cond (Decidable.decide (LT.lt (Nat.cast (List.length a) : Int) (3 : Int))) ((60 : Int)) (cond (allF (sideOk a) (0 : Nat) (List.length a)) ((0 : Int)) ((60 : Int))))
def d17 : List AT → Option AT
  | [.av (.one (.sl a))] => some (.av (.one (.int .i64 (poly_Check a))))
  | _ => none
def e17 : Ent := .of d17
theorem c17 : CallOk Pr 17 e17 := by
  refine callOk_autoL (T := tb 50 [(12, e12), (13, e13), (52, e52), (53, e53), (54, e54)] [] [(7, s17)]) (tb_ok (fnCons c12 (fnCons c13 (fnCons c52 (fnCons c53 (fnCons c54 (fnNil _)))))) (fnBNil _)) Try.func17 rfl (by decide) rfl (loops1 (by kernel_rfl) rfl lo17) (Ent.of_k d17) ?_
  intro l r h hb
  change d17 l = some r at h
  unfold d17 at h
  split at h
  · rename_i a
    cases h
    refine ⟨rfl, rfl, by_kernel (q := cond (bne (poly_reals a) (0 : Int)) (AT.av (.one (.int .i64 (poly_reals a))) = (.av (.one (.int .i64 (poly_Check a))))) (cond (Decidable.decide (LT.lt (Nat.cast (List.length a) : Int) (3 : Int))) (AT.av (.one (.int .i64 ((60 : Int)))) = (.av (.one (.int .i64 (poly_Check a))))) (And (And (Eq a a) (Eq (Nat.cast (List.length a) : Int) (Nat.cast (List.length a) : Int))) (cond (Decidable.decide (LE.le (2 : Nat) (List.length a))) (cond (allF (sideOk a) (0 : Nat) (List.length a)) (AT.av (.one (.int .i64 ((0 : Int)))) = (.av (.one (.int .i64 (poly_Check a))))) (AT.av (.one (.int .i64 ((60 : Int)))) = (.av (.one (.int .i64 (poly_Check a)))))) (False))))) (by kernel_rfl) ?_⟩
    unfold poly_Check
    cases hc1 : (bne (poly_reals a) (0 : Int)) with
    | true =>
        rfl
    | false =>
        cases hc2 : (Decidable.decide (LT.lt (Nat.cast (List.length a) : Int) (3 : Int))) with
        | true =>
            rfl
        | false =>
            refine ⟨?_, ?_⟩
            · exact ⟨rfl, rfl⟩
            cases hc3 : (Decidable.decide (LE.le (2 : Nat) (List.length a))) with
            | true =>
                cases hc4 : (allF (sideOk a) (0 : Nat) (List.length a)) with
                | true =>
                    rfl
                | false =>
                    rfl
            | false =>
                simp only [decide_eq_false_iff_not] at *; omega
  · cases h

/-- tumble/poly.normal -/
def d94 : List AT → Option AT
  | [.av (.one (.sl a)), .av (.one (.int .i64 b))] => cond (Decidable.decide (Eq (Nat.cast (List.length a) : Int) (0 : Int))) (none) (cond (inRange (Int.tmod (Go.IntKind.wrap Go.IntKind.i64 (HAdd.hAdd b (1 : Int))) (Nat.cast (List.length a) : Int)) (List.length a)) (cond (inRange b (List.length a)) (cond (vec_Unit_2 (vec_Right_0 (vec_Sub_0 (Prod.fst (gp a (Int.toNat (Int.tmod (Go.IntKind.wrap Go.IntKind.i64 (HAdd.hAdd b (1 : Int))) (Nat.cast (List.length a) : Int))))) (Prod.snd (gp a (Int.toNat (Int.tmod (Go.IntKind.wrap Go.IntKind.i64 (HAdd.hAdd b (1 : Int))) (Nat.cast (List.length a) : Int))))) (Prod.fst (gp a (Int.toNat b))) (Prod.snd (gp a (Int.toNat b)))) (vec_Sub_1 (Prod.fst (gp a (Int.toNat (Int.tmod (Go.IntKind.wrap Go.IntKind.i64 (HAdd.hAdd b (1 : Int))) (Nat.cast (List.length a) : Int))))) (Prod.snd (gp a (Int.toNat (Int.tmod (Go.IntKind.wrap Go.IntKind.i64 (HAdd.hAdd b (1 : Int))) (Nat.cast (List.length a) : Int))))) (Prod.fst (gp a (Int.toNat b))) (Prod.snd (gp a (Int.toNat b))))) (vec_Right_1 (vec_Sub_0 (Prod.fst (gp a (Int.toNat (Int.tmod (Go.IntKind.wrap Go.IntKind.i64 (HAdd.hAdd b (1 : Int))) (Nat.cast (List.length a) : Int))))) (Prod.snd (gp a (Int.toNat (Int.tmod (Go.IntKind.wrap Go.IntKind.i64 (HAdd.hAdd b (1 : Int))) (Nat.cast (List.length a) : Int))))) (Prod.fst (gp a (Int.toNat b))) (Prod.snd (gp a (Int.toNat b)))) (vec_Sub_1 (Prod.fst (gp a (Int.toNat (Int.tmod (Go.IntKind.wrap Go.IntKind.i64 (HAdd.hAdd b (1 : Int))) (Nat.cast (List.length a) : Int))))) (Prod.snd (gp a (Int.toNat (Int.tmod (Go.IntKind.wrap Go.IntKind.i64 (HAdd.hAdd b (1 : Int))) (Nat.cast (List.length a) : Int))))) (Prod.fst (gp a (Int.toNat b))) (Prod.snd (gp a (Int.toNat b)))))) (some (AT.av (.agg [(.flt (vec_Unit_0 (vec_Right_0 (vec_Sub_0 (Prod.fst (gp a (Int.toNat (Int.tmod (Go.IntKind.wrap Go.IntKind.i64 (HAdd.hAdd b (1 : Int))) (Nat.cast (List.length a) : Int))))) (Prod.snd (gp a (Int.toNat (Int.tmod (Go.IntKind.wrap Go.IntKind.i64 (HAdd.hAdd b (1 : Int))) (Nat.cast (List.length a) : Int))))) (Prod.fst (gp a (Int.toNat b))) (Prod.snd (gp a (Int.toNat b)))) (vec_Sub_1 (Prod.fst (gp a (Int.toNat (Int.tmod (Go.IntKind.wrap Go.IntKind.i64 (HAdd.hAdd b (1 : Int))) (Nat.cast (List.length a) : Int))))) (Prod.snd (gp a (Int.toNat (Int.tmod (Go.IntKind.wrap Go.IntKind.i64 (HAdd.hAdd b (1 : Int))) (Nat.cast (List.length a) : Int))))) (Prod.fst (gp a (Int.toNat b))) (Prod.snd (gp a (Int.toNat b))))) (vec_Right_1 (vec_Sub_0 (Prod.fst (gp a (Int.toNat (Int.tmod (Go.IntKind.wrap Go.IntKind.i64 (HAdd.hAdd b (1 : Int))) (Nat.cast (List.length a) : Int))))) (Prod.snd (gp a (Int.toNat (Int.tmod (Go.IntKind.wrap Go.IntKind.i64 (HAdd.hAdd b (1 : Int))) (Nat.cast (List.length a) : Int))))) (Prod.fst (gp a (Int.toNat b))) (Prod.snd (gp a (Int.toNat b)))) (vec_Sub_1 (Prod.fst (gp a (Int.toNat (Int.tmod (Go.IntKind.wrap Go.IntKind.i64 (HAdd.hAdd b (1 : Int))) (Nat.cast (List.length a) : Int))))) (Prod.snd (gp a (Int.toNat (Int.tmod (Go.IntKind.wrap Go.IntKind.i64 (HAdd.hAdd b (1 : Int))) (Nat.cast (List.length a) : Int))))) (Prod.fst (gp a (Int.toNat b))) (Prod.snd (gp a (Int.toNat b))))))), (.flt (vec_Unit_1 (vec_Right_0 (vec_Sub_0 (Prod.fst (gp a (Int.toNat (Int.tmod (Go.IntKind.wrap Go.IntKind.i64 (HAdd.hAdd b (1 : Int))) (Nat.cast (List.length a) : Int))))) (Prod.snd (gp a (Int.toNat (Int.tmod (Go.IntKind.wrap Go.IntKind.i64 (HAdd.hAdd b (1 : Int))) (Nat.cast (List.length a) : Int))))) (Prod.fst (gp a (Int.toNat b))) (Prod.snd (gp a (Int.toNat b)))) (vec_Sub_1 (Prod.fst (gp a (Int.toNat (Int.tmod (Go.IntKind.wrap Go.IntKind.i64 (HAdd.hAdd b (1 : Int))) (Nat.cast (List.length a) : Int))))) (Prod.snd (gp a (Int.toNat (Int.tmod (Go.IntKind.wrap Go.IntKind.i64 (HAdd.hAdd b (1 : Int))) (Nat.cast (List.length a) : Int))))) (Prod.fst (gp a (Int.toNat b))) (Prod.snd (gp a (Int.toNat b))))) (vec_Right_1 (vec_Sub_0 (Prod.fst (gp a (Int.toNat (Int.tmod (Go.IntKind.wrap Go.IntKind.i64 (HAdd.hAdd b (1 : Int))) (Nat.cast (List.length a) : Int))))) (Prod.snd (gp a (Int.toNat (Int.tmod (Go.IntKind.wrap Go.IntKind.i64 (HAdd.hAdd b (1 : Int))) (Nat.cast (List.length a) : Int))))) (Prod.fst (gp a (Int.toNat b))) (Prod.snd (gp a (Int.toNat b)))) (vec_Sub_1 (Prod.fst (gp a (Int.toNat (Int.tmod (Go.IntKind.wrap Go.IntKind.i64 (HAdd.hAdd b (1 : Int))) (Nat.cast (List.length a) : Int))))) (Prod.snd (gp a (Int.toNat (Int.tmod (Go.IntKind.wrap Go.IntKind.i64 (HAdd.hAdd b (1 : Int))) (Nat.cast (List.length a) : Int))))) (Prod.fst (gp a (Int.toNat b))) (Prod.snd (gp a (Int.toNat b)))))))]))) (some (AT.av (.agg [(.flt (vec_Unit_0 (vec_Right_0 (vec_Sub_0 (Prod.fst (gp a (Int.toNat (Int.tmod (Go.IntKind.wrap Go.IntKind.i64 (HAdd.hAdd b (1 : Int))) (Nat.cast (List.length a) : Int))))) (Prod.snd (gp a (Int.toNat (Int.tmod (Go.IntKind.wrap Go.IntKind.i64 (HAdd.hAdd b (1 : Int))) (Nat.cast (List.length a) : Int))))) (Prod.fst (gp a (Int.toNat b))) (Prod.snd (gp a (Int.toNat b)))) (vec_Sub_1 (Prod.fst (gp a (Int.toNat (Int.tmod (Go.IntKind.wrap Go.IntKind.i64 (HAdd.hAdd b (1 : Int))) (Nat.cast (List.length a) : Int))))) (Prod.snd (gp a (Int.toNat (Int.tmod (Go.IntKind.wrap Go.IntKind.i64 (HAdd.hAdd b (1 : Int))) (Nat.cast (List.length a) : Int))))) (Prod.fst (gp a (Int.toNat b))) (Prod.snd (gp a (Int.toNat b))))) (vec_Right_1 (vec_Sub_0 (Prod.fst (gp a (Int.toNat (Int.tmod (Go.IntKind.wrap Go.IntKind.i64 (HAdd.hAdd b (1 : Int))) (Nat.cast (List.length a) : Int))))) (Prod.snd (gp a (Int.toNat (Int.tmod (Go.IntKind.wrap Go.IntKind.i64 (HAdd.hAdd b (1 : Int))) (Nat.cast (List.length a) : Int))))) (Prod.fst (gp a (Int.toNat b))) (Prod.snd (gp a (Int.toNat b)))) (vec_Sub_1 (Prod.fst (gp a (Int.toNat (Int.tmod (Go.IntKind.wrap Go.IntKind.i64 (HAdd.hAdd b (1 : Int))) (Nat.cast (List.length a) : Int))))) (Prod.snd (gp a (Int.toNat (Int.tmod (Go.IntKind.wrap Go.IntKind.i64 (HAdd.hAdd b (1 : Int))) (Nat.cast (List.length a) : Int))))) (Prod.fst (gp a (Int.toNat b))) (Prod.snd (gp a (Int.toNat b))))))), (.flt (vec_Unit_1 (vec_Right_0 (vec_Sub_0 (Prod.fst (gp a (Int.toNat (Int.tmod (Go.IntKind.wrap Go.IntKind.i64 (HAdd.hAdd b (1 : Int))) (Nat.cast (List.length a) : Int))))) (Prod.snd (gp a (Int.toNat (Int.tmod (Go.IntKind.wrap Go.IntKind.i64 (HAdd.hAdd b (1 : Int))) (Nat.cast (List.length a) : Int))))) (Prod.fst (gp a (Int.toNat b))) (Prod.snd (gp a (Int.toNat b)))) (vec_Sub_1 (Prod.fst (gp a (Int.toNat (Int.tmod (Go.IntKind.wrap Go.IntKind.i64 (HAdd.hAdd b (1 : Int))) (Nat.cast (List.length a) : Int))))) (Prod.snd (gp a (Int.toNat (Int.tmod (Go.IntKind.wrap Go.IntKind.i64 (HAdd.hAdd b (1 : Int))) (Nat.cast (List.length a) : Int))))) (Prod.fst (gp a (Int.toNat b))) (Prod.snd (gp a (Int.toNat b))))) (vec_Right_1 (vec_Sub_0 (Prod.fst (gp a (Int.toNat (Int.tmod (Go.IntKind.wrap Go.IntKind.i64 (HAdd.hAdd b (1 : Int))) (Nat.cast (List.length a) : Int))))) (Prod.snd (gp a (Int.toNat (Int.tmod (Go.IntKind.wrap Go.IntKind.i64 (HAdd.hAdd b (1 : Int))) (Nat.cast (List.length a) : Int))))) (Prod.fst (gp a (Int.toNat b))) (Prod.snd (gp a (Int.toNat b)))) (vec_Sub_1 (Prod.fst (gp a (Int.toNat (Int.tmod (Go.IntKind.wrap Go.IntKind.i64 (HAdd.hAdd b (1 : Int))) (Nat.cast (List.length a) : Int))))) (Prod.snd (gp a (Int.toNat (Int.tmod (Go.IntKind.wrap Go.IntKind.i64 (HAdd.hAdd b (1 : Int))) (Nat.cast (List.length a) : Int))))) (Prod.fst (gp a (Int.toNat b))) (Prod.snd (gp a (Int.toNat b)))))))])))) (none)) (none))
  | _ => none
def e94 : Ent := ⟨d94, fun l K => match l with
  | [.av (.one (.sl a)), .av (.one (.int .i64 b))] => cond (Decidable.decide (Eq (Nat.cast (List.length a) : Int) (0 : Int))) (False) (cond (inRange (Int.tmod (Go.IntKind.wrap Go.IntKind.i64 (HAdd.hAdd b (1 : Int))) (Nat.cast (List.length a) : Int)) (List.length a)) (cond (inRange b (List.length a)) (cond (vec_Unit_2 (vec_Right_0 (vec_Sub_0 (Prod.fst (gp a (Int.toNat (Int.tmod (Go.IntKind.wrap Go.IntKind.i64 (HAdd.hAdd b (1 : Int))) (Nat.cast (List.length a) : Int))))) (Prod.snd (gp a (Int.toNat (Int.tmod (Go.IntKind.wrap Go.IntKind.i64 (HAdd.hAdd b (1 : Int))) (Nat.cast (List.length a) : Int))))) (Prod.fst (gp a (Int.toNat b))) (Prod.snd (gp a (Int.toNat b)))) (vec_Sub_1 (Prod.fst (gp a (Int.toNat (Int.tmod (Go.IntKind.wrap Go.IntKind.i64 (HAdd.hAdd b (1 : Int))) (Nat.cast (List.length a) : Int))))) (Prod.snd (gp a (Int.toNat (Int.tmod (Go.IntKind.wrap Go.IntKind.i64 (HAdd.hAdd b (1 : Int))) (Nat.cast (List.length a) : Int))))) (Prod.fst (gp a (Int.toNat b))) (Prod.snd (gp a (Int.toNat b))))) (vec_Right_1 (vec_Sub_0 (Prod.fst (gp a (Int.toNat (Int.tmod (Go.IntKind.wrap Go.IntKind.i64 (HAdd.hAdd b (1 : Int))) (Nat.cast (List.length a) : Int))))) (Prod.snd (gp a (Int.toNat (Int.tmod (Go.IntKind.wrap Go.IntKind.i64 (HAdd.hAdd b (1 : Int))) (Nat.cast (List.length a) : Int))))) (Prod.fst (gp a (Int.toNat b))) (Prod.snd (gp a (Int.toNat b)))) (vec_Sub_1 (Prod.fst (gp a (Int.toNat (Int.tmod (Go.IntKind.wrap Go.IntKind.i64 (HAdd.hAdd b (1 : Int))) (Nat.cast (List.length a) : Int))))) (Prod.snd (gp a (Int.toNat (Int.tmod (Go.IntKind.wrap Go.IntKind.i64 (HAdd.hAdd b (1 : Int))) (Nat.cast (List.length a) : Int))))) (Prod.fst (gp a (Int.toNat b))) (Prod.snd (gp a (Int.toNat b)))))) (K (AT.av (.agg [(.flt (vec_Unit_0 (vec_Right_0 (vec_Sub_0 (Prod.fst (gp a (Int.toNat (Int.tmod (Go.IntKind.wrap Go.IntKind.i64 (HAdd.hAdd b (1 : Int))) (Nat.cast (List.length a) : Int))))) (Prod.snd (gp a (Int.toNat (Int.tmod (Go.IntKind.wrap Go.IntKind.i64 (HAdd.hAdd b (1 : Int))) (Nat.cast (List.length a) : Int))))) (Prod.fst (gp a (Int.toNat b))) (Prod.snd (gp a (Int.toNat b)))) (vec_Sub_1 (Prod.fst (gp a (Int.toNat (Int.tmod (Go.IntKind.wrap Go.IntKind.i64 (HAdd.hAdd b (1 : Int))) (Nat.cast (List.length a) : Int))))) (Prod.snd (gp a (Int.toNat (Int.tmod (Go.IntKind.wrap Go.IntKind.i64 (HAdd.hAdd b (1 : Int))) (Nat.cast (List.length a) : Int))))) (Prod.fst (gp a (Int.toNat b))) (Prod.snd (gp a (Int.toNat b))))) (vec_Right_1 (vec_Sub_0 (Prod.fst (gp a (Int.toNat (Int.tmod (Go.IntKind.wrap Go.IntKind.i64 (HAdd.hAdd b (1 : Int))) (Nat.cast (List.length a) : Int))))) (Prod.snd (gp a (Int.toNat (Int.tmod (Go.IntKind.wrap Go.IntKind.i64 (HAdd.hAdd b (1 : Int))) (Nat.cast (List.length a) : Int))))) (Prod.fst (gp a (Int.toNat b))) (Prod.snd (gp a (Int.toNat b)))) (vec_Sub_1 (Prod.fst (gp a (Int.toNat (Int.tmod (Go.IntKind.wrap Go.IntKind.i64 (HAdd.hAdd b (1 : Int))) (Nat.cast (List.length a) : Int))))) (Prod.snd (gp a (Int.toNat (Int.tmod (Go.IntKind.wrap Go.IntKind.i64 (HAdd.hAdd b (1 : Int))) (Nat.cast (List.length a) : Int))))) (Prod.fst (gp a (Int.toNat b))) (Prod.snd (gp a (Int.toNat b))))))), (.flt (vec_Unit_1 (vec_Right_0 (vec_Sub_0 (Prod.fst (gp a (Int.toNat (Int.tmod (Go.IntKind.wrap Go.IntKind.i64 (HAdd.hAdd b (1 : Int))) (Nat.cast (List.length a) : Int))))) (Prod.snd (gp a (Int.toNat (Int.tmod (Go.IntKind.wrap Go.IntKind.i64 (HAdd.hAdd b (1 : Int))) (Nat.cast (List.length a) : Int))))) (Prod.fst (gp a (Int.toNat b))) (Prod.snd (gp a (Int.toNat b)))) (vec_Sub_1 (Prod.fst (gp a (Int.toNat (Int.tmod (Go.IntKind.wrap Go.IntKind.i64 (HAdd.hAdd b (1 : Int))) (Nat.cast (List.length a) : Int))))) (Prod.snd (gp a (Int.toNat (Int.tmod (Go.IntKind.wrap Go.IntKind.i64 (HAdd.hAdd b (1 : Int))) (Nat.cast (List.length a) : Int))))) (Prod.fst (gp a (Int.toNat b))) (Prod.snd (gp a (Int.toNat b))))) (vec_Right_1 (vec_Sub_0 (Prod.fst (gp a (Int.toNat (Int.tmod (Go.IntKind.wrap Go.IntKind.i64 (HAdd.hAdd b (1 : Int))) (Nat.cast (List.length a) : Int))))) (Prod.snd (gp a (Int.toNat (Int.tmod (Go.IntKind.wrap Go.IntKind.i64 (HAdd.hAdd b (1 : Int))) (Nat.cast (List.length a) : Int))))) (Prod.fst (gp a (Int.toNat b))) (Prod.snd (gp a (Int.toNat b)))) (vec_Sub_1 (Prod.fst (gp a (Int.toNat (Int.tmod (Go.IntKind.wrap Go.IntKind.i64 (HAdd.hAdd b (1 : Int))) (Nat.cast (List.length a) : Int))))) (Prod.snd (gp a (Int.toNat (Int.tmod (Go.IntKind.wrap Go.IntKind.i64 (HAdd.hAdd b (1 : Int))) (Nat.cast (List.length a) : Int))))) (Prod.fst (gp a (Int.toNat b))) (Prod.snd (gp a (Int.toNat b)))))))]))) (K (AT.av (.agg [(.flt (vec_Unit_0 (vec_Right_0 (vec_Sub_0 (Prod.fst (gp a (Int.toNat (Int.tmod (Go.IntKind.wrap Go.IntKind.i64 (HAdd.hAdd b (1 : Int))) (Nat.cast (List.length a) : Int))))) (Prod.snd (gp a (Int.toNat (Int.tmod (Go.IntKind.wrap Go.IntKind.i64 (HAdd.hAdd b (1 : Int))) (Nat.cast (List.length a) : Int))))) (Prod.fst (gp a (Int.toNat b))) (Prod.snd (gp a (Int.toNat b)))) (vec_Sub_1 (Prod.fst (gp a (Int.toNat (Int.tmod (Go.IntKind.wrap Go.IntKind.i64 (HAdd.hAdd b (1 : Int))) (Nat.cast (List.length a) : Int))))) (Prod.snd (gp a (Int.toNat (Int.tmod (Go.IntKind.wrap Go.IntKind.i64 (HAdd.hAdd b (1 : Int))) (Nat.cast (List.length a) : Int))))) (Prod.fst (gp a (Int.toNat b))) (Prod.snd (gp a (Int.toNat b))))) (vec_Right_1 (vec_Sub_0 (Prod.fst (gp a (Int.toNat (Int.tmod (Go.IntKind.wrap Go.IntKind.i64 (HAdd.hAdd b (1 : Int))) (Nat.cast (List.length a) : Int))))) (Prod.snd (gp a (Int.toNat (Int.tmod (Go.IntKind.wrap Go.IntKind.i64 (HAdd.hAdd b (1 : Int))) (Nat.cast (List.length a) : Int))))) (Prod.fst (gp a (Int.toNat b))) (Prod.snd (gp a (Int.toNat b)))) (vec_Sub_1 (Prod.fst (gp a (Int.toNat (Int.tmod (Go.IntKind.wrap Go.IntKind.i64 (HAdd.hAdd b (1 : Int))) (Nat.cast (List.length a) : Int))))) (Prod.snd (gp a (Int.toNat (Int.tmod (Go.IntKind.wrap Go.IntKind.i64 (HAdd.hAdd b (1 : Int))) (Nat.cast (List.length a) : Int))))) (Prod.fst (gp a (Int.toNat b))) (Prod.snd (gp a (Int.toNat b))))))), (.flt (vec_Unit_1 (vec_Right_0 (vec_Sub_0 (Prod.fst (gp a (Int.toNat (Int.tmod (Go.IntKind.wrap Go.IntKind.i64 (HAdd.hAdd b (1 : Int))) (Nat.cast (List.length a) : Int))))) (Prod.snd (gp a (Int.toNat (Int.tmod (Go.IntKind.wrap Go.IntKind.i64 (HAdd.hAdd b (1 : Int))) (Nat.cast (List.length a) : Int))))) (Prod.fst (gp a (Int.toNat b))) (Prod.snd (gp a (Int.toNat b)))) (vec_Sub_1 (Prod.fst (gp a (Int.toNat (Int.tmod (Go.IntKind.wrap Go.IntKind.i64 (HAdd.hAdd b (1 : Int))) (Nat.cast (List.length a) : Int))))) (Prod.snd (gp a (Int.toNat (Int.tmod (Go.IntKind.wrap Go.IntKind.i64 (HAdd.hAdd b (1 : Int))) (Nat.cast (List.length a) : Int))))) (Prod.fst (gp a (Int.toNat b))) (Prod.snd (gp a (Int.toNat b))))) (vec_Right_1 (vec_Sub_0 (Prod.fst (gp a (Int.toNat (Int.tmod (Go.IntKind.wrap Go.IntKind.i64 (HAdd.hAdd b (1 : Int))) (Nat.cast (List.length a) : Int))))) (Prod.snd (gp a (Int.toNat (Int.tmod (Go.IntKind.wrap Go.IntKind.i64 (HAdd.hAdd b (1 : Int))) (Nat.cast (List.length a) : Int))))) (Prod.fst (gp a (Int.toNat b))) (Prod.snd (gp a (Int.toNat b)))) (vec_Sub_1 (Prod.fst (gp a (Int.toNat (Int.tmod (Go.IntKind.wrap Go.IntKind.i64 (HAdd.hAdd b (1 : Int))) (Nat.cast (List.length a) : Int))))) (Prod.snd (gp a (Int.toNat (Int.tmod (Go.IntKind.wrap Go.IntKind.i64 (HAdd.hAdd b (1 : Int))) (Nat.cast (List.length a) : Int))))) (Prod.fst (gp a (Int.toNat b))) (Prod.snd (gp a (Int.toNat b)))))))])))) (False)) (False))
  | _ => False⟩
theorem k94 (l : List AT) (K : AT → Prop) (h : e94.k l K) : ∃ r, e94.d l = some r ∧ K r := by
  simp only [e94] at h ⊢
  unfold d94
  split at h
  · rename_i a b
    revert h
    cases (Decidable.decide (Eq (Nat.cast (List.length a) : Int) (0 : Int))) with
    | true =>
        intro h; exact h.elim
    | false =>
        cases (inRange (Int.tmod (Go.IntKind.wrap Go.IntKind.i64 (HAdd.hAdd b (1 : Int))) (Nat.cast (List.length a) : Int)) (List.length a)) with
        | true =>
            cases (inRange b (List.length a)) with
            | true =>
                cases (vec_Unit_2 (vec_Right_0 (vec_Sub_0 (Prod.fst (gp a (Int.toNat (Int.tmod (Go.IntKind.wrap Go.IntKind.i64 (HAdd.hAdd b (1 : Int))) (Nat.cast (List.length a) : Int))))) (Prod.snd (gp a (Int.toNat (Int.tmod (Go.IntKind.wrap Go.IntKind.i64 (HAdd.hAdd b (1 : Int))) (Nat.cast (List.length a) : Int))))) (Prod.fst (gp a (Int.toNat b))) (Prod.snd (gp a (Int.toNat b)))) (vec_Sub_1 (Prod.fst (gp a (Int.toNat (Int.tmod (Go.IntKind.wrap Go.IntKind.i64 (HAdd.hAdd b (1 : Int))) (Nat.cast (List.length a) : Int))))) (Prod.snd (gp a (Int.toNat (Int.tmod (Go.IntKind.wrap Go.IntKind.i64 (HAdd.hAdd b (1 : Int))) (Nat.cast (List.length a) : Int))))) (Prod.fst (gp a (Int.toNat b))) (Prod.snd (gp a (Int.toNat b))))) (vec_Right_1 (vec_Sub_0 (Prod.fst (gp a (Int.toNat (Int.tmod (Go.IntKind.wrap Go.IntKind.i64 (HAdd.hAdd b (1 : Int))) (Nat.cast (List.length a) : Int))))) (Prod.snd (gp a (Int.toNat (Int.tmod (Go.IntKind.wrap Go.IntKind.i64 (HAdd.hAdd b (1 : Int))) (Nat.cast (List.length a) : Int))))) (Prod.fst (gp a (Int.toNat b))) (Prod.snd (gp a (Int.toNat b)))) (vec_Sub_1 (Prod.fst (gp a (Int.toNat (Int.tmod (Go.IntKind.wrap Go.IntKind.i64 (HAdd.hAdd b (1 : Int))) (Nat.cast (List.length a) : Int))))) (Prod.snd (gp a (Int.toNat (Int.tmod (Go.IntKind.wrap Go.IntKind.i64 (HAdd.hAdd b (1 : Int))) (Nat.cast (List.length a) : Int))))) (Prod.fst (gp a (Int.toNat b))) (Prod.snd (gp a (Int.toNat b)))))) with
                | true =>
                    intro h; exact ⟨_, rfl, h⟩
                | false =>
                    intro h; exact ⟨_, rfl, h⟩
            | false =>
                intro h; exact h.elim
        | false =>
            intro h; exact h.elim
  · exact h.elim
theorem c94 : CallOk Pr 94 e94 := by
  refine callOk_auto (T := tb 16 [(42, e42), (53, e53), (91, e91)] [] []) (tb_ok (fnCons c42 (fnCons c53 (fnCons c91 (fnNil _)))) (fnBNil _)) Try.func94 rfl (by decide) rfl rfl k94 ?_
  intro l r h hb
  change d94 l = some r at h
  unfold d94 at h
  split at h
  · rename_i a b
    have key : (Nat.ble 2 Try.f94.ntmps = true ∧ noNmT [r] = true ∧ (cond (Decidable.decide (Eq (Nat.cast (List.length a) : Int) (0 : Int))) (False) (cond (inRange (Int.tmod (Go.IntKind.wrap Go.IntKind.i64 (HAdd.hAdd b (1 : Int))) (Nat.cast (List.length a) : Int)) (List.length a)) (cond (inRange b (List.length a)) (cond (vec_Unit_2 (vec_Right_0 (vec_Sub_0 (Prod.fst (gp a (Int.toNat (Int.tmod (Go.IntKind.wrap Go.IntKind.i64 (HAdd.hAdd b (1 : Int))) (Nat.cast (List.length a) : Int))))) (Prod.snd (gp a (Int.toNat (Int.tmod (Go.IntKind.wrap Go.IntKind.i64 (HAdd.hAdd b (1 : Int))) (Nat.cast (List.length a) : Int))))) (Prod.fst (gp a (Int.toNat b))) (Prod.snd (gp a (Int.toNat b)))) (vec_Sub_1 (Prod.fst (gp a (Int.toNat (Int.tmod (Go.IntKind.wrap Go.IntKind.i64 (HAdd.hAdd b (1 : Int))) (Nat.cast (List.length a) : Int))))) (Prod.snd (gp a (Int.toNat (Int.tmod (Go.IntKind.wrap Go.IntKind.i64 (HAdd.hAdd b (1 : Int))) (Nat.cast (List.length a) : Int))))) (Prod.fst (gp a (Int.toNat b))) (Prod.snd (gp a (Int.toNat b))))) (vec_Right_1 (vec_Sub_0 (Prod.fst (gp a (Int.toNat (Int.tmod (Go.IntKind.wrap Go.IntKind.i64 (HAdd.hAdd b (1 : Int))) (Nat.cast (List.length a) : Int))))) (Prod.snd (gp a (Int.toNat (Int.tmod (Go.IntKind.wrap Go.IntKind.i64 (HAdd.hAdd b (1 : Int))) (Nat.cast (List.length a) : Int))))) (Prod.fst (gp a (Int.toNat b))) (Prod.snd (gp a (Int.toNat b)))) (vec_Sub_1 (Prod.fst (gp a (Int.toNat (Int.tmod (Go.IntKind.wrap Go.IntKind.i64 (HAdd.hAdd b (1 : Int))) (Nat.cast (List.length a) : Int))))) (Prod.snd (gp a (Int.toNat (Int.tmod (Go.IntKind.wrap Go.IntKind.i64 (HAdd.hAdd b (1 : Int))) (Nat.cast (List.length a) : Int))))) (Prod.fst (gp a (Int.toNat b))) (Prod.snd (gp a (Int.toNat b)))))) (AT.av (.agg [(.flt (vec_Unit_0 (vec_Right_0 (vec_Sub_0 (Prod.fst (gp a (Int.toNat (Int.tmod (Go.IntKind.wrap Go.IntKind.i64 (HAdd.hAdd b (1 : Int))) (Nat.cast (List.length a) : Int))))) (Prod.snd (gp a (Int.toNat (Int.tmod (Go.IntKind.wrap Go.IntKind.i64 (HAdd.hAdd b (1 : Int))) (Nat.cast (List.length a) : Int))))) (Prod.fst (gp a (Int.toNat b))) (Prod.snd (gp a (Int.toNat b)))) (vec_Sub_1 (Prod.fst (gp a (Int.toNat (Int.tmod (Go.IntKind.wrap Go.IntKind.i64 (HAdd.hAdd b (1 : Int))) (Nat.cast (List.length a) : Int))))) (Prod.snd (gp a (Int.toNat (Int.tmod (Go.IntKind.wrap Go.IntKind.i64 (HAdd.hAdd b (1 : Int))) (Nat.cast (List.length a) : Int))))) (Prod.fst (gp a (Int.toNat b))) (Prod.snd (gp a (Int.toNat b))))) (vec_Right_1 (vec_Sub_0 (Prod.fst (gp a (Int.toNat (Int.tmod (Go.IntKind.wrap Go.IntKind.i64 (HAdd.hAdd b (1 : Int))) (Nat.cast (List.length a) : Int))))) (Prod.snd (gp a (Int.toNat (Int.tmod (Go.IntKind.wrap Go.IntKind.i64 (HAdd.hAdd b (1 : Int))) (Nat.cast (List.length a) : Int))))) (Prod.fst (gp a (Int.toNat b))) (Prod.snd (gp a (Int.toNat b)))) (vec_Sub_1 (Prod.fst (gp a (Int.toNat (Int.tmod (Go.IntKind.wrap Go.IntKind.i64 (HAdd.hAdd b (1 : Int))) (Nat.cast (List.length a) : Int))))) (Prod.snd (gp a (Int.toNat (Int.tmod (Go.IntKind.wrap Go.IntKind.i64 (HAdd.hAdd b (1 : Int))) (Nat.cast (List.length a) : Int))))) (Prod.fst (gp a (Int.toNat b))) (Prod.snd (gp a (Int.toNat b))))))), (.flt (vec_Unit_1 (vec_Right_0 (vec_Sub_0 (Prod.fst (gp a (Int.toNat (Int.tmod (Go.IntKind.wrap Go.IntKind.i64 (HAdd.hAdd b (1 : Int))) (Nat.cast (List.length a) : Int))))) (Prod.snd (gp a (Int.toNat (Int.tmod (Go.IntKind.wrap Go.IntKind.i64 (HAdd.hAdd b (1 : Int))) (Nat.cast (List.length a) : Int))))) (Prod.fst (gp a (Int.toNat b))) (Prod.snd (gp a (Int.toNat b)))) (vec_Sub_1 (Prod.fst (gp a (Int.toNat (Int.tmod (Go.IntKind.wrap Go.IntKind.i64 (HAdd.hAdd b (1 : Int))) (Nat.cast (List.length a) : Int))))) (Prod.snd (gp a (Int.toNat (Int.tmod (Go.IntKind.wrap Go.IntKind.i64 (HAdd.hAdd b (1 : Int))) (Nat.cast (List.length a) : Int))))) (Prod.fst (gp a (Int.toNat b))) (Prod.snd (gp a (Int.toNat b))))) (vec_Right_1 (vec_Sub_0 (Prod.fst (gp a (Int.toNat (Int.tmod (Go.IntKind.wrap Go.IntKind.i64 (HAdd.hAdd b (1 : Int))) (Nat.cast (List.length a) : Int))))) (Prod.snd (gp a (Int.toNat (Int.tmod (Go.IntKind.wrap Go.IntKind.i64 (HAdd.hAdd b (1 : Int))) (Nat.cast (List.length a) : Int))))) (Prod.fst (gp a (Int.toNat b))) (Prod.snd (gp a (Int.toNat b)))) (vec_Sub_1 (Prod.fst (gp a (Int.toNat (Int.tmod (Go.IntKind.wrap Go.IntKind.i64 (HAdd.hAdd b (1 : Int))) (Nat.cast (List.length a) : Int))))) (Prod.snd (gp a (Int.toNat (Int.tmod (Go.IntKind.wrap Go.IntKind.i64 (HAdd.hAdd b (1 : Int))) (Nat.cast (List.length a) : Int))))) (Prod.fst (gp a (Int.toNat b))) (Prod.snd (gp a (Int.toNat b)))))))]) = r) (AT.av (.agg [(.flt (vec_Unit_0 (vec_Right_0 (vec_Sub_0 (Prod.fst (gp a (Int.toNat (Int.tmod (Go.IntKind.wrap Go.IntKind.i64 (HAdd.hAdd b (1 : Int))) (Nat.cast (List.length a) : Int))))) (Prod.snd (gp a (Int.toNat (Int.tmod (Go.IntKind.wrap Go.IntKind.i64 (HAdd.hAdd b (1 : Int))) (Nat.cast (List.length a) : Int))))) (Prod.fst (gp a (Int.toNat b))) (Prod.snd (gp a (Int.toNat b)))) (vec_Sub_1 (Prod.fst (gp a (Int.toNat (Int.tmod (Go.IntKind.wrap Go.IntKind.i64 (HAdd.hAdd b (1 : Int))) (Nat.cast (List.length a) : Int))))) (Prod.snd (gp a (Int.toNat (Int.tmod (Go.IntKind.wrap Go.IntKind.i64 (HAdd.hAdd b (1 : Int))) (Nat.cast (List.length a) : Int))))) (Prod.fst (gp a (Int.toNat b))) (Prod.snd (gp a (Int.toNat b))))) (vec_Right_1 (vec_Sub_0 (Prod.fst (gp a (Int.toNat (Int.tmod (Go.IntKind.wrap Go.IntKind.i64 (HAdd.hAdd b (1 : Int))) (Nat.cast (List.length a) : Int))))) (Prod.snd (gp a (Int.toNat (Int.tmod (Go.IntKind.wrap Go.IntKind.i64 (HAdd.hAdd b (1 : Int))) (Nat.cast (List.length a) : Int))))) (Prod.fst (gp a (Int.toNat b))) (Prod.snd (gp a (Int.toNat b)))) (vec_Sub_1 (Prod.fst (gp a (Int.toNat (Int.tmod (Go.IntKind.wrap Go.IntKind.i64 (HAdd.hAdd b (1 : Int))) (Nat.cast (List.length a) : Int))))) (Prod.snd (gp a (Int.toNat (Int.tmod (Go.IntKind.wrap Go.IntKind.i64 (HAdd.hAdd b (1 : Int))) (Nat.cast (List.length a) : Int))))) (Prod.fst (gp a (Int.toNat b))) (Prod.snd (gp a (Int.toNat b))))))), (.flt (vec_Unit_1 (vec_Right_0 (vec_Sub_0 (Prod.fst (gp a (Int.toNat (Int.tmod (Go.IntKind.wrap Go.IntKind.i64 (HAdd.hAdd b (1 : Int))) (Nat.cast (List.length a) : Int))))) (Prod.snd (gp a (Int.toNat (Int.tmod (Go.IntKind.wrap Go.IntKind.i64 (HAdd.hAdd b (1 : Int))) (Nat.cast (List.length a) : Int))))) (Prod.fst (gp a (Int.toNat b))) (Prod.snd (gp a (Int.toNat b)))) (vec_Sub_1 (Prod.fst (gp a (Int.toNat (Int.tmod (Go.IntKind.wrap Go.IntKind.i64 (HAdd.hAdd b (1 : Int))) (Nat.cast (List.length a) : Int))))) (Prod.snd (gp a (Int.toNat (Int.tmod (Go.IntKind.wrap Go.IntKind.i64 (HAdd.hAdd b (1 : Int))) (Nat.cast (List.length a) : Int))))) (Prod.fst (gp a (Int.toNat b))) (Prod.snd (gp a (Int.toNat b))))) (vec_Right_1 (vec_Sub_0 (Prod.fst (gp a (Int.toNat (Int.tmod (Go.IntKind.wrap Go.IntKind.i64 (HAdd.hAdd b (1 : Int))) (Nat.cast (List.length a) : Int))))) (Prod.snd (gp a (Int.toNat (Int.tmod (Go.IntKind.wrap Go.IntKind.i64 (HAdd.hAdd b (1 : Int))) (Nat.cast (List.length a) : Int))))) (Prod.fst (gp a (Int.toNat b))) (Prod.snd (gp a (Int.toNat b)))) (vec_Sub_1 (Prod.fst (gp a (Int.toNat (Int.tmod (Go.IntKind.wrap Go.IntKind.i64 (HAdd.hAdd b (1 : Int))) (Nat.cast (List.length a) : Int))))) (Prod.snd (gp a (Int.toNat (Int.tmod (Go.IntKind.wrap Go.IntKind.i64 (HAdd.hAdd b (1 : Int))) (Nat.cast (List.length a) : Int))))) (Prod.fst (gp a (Int.toNat b))) (Prod.snd (gp a (Int.toNat b)))))))]) = r)) (False)) (False)))) := by
      revert h
      cases hc1 : (Decidable.decide (Eq (Nat.cast (List.length a) : Int) (0 : Int))) with
      | true =>
          intro h; cases h
      | false =>
          cases hc2 : (inRange (Int.tmod (Go.IntKind.wrap Go.IntKind.i64 (HAdd.hAdd b (1 : Int))) (Nat.cast (List.length a) : Int)) (List.length a)) with
          | true =>
              cases hc3 : (inRange b (List.length a)) with
              | true =>
                  cases hc4 : (vec_Unit_2 (vec_Right_0 (vec_Sub_0 (Prod.fst (gp a (Int.toNat (Int.tmod (Go.IntKind.wrap Go.IntKind.i64 (HAdd.hAdd b (1 : Int))) (Nat.cast (List.length a) : Int))))) (Prod.snd (gp a (Int.toNat (Int.tmod (Go.IntKind.wrap Go.IntKind.i64 (HAdd.hAdd b (1 : Int))) (Nat.cast (List.length a) : Int))))) (Prod.fst (gp a (Int.toNat b))) (Prod.snd (gp a (Int.toNat b)))) (vec_Sub_1 (Prod.fst (gp a (Int.toNat (Int.tmod (Go.IntKind.wrap Go.IntKind.i64 (HAdd.hAdd b (1 : Int))) (Nat.cast (List.length a) : Int))))) (Prod.snd (gp a (Int.toNat (Int.tmod (Go.IntKind.wrap Go.IntKind.i64 (HAdd.hAdd b (1 : Int))) (Nat.cast (List.length a) : Int))))) (Prod.fst (gp a (Int.toNat b))) (Prod.snd (gp a (Int.toNat b))))) (vec_Right_1 (vec_Sub_0 (Prod.fst (gp a (Int.toNat (Int.tmod (Go.IntKind.wrap Go.IntKind.i64 (HAdd.hAdd b (1 : Int))) (Nat.cast (List.length a) : Int))))) (Prod.snd (gp a (Int.toNat (Int.tmod (Go.IntKind.wrap Go.IntKind.i64 (HAdd.hAdd b (1 : Int))) (Nat.cast (List.length a) : Int))))) (Prod.fst (gp a (Int.toNat b))) (Prod.snd (gp a (Int.toNat b)))) (vec_Sub_1 (Prod.fst (gp a (Int.toNat (Int.tmod (Go.IntKind.wrap Go.IntKind.i64 (HAdd.hAdd b (1 : Int))) (Nat.cast (List.length a) : Int))))) (Prod.snd (gp a (Int.toNat (Int.tmod (Go.IntKind.wrap Go.IntKind.i64 (HAdd.hAdd b (1 : Int))) (Nat.cast (List.length a) : Int))))) (Prod.fst (gp a (Int.toNat b))) (Prod.snd (gp a (Int.toNat b)))))) with
                  | true =>
                      intro h; cases h; exact ⟨rfl, rfl, rfl⟩
                  | false =>
                      intro h; cases h; exact ⟨rfl, rfl, rfl⟩
              | false =>
                  intro h; cases h
          | false =>
              intro h; cases h
    exact ⟨key.1, key.2.1, by_kernel (by kernel_rfl) key.2.2⟩
  · cases h

end Go.Proofs.Ythopjahoaljhaaa.X

/-! ## poly.Has's loop. -/
set_option linter.unusedVariables false
set_option linter.unusedSimpArgs false
set_option maxRecDepth 100000
namespace Go.Proofs.Ythopjahoaljhaaa.X
open Go Go.RowKit

noncomputable def b19 : Code := ((loopsOf (Try.f19.body.getD .skip)).getD 0 .skip)
def vl19 : XE → List LV := fun
  | .n => [.t 0, .t 3, .b 3, .t 17, .t 18]
  | .r => [.t 4, .t 5]
  | _ => []

theorem t19 (l : List (Nat × Nat)) (x : Nat) (y : Nat) (i : Nat) (R : AT) (h : cond (Decidable.decide (LT.lt (Nat.cast i : Int) (Nat.cast (List.length l) : Int))) (cond (Decidable.decide (Eq (Nat.cast (List.length l) : Int) (0 : Int))) (False) (cond (inRange (Int.tmod (Go.IntKind.wrap Go.IntKind.i64 (HAdd.hAdd (Nat.cast i : Int) (1 : Int))) (Nat.cast (List.length l) : Int)) (List.length l)) (cond (inRange ((Nat.cast i : Int)) (List.length l)) (cond (inRange ((Nat.cast i : Int)) (List.length l)) (cond (fLt (vec_Cross (vec_Sub_0 (Prod.fst (gp l (Int.toNat (Int.tmod (Go.IntKind.wrap Go.IntKind.i64 (HAdd.hAdd (Nat.cast i : Int) (1 : Int))) (Nat.cast (List.length l) : Int))))) (Prod.snd (gp l (Int.toNat (Int.tmod (Go.IntKind.wrap Go.IntKind.i64 (HAdd.hAdd (Nat.cast i : Int) (1 : Int))) (Nat.cast (List.length l) : Int))))) (Prod.fst (gp l (Int.toNat (Nat.cast i : Int)))) (Prod.snd (gp l (Int.toNat (Nat.cast i : Int))))) (vec_Sub_1 (Prod.fst (gp l (Int.toNat (Int.tmod (Go.IntKind.wrap Go.IntKind.i64 (HAdd.hAdd (Nat.cast i : Int) (1 : Int))) (Nat.cast (List.length l) : Int))))) (Prod.snd (gp l (Int.toNat (Int.tmod (Go.IntKind.wrap Go.IntKind.i64 (HAdd.hAdd (Nat.cast i : Int) (1 : Int))) (Nat.cast (List.length l) : Int))))) (Prod.fst (gp l (Int.toNat (Nat.cast i : Int)))) (Prod.snd (gp l (Int.toNat (Nat.cast i : Int))))) (vec_Sub_0 x y (Prod.fst (gp l (Int.toNat (Nat.cast i : Int)))) (Prod.snd (gp l (Int.toNat (Nat.cast i : Int))))) (vec_Sub_1 x y (Prod.fst (gp l (Int.toNat (Nat.cast i : Int)))) (Prod.snd (gp l (Int.toNat (Nat.cast i : Int)))))) (0 : Nat)) (AT.tup [(.one (.int .i64 ((Nat.cast (codeX XE.r) : Int)))), (.one (.bool Bool.false)), (.one (.int .i64 ((0 : Int))))] = R) (AT.tup [(.one (.int .i64 ((Nat.cast (codeX XE.n) : Int)))), (.one (.sl l)), (.one (.lp ((3 : Nat)) ((0 : Nat)))), (.agg [(.flt x), (.flt y)]), (.one (.int .i64 ((Nat.cast (List.length l) : Int)))), (.one (.int .i64 (Go.IntKind.wrap Go.IntKind.i64 (HAdd.hAdd (Nat.cast i : Int) (1 : Int)))))] = R)) (False)) (False)) (False))) (AT.tup [(.one (.int .i64 ((Nat.cast (codeX (XE.x (0 : Nat))) : Int))))] = R)) : xcode (tb 33 [(13, e13), (17, e17), (28, e28), (53, e53), (54, e54)] [] []) b19 (mkS (vl19 .n) [.one (.sl l), .one (.lp 3 0), .agg [.flt x, .flt y], .one (.int .i64 l.length), .one (.int .i64 i)]) (fun e σ => obsT vl19 e σ = R) := by_kernel (q := cond (Decidable.decide (LT.lt (Nat.cast i : Int) (Nat.cast (List.length l) : Int))) (cond (Decidable.decide (Eq (Nat.cast (List.length l) : Int) (0 : Int))) (False) (cond (inRange (Int.tmod (Go.IntKind.wrap Go.IntKind.i64 (HAdd.hAdd (Nat.cast i : Int) (1 : Int))) (Nat.cast (List.length l) : Int)) (List.length l)) (cond (inRange ((Nat.cast i : Int)) (List.length l)) (cond (inRange ((Nat.cast i : Int)) (List.length l)) (cond (fLt (vec_Cross (vec_Sub_0 (Prod.fst (gp l (Int.toNat (Int.tmod (Go.IntKind.wrap Go.IntKind.i64 (HAdd.hAdd (Nat.cast i : Int) (1 : Int))) (Nat.cast (List.length l) : Int))))) (Prod.snd (gp l (Int.toNat (Int.tmod (Go.IntKind.wrap Go.IntKind.i64 (HAdd.hAdd (Nat.cast i : Int) (1 : Int))) (Nat.cast (List.length l) : Int))))) (Prod.fst (gp l (Int.toNat (Nat.cast i : Int)))) (Prod.snd (gp l (Int.toNat (Nat.cast i : Int))))) (vec_Sub_1 (Prod.fst (gp l (Int.toNat (Int.tmod (Go.IntKind.wrap Go.IntKind.i64 (HAdd.hAdd (Nat.cast i : Int) (1 : Int))) (Nat.cast (List.length l) : Int))))) (Prod.snd (gp l (Int.toNat (Int.tmod (Go.IntKind.wrap Go.IntKind.i64 (HAdd.hAdd (Nat.cast i : Int) (1 : Int))) (Nat.cast (List.length l) : Int))))) (Prod.fst (gp l (Int.toNat (Nat.cast i : Int)))) (Prod.snd (gp l (Int.toNat (Nat.cast i : Int))))) (vec_Sub_0 x y (Prod.fst (gp l (Int.toNat (Nat.cast i : Int)))) (Prod.snd (gp l (Int.toNat (Nat.cast i : Int))))) (vec_Sub_1 x y (Prod.fst (gp l (Int.toNat (Nat.cast i : Int)))) (Prod.snd (gp l (Int.toNat (Nat.cast i : Int)))))) (0 : Nat)) (AT.tup [(.one (.int .i64 ((Nat.cast (codeX XE.r) : Int)))), (.one (.bool Bool.false)), (.one (.int .i64 ((0 : Int))))] = R) (AT.tup [(.one (.int .i64 ((Nat.cast (codeX XE.n) : Int)))), (.one (.sl l)), (.one (.lp ((3 : Nat)) ((0 : Nat)))), (.agg [(.flt x), (.flt y)]), (.one (.int .i64 ((Nat.cast (List.length l) : Int)))), (.one (.int .i64 (Go.IntKind.wrap Go.IntKind.i64 (HAdd.hAdd (Nat.cast i : Int) (1 : Int)))))] = R)) (False)) (False)) (False))) (AT.tup [(.one (.int .i64 ((Nat.cast (codeX (XE.x (0 : Nat))) : Int))))] = R)) (by kernel_rfl) h

/-- Is a place not to the right of a side? -/
def hasF (l : List (Nat × Nat)) (x y i : Nat) : Bool :=
  !(fLt (vec_Cross (way0 l i) (way1 l i) (vec_Sub_0 x y (gp l i).1 (gp l i).2) (vec_Sub_1 x y (gp l i).1 (gp l i).2)) 0)
def s19 (σ : St) (K : XE → St → Prop) : Prop :=
  match getLVs σ (vl19 .n) with
  | some [.one (.sl l), .one (.lp 3 0), .agg [.flt x, .flt y], .one (.int .i64 n), .one (.int .i64 0)] =>
    n = l.length ∧ (bif allF (hasF l x y) 0 l.length then K (.x 0) ⟨[], []⟩ else K .r ⟨[(4, .av (.one (.bool false))), (5, .av (.one (.int .i64 0)))], []⟩)
  | _ => False
theorem lo19 : LoopOk Pr (tb 33 [(13, e13), (17, e17), (28, e28), (53, e53), (54, e54)] [] []) b19 s19 := by
  refine all_ok (tb_ok (fnCons c13 (fnCons c17 (fnCons c28 (fnCons c53 (fnCons c54 (fnNil _)))))) (fnBNil _)) (vl := vl19) (Ctx := List (Nat × Nat) × Nat × Nat)
    (enc := fun c i => [.one (.sl c.1), .one (.lp 3 0), .agg [.flt c.2.1, .flt c.2.2], .one (.int .i64 c.1.length), .one (.int .i64 i)])
    (N := fun c => c.1.length) (f := fun c => hasF c.1 c.2.1 c.2.2) (xd := 0) (done := fun _ => []) (bad := fun _ _ => [.one (.bool false), .one (.int .i64 0)])
    (pre := fun c => True) (noLoops (by kernel_rfl)) ?_ ?_ ?_
  · intro σ K h
    unfold s19 at h
    split at h
    · rename_i l x y n hg
      obtain ⟨rfl, h⟩ := h
      refine ⟨(l, x, y), 0, trivial, Nat.zero_le _, hg, ?_⟩
      cases ha : allF (hasF l x y) 0 l.length with
      | true => rw [ha] at h; rw [Nat.sub_zero, fstF_none ha]; exact h
      | false => rw [ha] at h; obtain ⟨j, hj⟩ := fstF_some ha; rw [Nat.sub_zero, hj]; exact h
    · exact h.elim
  · intro c i h
    exact ⟨rfl, rfl, rfl⟩
  · rintro ⟨l, x, y⟩ i _ hk hb
    have hl : l.length ≤ 8796093022208 := hb 0 l rfl
    dsimp only at hk ⊢
    apply t19
    rw [dlt, inRange_nat, Int.toNat_natCast]
    by_cases hi : i < l.length
    · have hm : (i + 1) % l.length < l.length := Nat.mod_lt _ (by omega)
      have hz : decide ((l.length : Int) = 0) = false := by rw [decide_eq_false_iff_not]; omega
      have hw : IntKind.i64.wrap ((i : Int) + 1) = ((i + 1 : Nat) : Int) := wrap_succ (by omega)
      rw [hz, hw, tmod_nat, inRange_nat, Int.toNat_natCast, decide_eq_true hm, decide_eq_true hi]
      simp only [hasF, way0, way1]
      cases fLt (vec_Cross (vec_Sub_0 (gp l ((i + 1) % l.length)).1 (gp l ((i + 1) % l.length)).2 (gp l i).1 (gp l i).2) (vec_Sub_1 (gp l ((i + 1) % l.length)).1 (gp l ((i + 1) % l.length)).2 (gp l i).1 (gp l i).2) (vec_Sub_0 x y (gp l i).1 (gp l i).2) (vec_Sub_1 x y (gp l i).1 (gp l i).2)) 0 <;> rfl
    · rw [decide_eq_false hi]; rfl

end Go.Proofs.Ythopjahoaljhaaa.X

/-! ## Contracts of functions of the program, laid out by a program of mine (gen.py): what each gives, as a function of its arguments; floats up to the bits of a NaN. -/
set_option linter.unusedVariables false
set_option linter.unusedSimpArgs false
set_option maxRecDepth 100000
namespace Go.Proofs.Ythopjahoaljhaaa.X
open Go Go.RowKit

/-- tumble/poly.Has -/
def poly_Has_0 (a : List (Nat × Nat)) (b0 : Nat) (b1 : Nat) : Bool := cond (bne (poly_Check a) (0 : Int)) (Bool.false) (((vec_Within b0 b1 (4787326403894837248 : Nat)) && (allF (hasF a b0 b1) (0 : Nat) (List.length a))))
def poly_Has_1 (a : List (Nat × Nat)) (b0 : Nat) (b1 : Nat) : Int := cond (bne (poly_Check a) (0 : Int)) (poly_Check a) (cond (vec_Within b0 b1 (4787326403894837248 : Nat)) ((0 : Int)) ((5 : Int)))
def d19 : List AT → Option AT
  | [.av (.one (.sl a)), .av (.agg [.flt b0, .flt b1])] => some (.tup [(.one (.bool (poly_Has_0 a b0 b1))), (.one (.int .i64 (poly_Has_1 a b0 b1)))])
  | _ => none
def e19 : Ent := .of d19
theorem c19 : CallOk Pr 19 e19 := by
  refine callOk_autoL (T := tb 33 [(13, e13), (17, e17), (28, e28), (53, e53), (54, e54)] [] [(7, s19)]) (tb_ok (fnCons c13 (fnCons c17 (fnCons c28 (fnCons c53 (fnCons c54 (fnNil _)))))) (fnBNil _)) Try.func19 rfl (by decide) rfl (loops1 (by kernel_rfl) rfl lo19) (Ent.of_k d19) ?_
  intro l r h hb
  change d19 l = some r at h
  unfold d19 at h
  split at h
  · rename_i a b0 b1
    cases h
    refine ⟨rfl, rfl, by_kernel (q := cond (bne (poly_Check a) (0 : Int)) (AT.tup [(.one (.bool Bool.false)), (.one (.int .i64 (poly_Check a)))] = (.tup [(.one (.bool (poly_Has_0 a b0 b1))), (.one (.int .i64 (poly_Has_1 a b0 b1)))])) (cond (vec_Within b0 b1 (4787326403894837248 : Nat)) (And (Eq (Nat.cast (List.length a) : Int) (Nat.cast (List.length a) : Int)) (cond (allF (hasF a b0 b1) (0 : Nat) (List.length a)) (AT.tup [(.one (.bool Bool.true)), (.one (.int .i64 ((0 : Int))))] = (.tup [(.one (.bool (poly_Has_0 a b0 b1))), (.one (.int .i64 (poly_Has_1 a b0 b1)))])) (AT.tup [(.one (.bool Bool.false)), (.one (.int .i64 ((0 : Int))))] = (.tup [(.one (.bool (poly_Has_0 a b0 b1))), (.one (.int .i64 (poly_Has_1 a b0 b1)))])))) (AT.tup [(.one (.bool Bool.false)), (.one (.int .i64 ((5 : Int))))] = (.tup [(.one (.bool (poly_Has_0 a b0 b1))), (.one (.int .i64 (poly_Has_1 a b0 b1)))])))) (by kernel_rfl) ?_⟩
    unfold poly_Has_0 poly_Has_1
    cases (bne (poly_Check a) (0 : Int)) with
    | true =>
        rfl
    | false =>
        cases (vec_Within b0 b1 (4787326403894837248 : Nat)) with
        | true =>
            refine ⟨?_, ?_⟩
            · rfl
            cases (allF (hasF a b0 b1) (0 : Nat) (List.length a)) with
            | true =>
                rfl
            | false =>
                rfl
        | false =>
            rfl
  · cases h

end Go.Proofs.Ythopjahoaljhaaa.X

/-! ## Contracts of functions of the program that take a shape, laid out by a program of mine (genv.py): by the number of points. -/
set_option linter.unusedVariables false
set_option linter.unusedSimpArgs false
set_option maxRecDepth 100000
namespace Go.Proofs.Ythopjahoaljhaaa.X
open Go Go.RowKit

/-- tumble/shape.open -/
def d85 : List AT → Option AT
  | [.av (.agg [.int .u8 a0, .flt a1, .sl []])] => cond (Decidable.decide (LT.lt a0 (1 : Int))) (some (AT.tup [(.one (.raw Go.Value.nilIface)), (.one (.int .i64 ((70 : Int))))])) (cond (Decidable.decide (GT.gt a0 (3 : Int))) (some (AT.tup [(.one (.raw Go.Value.nilIface)), (.one (.int .i64 ((70 : Int))))])) (some (AT.tup [(.one (.raw Go.Value.nilIface)), (.one (.int .i64 ((6 : Int))))])))
  | [.av (.agg [.int .u8 a0, .flt a1, .sl [pa]])] => cond (Decidable.decide (LT.lt a0 (1 : Int))) (some (AT.tup [(.one (.raw Go.Value.nilIface)), (.one (.int .i64 ((70 : Int))))])) (cond (Decidable.decide (GT.gt a0 (3 : Int))) (some (AT.tup [(.one (.raw Go.Value.nilIface)), (.one (.int .i64 ((70 : Int))))])) (cond (BEq.beq a0 (1 : Int)) (some (AT.tup [(.ifa ((127 : Nat)) [(.flt (Prod.fst (gp (List.cons pa List.nil) (Int.toNat (0 : Int))))), (.flt (Prod.snd (gp (List.cons pa List.nil) (Int.toNat (0 : Int))))), (.flt a1)]), (.one (.int .i64 ((0 : Int))))])) (some (AT.tup [(.one (.raw Go.Value.nilIface)), (.one (.int .i64 ((6 : Int))))]))))
  | [.av (.agg [.int .u8 a0, .flt a1, .sl [pa, pb]])] => cond (Decidable.decide (LT.lt a0 (1 : Int))) (some (AT.tup [(.one (.raw Go.Value.nilIface)), (.one (.int .i64 ((70 : Int))))])) (cond (Decidable.decide (GT.gt a0 (3 : Int))) (some (AT.tup [(.one (.raw Go.Value.nilIface)), (.one (.int .i64 ((70 : Int))))])) (cond (BEq.beq a0 (2 : Int)) (some (AT.tup [(.ifa ((129 : Nat)) [(.flt (Prod.fst (gp (List.cons pa (List.cons pb List.nil)) (Int.toNat (0 : Int))))), (.flt (Prod.snd (gp (List.cons pa (List.cons pb List.nil)) (Int.toNat (0 : Int))))), (.flt (Prod.fst (gp (List.cons pa (List.cons pb List.nil)) (Int.toNat (1 : Int))))), (.flt (Prod.snd (gp (List.cons pa (List.cons pb List.nil)) (Int.toNat (1 : Int))))), (.flt a1)]), (.one (.int .i64 ((0 : Int))))])) (some (AT.tup [(.one (.raw Go.Value.nilIface)), (.one (.int .i64 ((6 : Int))))]))))
  | [.av (.agg [.int .u8 a0, .flt a1, .sl (pa :: pb :: pc :: pz)])] => cond (Decidable.decide (LT.lt a0 (1 : Int))) (some (AT.tup [(.one (.raw Go.Value.nilIface)), (.one (.int .i64 ((70 : Int))))])) (cond (Decidable.decide (GT.gt a0 (3 : Int))) (some (AT.tup [(.one (.raw Go.Value.nilIface)), (.one (.int .i64 ((70 : Int))))])) (cond (BEq.beq a0 (3 : Int)) (cond (Decidable.decide (GE.ge (Nat.cast (List.length (List.cons pa (List.cons pb (List.cons pc pz)))) : Int) (3 : Int))) (cond (Decidable.decide (LE.le (Nat.cast (List.length (List.cons pa (List.cons pb (List.cons pc pz)))) : Int) (8 : Int))) (cond (fEq a1 (0 : Nat)) (some (AT.tup [(.ifc ((130 : Nat)) (.sl (List.cons pa (List.cons pb (List.cons pc pz))))), (.one (.int .i64 ((0 : Int))))])) (some (AT.tup [(.one (.raw Go.Value.nilIface)), (.one (.int .i64 ((6 : Int))))]))) (some (AT.tup [(.one (.raw Go.Value.nilIface)), (.one (.int .i64 ((6 : Int))))]))) (some (AT.tup [(.one (.raw Go.Value.nilIface)), (.one (.int .i64 ((6 : Int))))]))) (some (AT.tup [(.one (.raw Go.Value.nilIface)), (.one (.int .i64 ((6 : Int))))]))))
  | _ => none
def e85 : Ent := ⟨d85, fun l K => match l with
  | [.av (.agg [.int .u8 a0, .flt a1, .sl []])] => cond (Decidable.decide (LT.lt a0 (1 : Int))) (K (AT.tup [(.one (.raw Go.Value.nilIface)), (.one (.int .i64 ((70 : Int))))])) (cond (Decidable.decide (GT.gt a0 (3 : Int))) (K (AT.tup [(.one (.raw Go.Value.nilIface)), (.one (.int .i64 ((70 : Int))))])) (K (AT.tup [(.one (.raw Go.Value.nilIface)), (.one (.int .i64 ((6 : Int))))])))
  | [.av (.agg [.int .u8 a0, .flt a1, .sl [pa]])] => cond (Decidable.decide (LT.lt a0 (1 : Int))) (K (AT.tup [(.one (.raw Go.Value.nilIface)), (.one (.int .i64 ((70 : Int))))])) (cond (Decidable.decide (GT.gt a0 (3 : Int))) (K (AT.tup [(.one (.raw Go.Value.nilIface)), (.one (.int .i64 ((70 : Int))))])) (cond (BEq.beq a0 (1 : Int)) (K (AT.tup [(.ifa ((127 : Nat)) [(.flt (Prod.fst (gp (List.cons pa List.nil) (Int.toNat (0 : Int))))), (.flt (Prod.snd (gp (List.cons pa List.nil) (Int.toNat (0 : Int))))), (.flt a1)]), (.one (.int .i64 ((0 : Int))))])) (K (AT.tup [(.one (.raw Go.Value.nilIface)), (.one (.int .i64 ((6 : Int))))]))))
  | [.av (.agg [.int .u8 a0, .flt a1, .sl [pa, pb]])] => cond (Decidable.decide (LT.lt a0 (1 : Int))) (K (AT.tup [(.one (.raw Go.Value.nilIface)), (.one (.int .i64 ((70 : Int))))])) (cond (Decidable.decide (GT.gt a0 (3 : Int))) (K (AT.tup [(.one (.raw Go.Value.nilIface)), (.one (.int .i64 ((70 : Int))))])) (cond (BEq.beq a0 (2 : Int)) (K (AT.tup [(.ifa ((129 : Nat)) [(.flt (Prod.fst (gp (List.cons pa (List.cons pb List.nil)) (Int.toNat (0 : Int))))), (.flt (Prod.snd (gp (List.cons pa (List.cons pb List.nil)) (Int.toNat (0 : Int))))), (.flt (Prod.fst (gp (List.cons pa (List.cons pb List.nil)) (Int.toNat (1 : Int))))), (.flt (Prod.snd (gp (List.cons pa (List.cons pb List.nil)) (Int.toNat (1 : Int))))), (.flt a1)]), (.one (.int .i64 ((0 : Int))))])) (K (AT.tup [(.one (.raw Go.Value.nilIface)), (.one (.int .i64 ((6 : Int))))]))))
  | [.av (.agg [.int .u8 a0, .flt a1, .sl (pa :: pb :: pc :: pz)])] => cond (Decidable.decide (LT.lt a0 (1 : Int))) (K (AT.tup [(.one (.raw Go.Value.nilIface)), (.one (.int .i64 ((70 : Int))))])) (cond (Decidable.decide (GT.gt a0 (3 : Int))) (K (AT.tup [(.one (.raw Go.Value.nilIface)), (.one (.int .i64 ((70 : Int))))])) (cond (BEq.beq a0 (3 : Int)) (cond (Decidable.decide (GE.ge (Nat.cast (List.length (List.cons pa (List.cons pb (List.cons pc pz)))) : Int) (3 : Int))) (cond (Decidable.decide (LE.le (Nat.cast (List.length (List.cons pa (List.cons pb (List.cons pc pz)))) : Int) (8 : Int))) (cond (fEq a1 (0 : Nat)) (K (AT.tup [(.ifc ((130 : Nat)) (.sl (List.cons pa (List.cons pb (List.cons pc pz))))), (.one (.int .i64 ((0 : Int))))])) (K (AT.tup [(.one (.raw Go.Value.nilIface)), (.one (.int .i64 ((6 : Int))))]))) (K (AT.tup [(.one (.raw Go.Value.nilIface)), (.one (.int .i64 ((6 : Int))))]))) (K (AT.tup [(.one (.raw Go.Value.nilIface)), (.one (.int .i64 ((6 : Int))))]))) (K (AT.tup [(.one (.raw Go.Value.nilIface)), (.one (.int .i64 ((6 : Int))))]))))
  | _ => False⟩
theorem k85 (l : List AT) (K : AT → Prop) (h : e85.k l K) : ∃ r, e85.d l = some r ∧ K r := by
  simp only [e85] at h ⊢
  unfold d85
  split at h
  · rename_i a0 a1
    revert h
    cases (Decidable.decide (LT.lt a0 (1 : Int))) with
    | true =>
        intro h; exact ⟨_, rfl, h⟩
    | false =>
        cases (Decidable.decide (GT.gt a0 (3 : Int))) with
        | true =>
            intro h; exact ⟨_, rfl, h⟩
        | false =>
            intro h; exact ⟨_, rfl, h⟩
  · rename_i a0 a1 pa
    revert h
    cases (Decidable.decide (LT.lt a0 (1 : Int))) with
    | true =>
        intro h; exact ⟨_, rfl, h⟩
    | false =>
        cases (Decidable.decide (GT.gt a0 (3 : Int))) with
        | true =>
            intro h; exact ⟨_, rfl, h⟩
        | false =>
            cases (BEq.beq a0 (1 : Int)) with
            | true =>
                intro h; exact ⟨_, rfl, h⟩
            | false =>
                intro h; exact ⟨_, rfl, h⟩
  · rename_i a0 a1 pa pb
    revert h
    cases (Decidable.decide (LT.lt a0 (1 : Int))) with
    | true =>
        intro h; exact ⟨_, rfl, h⟩
    | false =>
        cases (Decidable.decide (GT.gt a0 (3 : Int))) with
        | true =>
            intro h; exact ⟨_, rfl, h⟩
        | false =>
            cases (BEq.beq a0 (2 : Int)) with
            | true =>
                intro h; exact ⟨_, rfl, h⟩
            | false =>
                intro h; exact ⟨_, rfl, h⟩
  · rename_i a0 a1 pa pb pc pz
    revert h
    cases (Decidable.decide (LT.lt a0 (1 : Int))) with
    | true =>
        intro h; exact ⟨_, rfl, h⟩
    | false =>
        cases (Decidable.decide (GT.gt a0 (3 : Int))) with
        | true =>
            intro h; exact ⟨_, rfl, h⟩
        | false =>
            cases (BEq.beq a0 (3 : Int)) with
            | true =>
                cases (Decidable.decide (GE.ge (Nat.cast (List.length (List.cons pa (List.cons pb (List.cons pc pz)))) : Int) (3 : Int))) with
                | true =>
                    cases (Decidable.decide (LE.le (Nat.cast (List.length (List.cons pa (List.cons pb (List.cons pc pz)))) : Int) (8 : Int))) with
                    | true =>
                        cases (fEq a1 (0 : Nat)) with
                        | true =>
                            intro h; exact ⟨_, rfl, h⟩
                        | false =>
                            intro h; exact ⟨_, rfl, h⟩
                    | false =>
                        intro h; exact ⟨_, rfl, h⟩
                | false =>
                    intro h; exact ⟨_, rfl, h⟩
            | false =>
                intro h; exact ⟨_, rfl, h⟩
  · exact h.elim
theorem c85 : CallOk Pr 85 e85 := by
  refine callOk_auto (T := tb 73 [] [] []) (tb_ok (fnNil _) (fnBNil _)) Try.func85 rfl (by decide) rfl rfl k85 ?_
  intro l r h hb
  change d85 l = some r at h
  unfold d85 at h
  split at h
  · rename_i a0 a1
    have key : (Nat.ble 1 Try.f85.ntmps = true ∧ noNmT [r] = true ∧ (cond (Decidable.decide (LT.lt a0 (1 : Int))) (AT.tup [(.one (.raw Go.Value.nilIface)), (.one (.int .i64 ((70 : Int))))] = r) (cond (Decidable.decide (GT.gt a0 (3 : Int))) (AT.tup [(.one (.raw Go.Value.nilIface)), (.one (.int .i64 ((70 : Int))))] = r) (cond (BEq.beq a0 (1 : Int)) (cond (BEq.beq a0 (2 : Int)) (cond (BEq.beq a0 (3 : Int)) (AT.tup [(.one (.raw Go.Value.nilIface)), (.one (.int .i64 ((6 : Int))))] = r) (AT.tup [(.one (.raw Go.Value.nilIface)), (.one (.int .i64 ((6 : Int))))] = r)) (cond (BEq.beq a0 (3 : Int)) (AT.tup [(.one (.raw Go.Value.nilIface)), (.one (.int .i64 ((6 : Int))))] = r) (AT.tup [(.one (.raw Go.Value.nilIface)), (.one (.int .i64 ((6 : Int))))] = r))) (cond (BEq.beq a0 (2 : Int)) (cond (BEq.beq a0 (3 : Int)) (AT.tup [(.one (.raw Go.Value.nilIface)), (.one (.int .i64 ((6 : Int))))] = r) (AT.tup [(.one (.raw Go.Value.nilIface)), (.one (.int .i64 ((6 : Int))))] = r)) (cond (BEq.beq a0 (3 : Int)) (AT.tup [(.one (.raw Go.Value.nilIface)), (.one (.int .i64 ((6 : Int))))] = r) (AT.tup [(.one (.raw Go.Value.nilIface)), (.one (.int .i64 ((6 : Int))))] = r))))))) := by
      revert h
      cases (Decidable.decide (LT.lt a0 (1 : Int))) with
      | true =>
          intro h; cases h; exact ⟨rfl, rfl, rfl⟩
      | false =>
          cases (Decidable.decide (GT.gt a0 (3 : Int))) with
          | true =>
              intro h; cases h; exact ⟨rfl, rfl, rfl⟩
          | false =>
              cases (BEq.beq a0 (1 : Int)) with
              | true =>
                  cases (BEq.beq a0 (2 : Int)) with
                  | true =>
                      cases (BEq.beq a0 (3 : Int)) with
                      | true =>
                          intro h; cases h; exact ⟨rfl, rfl, rfl⟩
                      | false =>
                          intro h; cases h; exact ⟨rfl, rfl, rfl⟩
                  | false =>
                      cases (BEq.beq a0 (3 : Int)) with
                      | true =>
                          intro h; cases h; exact ⟨rfl, rfl, rfl⟩
                      | false =>
                          intro h; cases h; exact ⟨rfl, rfl, rfl⟩
              | false =>
                  cases (BEq.beq a0 (2 : Int)) with
                  | true =>
                      cases (BEq.beq a0 (3 : Int)) with
                      | true =>
                          intro h; cases h; exact ⟨rfl, rfl, rfl⟩
                      | false =>
                          intro h; cases h; exact ⟨rfl, rfl, rfl⟩
                  | false =>
                      cases (BEq.beq a0 (3 : Int)) with
                      | true =>
                          intro h; cases h; exact ⟨rfl, rfl, rfl⟩
                      | false =>
                          intro h; cases h; exact ⟨rfl, rfl, rfl⟩
    exact ⟨key.1, key.2.1, by_kernel (by kernel_rfl) key.2.2⟩
  · rename_i a0 a1 pa
    have key : (Nat.ble 1 Try.f85.ntmps = true ∧ noNmT [r] = true ∧ (cond (Decidable.decide (LT.lt a0 (1 : Int))) (AT.tup [(.one (.raw Go.Value.nilIface)), (.one (.int .i64 ((70 : Int))))] = r) (cond (Decidable.decide (GT.gt a0 (3 : Int))) (AT.tup [(.one (.raw Go.Value.nilIface)), (.one (.int .i64 ((70 : Int))))] = r) (cond (BEq.beq a0 (1 : Int)) (AT.tup [(.ifa ((127 : Nat)) [(.flt (Prod.fst (gp (List.cons pa List.nil) (Int.toNat (0 : Int))))), (.flt (Prod.snd (gp (List.cons pa List.nil) (Int.toNat (0 : Int))))), (.flt a1)]), (.one (.int .i64 ((0 : Int))))] = r) (cond (BEq.beq a0 (2 : Int)) (cond (BEq.beq a0 (3 : Int)) (AT.tup [(.one (.raw Go.Value.nilIface)), (.one (.int .i64 ((6 : Int))))] = r) (AT.tup [(.one (.raw Go.Value.nilIface)), (.one (.int .i64 ((6 : Int))))] = r)) (cond (BEq.beq a0 (3 : Int)) (AT.tup [(.one (.raw Go.Value.nilIface)), (.one (.int .i64 ((6 : Int))))] = r) (AT.tup [(.one (.raw Go.Value.nilIface)), (.one (.int .i64 ((6 : Int))))] = r))))))) := by
      revert h
      cases (Decidable.decide (LT.lt a0 (1 : Int))) with
      | true =>
          intro h; cases h; exact ⟨rfl, rfl, rfl⟩
      | false =>
          cases (Decidable.decide (GT.gt a0 (3 : Int))) with
          | true =>
              intro h; cases h; exact ⟨rfl, rfl, rfl⟩
          | false =>
              cases (BEq.beq a0 (1 : Int)) with
              | true =>
                  intro h; cases h; exact ⟨rfl, rfl, rfl⟩
              | false =>
                  cases (BEq.beq a0 (2 : Int)) with
                  | true =>
                      cases (BEq.beq a0 (3 : Int)) with
                      | true =>
                          intro h; cases h; exact ⟨rfl, rfl, rfl⟩
                      | false =>
                          intro h; cases h; exact ⟨rfl, rfl, rfl⟩
                  | false =>
                      cases (BEq.beq a0 (3 : Int)) with
                      | true =>
                          intro h; cases h; exact ⟨rfl, rfl, rfl⟩
                      | false =>
                          intro h; cases h; exact ⟨rfl, rfl, rfl⟩
    exact ⟨key.1, key.2.1, by_kernel (by kernel_rfl) key.2.2⟩
  · rename_i a0 a1 pa pb
    have key : (Nat.ble 1 Try.f85.ntmps = true ∧ noNmT [r] = true ∧ (cond (Decidable.decide (LT.lt a0 (1 : Int))) (AT.tup [(.one (.raw Go.Value.nilIface)), (.one (.int .i64 ((70 : Int))))] = r) (cond (Decidable.decide (GT.gt a0 (3 : Int))) (AT.tup [(.one (.raw Go.Value.nilIface)), (.one (.int .i64 ((70 : Int))))] = r) (cond (BEq.beq a0 (1 : Int)) (cond (BEq.beq a0 (2 : Int)) (AT.tup [(.ifa ((129 : Nat)) [(.flt (Prod.fst (gp (List.cons pa (List.cons pb List.nil)) (Int.toNat (0 : Int))))), (.flt (Prod.snd (gp (List.cons pa (List.cons pb List.nil)) (Int.toNat (0 : Int))))), (.flt (Prod.fst (gp (List.cons pa (List.cons pb List.nil)) (Int.toNat (1 : Int))))), (.flt (Prod.snd (gp (List.cons pa (List.cons pb List.nil)) (Int.toNat (1 : Int))))), (.flt a1)]), (.one (.int .i64 ((0 : Int))))] = r) (cond (BEq.beq a0 (3 : Int)) (AT.tup [(.one (.raw Go.Value.nilIface)), (.one (.int .i64 ((6 : Int))))] = r) (AT.tup [(.one (.raw Go.Value.nilIface)), (.one (.int .i64 ((6 : Int))))] = r))) (cond (BEq.beq a0 (2 : Int)) (AT.tup [(.ifa ((129 : Nat)) [(.flt (Prod.fst (gp (List.cons pa (List.cons pb List.nil)) (Int.toNat (0 : Int))))), (.flt (Prod.snd (gp (List.cons pa (List.cons pb List.nil)) (Int.toNat (0 : Int))))), (.flt (Prod.fst (gp (List.cons pa (List.cons pb List.nil)) (Int.toNat (1 : Int))))), (.flt (Prod.snd (gp (List.cons pa (List.cons pb List.nil)) (Int.toNat (1 : Int))))), (.flt a1)]), (.one (.int .i64 ((0 : Int))))] = r) (cond (BEq.beq a0 (3 : Int)) (AT.tup [(.one (.raw Go.Value.nilIface)), (.one (.int .i64 ((6 : Int))))] = r) (AT.tup [(.one (.raw Go.Value.nilIface)), (.one (.int .i64 ((6 : Int))))] = r))))))) := by
      revert h
      cases (Decidable.decide (LT.lt a0 (1 : Int))) with
      | true =>
          intro h; cases h; exact ⟨rfl, rfl, rfl⟩
      | false =>
          cases (Decidable.decide (GT.gt a0 (3 : Int))) with
          | true =>
              intro h; cases h; exact ⟨rfl, rfl, rfl⟩
          | false =>
              cases (BEq.beq a0 (1 : Int)) with
              | true =>
                  cases (BEq.beq a0 (2 : Int)) with
                  | true =>
                      intro h; cases h; exact ⟨rfl, rfl, rfl⟩
                  | false =>
                      cases (BEq.beq a0 (3 : Int)) with
                      | true =>
                          intro h; cases h; exact ⟨rfl, rfl, rfl⟩
                      | false =>
                          intro h; cases h; exact ⟨rfl, rfl, rfl⟩
              | false =>
                  cases (BEq.beq a0 (2 : Int)) with
                  | true =>
                      intro h; cases h; exact ⟨rfl, rfl, rfl⟩
                  | false =>
                      cases (BEq.beq a0 (3 : Int)) with
                      | true =>
                          intro h; cases h; exact ⟨rfl, rfl, rfl⟩
                      | false =>
                          intro h; cases h; exact ⟨rfl, rfl, rfl⟩
    exact ⟨key.1, key.2.1, by_kernel (by kernel_rfl) key.2.2⟩
  · rename_i a0 a1 pa pb pc pz
    have key : (Nat.ble 1 Try.f85.ntmps = true ∧ noNmT [r] = true ∧ (cond (Decidable.decide (LT.lt a0 (1 : Int))) (AT.tup [(.one (.raw Go.Value.nilIface)), (.one (.int .i64 ((70 : Int))))] = r) (cond (Decidable.decide (GT.gt a0 (3 : Int))) (AT.tup [(.one (.raw Go.Value.nilIface)), (.one (.int .i64 ((70 : Int))))] = r) (cond (BEq.beq a0 (1 : Int)) (cond (BEq.beq a0 (2 : Int)) (cond (BEq.beq a0 (3 : Int)) (cond (Decidable.decide (GE.ge (Nat.cast (List.length (List.cons pa (List.cons pb (List.cons pc pz)))) : Int) (3 : Int))) (cond (Decidable.decide (LE.le (Nat.cast (List.length (List.cons pa (List.cons pb (List.cons pc pz)))) : Int) (8 : Int))) (cond (fEq a1 (0 : Nat)) (AT.tup [(.ifc ((130 : Nat)) (.sl (List.cons pa (List.cons pb (List.cons pc pz))))), (.one (.int .i64 ((0 : Int))))] = r) (AT.tup [(.one (.raw Go.Value.nilIface)), (.one (.int .i64 ((6 : Int))))] = r)) (AT.tup [(.one (.raw Go.Value.nilIface)), (.one (.int .i64 ((6 : Int))))] = r)) (AT.tup [(.one (.raw Go.Value.nilIface)), (.one (.int .i64 ((6 : Int))))] = r)) (AT.tup [(.one (.raw Go.Value.nilIface)), (.one (.int .i64 ((6 : Int))))] = r)) (cond (BEq.beq a0 (3 : Int)) (cond (Decidable.decide (GE.ge (Nat.cast (List.length (List.cons pa (List.cons pb (List.cons pc pz)))) : Int) (3 : Int))) (cond (Decidable.decide (LE.le (Nat.cast (List.length (List.cons pa (List.cons pb (List.cons pc pz)))) : Int) (8 : Int))) (cond (fEq a1 (0 : Nat)) (AT.tup [(.ifc ((130 : Nat)) (.sl (List.cons pa (List.cons pb (List.cons pc pz))))), (.one (.int .i64 ((0 : Int))))] = r) (AT.tup [(.one (.raw Go.Value.nilIface)), (.one (.int .i64 ((6 : Int))))] = r)) (AT.tup [(.one (.raw Go.Value.nilIface)), (.one (.int .i64 ((6 : Int))))] = r)) (AT.tup [(.one (.raw Go.Value.nilIface)), (.one (.int .i64 ((6 : Int))))] = r)) (AT.tup [(.one (.raw Go.Value.nilIface)), (.one (.int .i64 ((6 : Int))))] = r))) (cond (BEq.beq a0 (2 : Int)) (cond (BEq.beq a0 (3 : Int)) (cond (Decidable.decide (GE.ge (Nat.cast (List.length (List.cons pa (List.cons pb (List.cons pc pz)))) : Int) (3 : Int))) (cond (Decidable.decide (LE.le (Nat.cast (List.length (List.cons pa (List.cons pb (List.cons pc pz)))) : Int) (8 : Int))) (cond (fEq a1 (0 : Nat)) (AT.tup [(.ifc ((130 : Nat)) (.sl (List.cons pa (List.cons pb (List.cons pc pz))))), (.one (.int .i64 ((0 : Int))))] = r) (AT.tup [(.one (.raw Go.Value.nilIface)), (.one (.int .i64 ((6 : Int))))] = r)) (AT.tup [(.one (.raw Go.Value.nilIface)), (.one (.int .i64 ((6 : Int))))] = r)) (AT.tup [(.one (.raw Go.Value.nilIface)), (.one (.int .i64 ((6 : Int))))] = r)) (AT.tup [(.one (.raw Go.Value.nilIface)), (.one (.int .i64 ((6 : Int))))] = r)) (cond (BEq.beq a0 (3 : Int)) (cond (Decidable.decide (GE.ge (Nat.cast (List.length (List.cons pa (List.cons pb (List.cons pc pz)))) : Int) (3 : Int))) (cond (Decidable.decide (LE.le (Nat.cast (List.length (List.cons pa (List.cons pb (List.cons pc pz)))) : Int) (8 : Int))) (cond (fEq a1 (0 : Nat)) (AT.tup [(.ifc ((130 : Nat)) (.sl (List.cons pa (List.cons pb (List.cons pc pz))))), (.one (.int .i64 ((0 : Int))))] = r) (AT.tup [(.one (.raw Go.Value.nilIface)), (.one (.int .i64 ((6 : Int))))] = r)) (AT.tup [(.one (.raw Go.Value.nilIface)), (.one (.int .i64 ((6 : Int))))] = r)) (AT.tup [(.one (.raw Go.Value.nilIface)), (.one (.int .i64 ((6 : Int))))] = r)) (AT.tup [(.one (.raw Go.Value.nilIface)), (.one (.int .i64 ((6 : Int))))] = r))))))) := by
      revert h
      cases (Decidable.decide (LT.lt a0 (1 : Int))) with
      | true =>
          intro h; cases h; exact ⟨rfl, rfl, rfl⟩
      | false =>
          cases (Decidable.decide (GT.gt a0 (3 : Int))) with
          | true =>
              intro h; cases h; exact ⟨rfl, rfl, rfl⟩
          | false =>
              cases (BEq.beq a0 (1 : Int)) with
              | true =>
                  cases (BEq.beq a0 (2 : Int)) with
                  | true =>
                      cases (BEq.beq a0 (3 : Int)) with
                      | true =>
                          cases (Decidable.decide (GE.ge (Nat.cast (List.length (List.cons pa (List.cons pb (List.cons pc pz)))) : Int) (3 : Int))) with
                          | true =>
                              cases (Decidable.decide (LE.le (Nat.cast (List.length (List.cons pa (List.cons pb (List.cons pc pz)))) : Int) (8 : Int))) with
                              | true =>
                                  cases (fEq a1 (0 : Nat)) with
                                  | true =>
                                      intro h; cases h; exact ⟨rfl, rfl, rfl⟩
                                  | false =>
                                      intro h; cases h; exact ⟨rfl, rfl, rfl⟩
                              | false =>
                                  intro h; cases h; exact ⟨rfl, rfl, rfl⟩
                          | false =>
                              intro h; cases h; exact ⟨rfl, rfl, rfl⟩
                      | false =>
                          intro h; cases h; exact ⟨rfl, rfl, rfl⟩
                  | false =>
                      cases (BEq.beq a0 (3 : Int)) with
                      | true =>
                          cases (Decidable.decide (GE.ge (Nat.cast (List.length (List.cons pa (List.cons pb (List.cons pc pz)))) : Int) (3 : Int))) with
                          | true =>
                              cases (Decidable.decide (LE.le (Nat.cast (List.length (List.cons pa (List.cons pb (List.cons pc pz)))) : Int) (8 : Int))) with
                              | true =>
                                  cases (fEq a1 (0 : Nat)) with
                                  | true =>
                                      intro h; cases h; exact ⟨rfl, rfl, rfl⟩
                                  | false =>
                                      intro h; cases h; exact ⟨rfl, rfl, rfl⟩
                              | false =>
                                  intro h; cases h; exact ⟨rfl, rfl, rfl⟩
                          | false =>
                              intro h; cases h; exact ⟨rfl, rfl, rfl⟩
                      | false =>
                          intro h; cases h; exact ⟨rfl, rfl, rfl⟩
              | false =>
                  cases (BEq.beq a0 (2 : Int)) with
                  | true =>
                      cases (BEq.beq a0 (3 : Int)) with
                      | true =>
                          cases (Decidable.decide (GE.ge (Nat.cast (List.length (List.cons pa (List.cons pb (List.cons pc pz)))) : Int) (3 : Int))) with
                          | true =>
                              cases (Decidable.decide (LE.le (Nat.cast (List.length (List.cons pa (List.cons pb (List.cons pc pz)))) : Int) (8 : Int))) with
                              | true =>
                                  cases (fEq a1 (0 : Nat)) with
                                  | true =>
                                      intro h; cases h; exact ⟨rfl, rfl, rfl⟩
                                  | false =>
                                      intro h; cases h; exact ⟨rfl, rfl, rfl⟩
                              | false =>
                                  intro h; cases h; exact ⟨rfl, rfl, rfl⟩
                          | false =>
                              intro h; cases h; exact ⟨rfl, rfl, rfl⟩
                      | false =>
                          intro h; cases h; exact ⟨rfl, rfl, rfl⟩
                  | false =>
                      cases (BEq.beq a0 (3 : Int)) with
                      | true =>
                          cases (Decidable.decide (GE.ge (Nat.cast (List.length (List.cons pa (List.cons pb (List.cons pc pz)))) : Int) (3 : Int))) with
                          | true =>
                              cases (Decidable.decide (LE.le (Nat.cast (List.length (List.cons pa (List.cons pb (List.cons pc pz)))) : Int) (8 : Int))) with
                              | true =>
                                  cases (fEq a1 (0 : Nat)) with
                                  | true =>
                                      intro h; cases h; exact ⟨rfl, rfl, rfl⟩
                                  | false =>
                                      intro h; cases h; exact ⟨rfl, rfl, rfl⟩
                              | false =>
                                  intro h; cases h; exact ⟨rfl, rfl, rfl⟩
                          | false =>
                              intro h; cases h; exact ⟨rfl, rfl, rfl⟩
                      | false =>
                          intro h; cases h; exact ⟨rfl, rfl, rfl⟩
    exact ⟨key.1, key.2.1, by_kernel (by kernel_rfl) key.2.2⟩
  · cases h

end Go.Proofs.Ythopjahoaljhaaa.X

/-! ## Contracts of functions of the program, laid out by a program of mine (gen.py): what each gives, as a function of its arguments; floats up to the bits of a NaN. -/
set_option linter.unusedVariables false
set_option linter.unusedSimpArgs false
set_option maxRecDepth 100000
namespace Go.Proofs.Ythopjahoaljhaaa.X
open Go Go.RowKit

/-- (tumble/shape.polygon).check -/
def shape_polygon_check (a : List (Nat × Nat)) : Int := poly_Check a
def d143 : List AT → Option AT
  | [.av (.one (.sl a))] => some (.av (.one (.int .i64 (shape_polygon_check a))))
  | _ => none
def e143 : Ent := .of d143
theorem c143 : CallOk Pr 143 e143 := by
  refine callOk_auto (T := tb 5 [(17, e17)] [] []) (tb_ok (fnCons c17 (fnNil _)) (fnBNil _)) Try.func143 rfl (by decide) rfl rfl (Ent.of_k d143) ?_
  intro l r h hb
  change d143 l = some r at h
  unfold d143 at h
  split at h
  · rename_i a
    cases h
    refine ⟨rfl, rfl, by_kernel (q := AT.av (.one (.int .i64 (poly_Check a))) = (.av (.one (.int .i64 (shape_polygon_check a))))) (by kernel_rfl) ?_⟩
    unfold shape_polygon_check
    rfl
  · cases h

/-- (tumble/shape.polygon).has -/
def shape_polygon_has_0 (a : List (Nat × Nat)) (b0 : Nat) (b1 : Nat) : Bool := (poly_Has_0 a b0 b1)
def shape_polygon_has_1 (a : List (Nat × Nat)) (b0 : Nat) (b1 : Nat) : Int := poly_Has_1 a b0 b1
def d145 : List AT → Option AT
  | [.av (.one (.sl a)), .av (.agg [.flt b0, .flt b1])] => some (.tup [(.one (.bool (shape_polygon_has_0 a b0 b1))), (.one (.int .i64 (shape_polygon_has_1 a b0 b1)))])
  | _ => none
def e145 : Ent := .of d145
theorem c145 : CallOk Pr 145 e145 := by
  refine callOk_auto (T := tb 11 [(19, e19)] [] []) (tb_ok (fnCons c19 (fnNil _)) (fnBNil _)) Try.func145 rfl (by decide) rfl rfl (Ent.of_k d145) ?_
  intro l r h hb
  change d145 l = some r at h
  unfold d145 at h
  split at h
  · rename_i a b0 b1
    cases h
    refine ⟨rfl, rfl, by_kernel (q := cond (poly_Has_0 a b0 b1) (AT.tup [(.one (.bool Bool.true)), (.one (.int .i64 (poly_Has_1 a b0 b1)))] = (.tup [(.one (.bool (shape_polygon_has_0 a b0 b1))), (.one (.int .i64 (shape_polygon_has_1 a b0 b1)))])) (AT.tup [(.one (.bool Bool.false)), (.one (.int .i64 (poly_Has_1 a b0 b1)))] = (.tup [(.one (.bool (shape_polygon_has_0 a b0 b1))), (.one (.int .i64 (shape_polygon_has_1 a b0 b1)))]))) (by kernel_rfl) ?_⟩
    unfold shape_polygon_has_0 shape_polygon_has_1
    cases (poly_Has_0 a b0 b1) with
    | true =>
        rfl
    | false =>
        rfl
  · cases h

end Go.Proofs.Ythopjahoaljhaaa.X

/-! ## Contracts of functions of the program that take a shape, laid out by a program of mine (genv.py): by the number of points. -/
set_option linter.unusedVariables false
set_option linter.unusedSimpArgs false
set_option maxRecDepth 100000
namespace Go.Proofs.Ythopjahoaljhaaa.X
open Go Go.RowKit

/-- tumble/shape.may -/
def d44 : List AT → Option AT
  | [.av (.agg [.int .u8 a0, .flt a1, .sl []])] => cond (Decidable.decide (LT.lt a0 (1 : Int))) (some (AT.tup [(.one (.raw Go.Value.nilIface)), (.one (.int .i64 ((70 : Int))))])) (cond (Decidable.decide (GT.gt a0 (3 : Int))) (some (AT.tup [(.one (.raw Go.Value.nilIface)), (.one (.int .i64 ((70 : Int))))])) (some (AT.tup [(.one (.raw Go.Value.nilIface)), (.one (.int .i64 ((6 : Int))))])))
  | [.av (.agg [.int .u8 a0, .flt a1, .sl [pa]])] => cond (Decidable.decide (LT.lt a0 (1 : Int))) (some (AT.tup [(.one (.raw Go.Value.nilIface)), (.one (.int .i64 ((70 : Int))))])) (cond (Decidable.decide (GT.gt a0 (3 : Int))) (some (AT.tup [(.one (.raw Go.Value.nilIface)), (.one (.int .i64 ((70 : Int))))])) (cond (BEq.beq a0 (1 : Int)) (cond (bne (shape_circle_check (Prod.fst (gp (List.cons pa List.nil) (Int.toNat (0 : Int)))) (Prod.snd (gp (List.cons pa List.nil) (Int.toNat (0 : Int)))) a1) (0 : Int)) (some (AT.tup [(.one (.raw Go.Value.nilIface)), (.one (.int .i64 (shape_circle_check (Prod.fst (gp (List.cons pa List.nil) (Int.toNat (0 : Int)))) (Prod.snd (gp (List.cons pa List.nil) (Int.toNat (0 : Int)))) a1)))])) (some (AT.tup [(.ifa ((127 : Nat)) [(.flt (Prod.fst (gp (List.cons pa List.nil) (Int.toNat (0 : Int))))), (.flt (Prod.snd (gp (List.cons pa List.nil) (Int.toNat (0 : Int))))), (.flt a1)]), (.one (.int .i64 ((0 : Int))))]))) (some (AT.tup [(.one (.raw Go.Value.nilIface)), (.one (.int .i64 ((6 : Int))))]))))
  | [.av (.agg [.int .u8 a0, .flt a1, .sl [pa, pb]])] => cond (Decidable.decide (LT.lt a0 (1 : Int))) (some (AT.tup [(.one (.raw Go.Value.nilIface)), (.one (.int .i64 ((70 : Int))))])) (cond (Decidable.decide (GT.gt a0 (3 : Int))) (some (AT.tup [(.one (.raw Go.Value.nilIface)), (.one (.int .i64 ((70 : Int))))])) (cond (BEq.beq a0 (2 : Int)) (cond (bne (shape_capsule_check (Prod.fst (gp (List.cons pa (List.cons pb List.nil)) (Int.toNat (0 : Int)))) (Prod.snd (gp (List.cons pa (List.cons pb List.nil)) (Int.toNat (0 : Int)))) (Prod.fst (gp (List.cons pa (List.cons pb List.nil)) (Int.toNat (1 : Int)))) (Prod.snd (gp (List.cons pa (List.cons pb List.nil)) (Int.toNat (1 : Int)))) a1) (0 : Int)) (some (AT.tup [(.one (.raw Go.Value.nilIface)), (.one (.int .i64 (shape_capsule_check (Prod.fst (gp (List.cons pa (List.cons pb List.nil)) (Int.toNat (0 : Int)))) (Prod.snd (gp (List.cons pa (List.cons pb List.nil)) (Int.toNat (0 : Int)))) (Prod.fst (gp (List.cons pa (List.cons pb List.nil)) (Int.toNat (1 : Int)))) (Prod.snd (gp (List.cons pa (List.cons pb List.nil)) (Int.toNat (1 : Int)))) a1)))])) (some (AT.tup [(.ifa ((129 : Nat)) [(.flt (Prod.fst (gp (List.cons pa (List.cons pb List.nil)) (Int.toNat (0 : Int))))), (.flt (Prod.snd (gp (List.cons pa (List.cons pb List.nil)) (Int.toNat (0 : Int))))), (.flt (Prod.fst (gp (List.cons pa (List.cons pb List.nil)) (Int.toNat (1 : Int))))), (.flt (Prod.snd (gp (List.cons pa (List.cons pb List.nil)) (Int.toNat (1 : Int))))), (.flt a1)]), (.one (.int .i64 ((0 : Int))))]))) (some (AT.tup [(.one (.raw Go.Value.nilIface)), (.one (.int .i64 ((6 : Int))))]))))
  | [.av (.agg [.int .u8 a0, .flt a1, .sl (pa :: pb :: pc :: pz)])] => cond (Decidable.decide (LT.lt a0 (1 : Int))) (some (AT.tup [(.one (.raw Go.Value.nilIface)), (.one (.int .i64 ((70 : Int))))])) (cond (Decidable.decide (GT.gt a0 (3 : Int))) (some (AT.tup [(.one (.raw Go.Value.nilIface)), (.one (.int .i64 ((70 : Int))))])) (cond (BEq.beq a0 (3 : Int)) (cond (Decidable.decide (GE.ge (Nat.cast (List.length (List.cons pa (List.cons pb (List.cons pc pz)))) : Int) (3 : Int))) (cond (Decidable.decide (LE.le (Nat.cast (List.length (List.cons pa (List.cons pb (List.cons pc pz)))) : Int) (8 : Int))) (cond (fEq a1 (0 : Nat)) (cond (bne (shape_polygon_check (List.cons pa (List.cons pb (List.cons pc pz)))) (0 : Int)) (some (AT.tup [(.one (.raw Go.Value.nilIface)), (.one (.int .i64 (shape_polygon_check (List.cons pa (List.cons pb (List.cons pc pz))))))])) (some (AT.tup [(.ifc ((130 : Nat)) (.sl (List.cons pa (List.cons pb (List.cons pc pz))))), (.one (.int .i64 ((0 : Int))))]))) (some (AT.tup [(.one (.raw Go.Value.nilIface)), (.one (.int .i64 ((6 : Int))))]))) (some (AT.tup [(.one (.raw Go.Value.nilIface)), (.one (.int .i64 ((6 : Int))))]))) (some (AT.tup [(.one (.raw Go.Value.nilIface)), (.one (.int .i64 ((6 : Int))))]))) (some (AT.tup [(.one (.raw Go.Value.nilIface)), (.one (.int .i64 ((6 : Int))))]))))
  | _ => none
def e44 : Ent := ⟨d44, fun l K => match l with
  | [.av (.agg [.int .u8 a0, .flt a1, .sl []])] => cond (Decidable.decide (LT.lt a0 (1 : Int))) (K (AT.tup [(.one (.raw Go.Value.nilIface)), (.one (.int .i64 ((70 : Int))))])) (cond (Decidable.decide (GT.gt a0 (3 : Int))) (K (AT.tup [(.one (.raw Go.Value.nilIface)), (.one (.int .i64 ((70 : Int))))])) (K (AT.tup [(.one (.raw Go.Value.nilIface)), (.one (.int .i64 ((6 : Int))))])))
  | [.av (.agg [.int .u8 a0, .flt a1, .sl [pa]])] => cond (Decidable.decide (LT.lt a0 (1 : Int))) (K (AT.tup [(.one (.raw Go.Value.nilIface)), (.one (.int .i64 ((70 : Int))))])) (cond (Decidable.decide (GT.gt a0 (3 : Int))) (K (AT.tup [(.one (.raw Go.Value.nilIface)), (.one (.int .i64 ((70 : Int))))])) (cond (BEq.beq a0 (1 : Int)) (cond (bne (shape_circle_check (Prod.fst (gp (List.cons pa List.nil) (Int.toNat (0 : Int)))) (Prod.snd (gp (List.cons pa List.nil) (Int.toNat (0 : Int)))) a1) (0 : Int)) (K (AT.tup [(.one (.raw Go.Value.nilIface)), (.one (.int .i64 (shape_circle_check (Prod.fst (gp (List.cons pa List.nil) (Int.toNat (0 : Int)))) (Prod.snd (gp (List.cons pa List.nil) (Int.toNat (0 : Int)))) a1)))])) (K (AT.tup [(.ifa ((127 : Nat)) [(.flt (Prod.fst (gp (List.cons pa List.nil) (Int.toNat (0 : Int))))), (.flt (Prod.snd (gp (List.cons pa List.nil) (Int.toNat (0 : Int))))), (.flt a1)]), (.one (.int .i64 ((0 : Int))))]))) (K (AT.tup [(.one (.raw Go.Value.nilIface)), (.one (.int .i64 ((6 : Int))))]))))
  | [.av (.agg [.int .u8 a0, .flt a1, .sl [pa, pb]])] => cond (Decidable.decide (LT.lt a0 (1 : Int))) (K (AT.tup [(.one (.raw Go.Value.nilIface)), (.one (.int .i64 ((70 : Int))))])) (cond (Decidable.decide (GT.gt a0 (3 : Int))) (K (AT.tup [(.one (.raw Go.Value.nilIface)), (.one (.int .i64 ((70 : Int))))])) (cond (BEq.beq a0 (2 : Int)) (cond (bne (shape_capsule_check (Prod.fst (gp (List.cons pa (List.cons pb List.nil)) (Int.toNat (0 : Int)))) (Prod.snd (gp (List.cons pa (List.cons pb List.nil)) (Int.toNat (0 : Int)))) (Prod.fst (gp (List.cons pa (List.cons pb List.nil)) (Int.toNat (1 : Int)))) (Prod.snd (gp (List.cons pa (List.cons pb List.nil)) (Int.toNat (1 : Int)))) a1) (0 : Int)) (K (AT.tup [(.one (.raw Go.Value.nilIface)), (.one (.int .i64 (shape_capsule_check (Prod.fst (gp (List.cons pa (List.cons pb List.nil)) (Int.toNat (0 : Int)))) (Prod.snd (gp (List.cons pa (List.cons pb List.nil)) (Int.toNat (0 : Int)))) (Prod.fst (gp (List.cons pa (List.cons pb List.nil)) (Int.toNat (1 : Int)))) (Prod.snd (gp (List.cons pa (List.cons pb List.nil)) (Int.toNat (1 : Int)))) a1)))])) (K (AT.tup [(.ifa ((129 : Nat)) [(.flt (Prod.fst (gp (List.cons pa (List.cons pb List.nil)) (Int.toNat (0 : Int))))), (.flt (Prod.snd (gp (List.cons pa (List.cons pb List.nil)) (Int.toNat (0 : Int))))), (.flt (Prod.fst (gp (List.cons pa (List.cons pb List.nil)) (Int.toNat (1 : Int))))), (.flt (Prod.snd (gp (List.cons pa (List.cons pb List.nil)) (Int.toNat (1 : Int))))), (.flt a1)]), (.one (.int .i64 ((0 : Int))))]))) (K (AT.tup [(.one (.raw Go.Value.nilIface)), (.one (.int .i64 ((6 : Int))))]))))
  | [.av (.agg [.int .u8 a0, .flt a1, .sl (pa :: pb :: pc :: pz)])] => cond (Decidable.decide (LT.lt a0 (1 : Int))) (K (AT.tup [(.one (.raw Go.Value.nilIface)), (.one (.int .i64 ((70 : Int))))])) (cond (Decidable.decide (GT.gt a0 (3 : Int))) (K (AT.tup [(.one (.raw Go.Value.nilIface)), (.one (.int .i64 ((70 : Int))))])) (cond (BEq.beq a0 (3 : Int)) (cond (Decidable.decide (GE.ge (Nat.cast (List.length (List.cons pa (List.cons pb (List.cons pc pz)))) : Int) (3 : Int))) (cond (Decidable.decide (LE.le (Nat.cast (List.length (List.cons pa (List.cons pb (List.cons pc pz)))) : Int) (8 : Int))) (cond (fEq a1 (0 : Nat)) (cond (bne (shape_polygon_check (List.cons pa (List.cons pb (List.cons pc pz)))) (0 : Int)) (K (AT.tup [(.one (.raw Go.Value.nilIface)), (.one (.int .i64 (shape_polygon_check (List.cons pa (List.cons pb (List.cons pc pz))))))])) (K (AT.tup [(.ifc ((130 : Nat)) (.sl (List.cons pa (List.cons pb (List.cons pc pz))))), (.one (.int .i64 ((0 : Int))))]))) (K (AT.tup [(.one (.raw Go.Value.nilIface)), (.one (.int .i64 ((6 : Int))))]))) (K (AT.tup [(.one (.raw Go.Value.nilIface)), (.one (.int .i64 ((6 : Int))))]))) (K (AT.tup [(.one (.raw Go.Value.nilIface)), (.one (.int .i64 ((6 : Int))))]))) (K (AT.tup [(.one (.raw Go.Value.nilIface)), (.one (.int .i64 ((6 : Int))))]))))
  | _ => False⟩
theorem k44 (l : List AT) (K : AT → Prop) (h : e44.k l K) : ∃ r, e44.d l = some r ∧ K r := by
  simp only [e44] at h ⊢
  unfold d44
  split at h
  · rename_i a0 a1
    revert h
    cases (Decidable.decide (LT.lt a0 (1 : Int))) with
    | true =>
        intro h; exact ⟨_, rfl, h⟩
    | false =>
        cases (Decidable.decide (GT.gt a0 (3 : Int))) with
        | true =>
            intro h; exact ⟨_, rfl, h⟩
        | false =>
            intro h; exact ⟨_, rfl, h⟩
  · rename_i a0 a1 pa
    revert h
    cases (Decidable.decide (LT.lt a0 (1 : Int))) with
    | true =>
        intro h; exact ⟨_, rfl, h⟩
    | false =>
        cases (Decidable.decide (GT.gt a0 (3 : Int))) with
        | true =>
            intro h; exact ⟨_, rfl, h⟩
        | false =>
            cases (BEq.beq a0 (1 : Int)) with
            | true =>
                cases (bne (shape_circle_check (Prod.fst (gp (List.cons pa List.nil) (Int.toNat (0 : Int)))) (Prod.snd (gp (List.cons pa List.nil) (Int.toNat (0 : Int)))) a1) (0 : Int)) with
                | true =>
                    intro h; exact ⟨_, rfl, h⟩
                | false =>
                    intro h; exact ⟨_, rfl, h⟩
            | false =>
                intro h; exact ⟨_, rfl, h⟩
  · rename_i a0 a1 pa pb
    revert h
    cases (Decidable.decide (LT.lt a0 (1 : Int))) with
    | true =>
        intro h; exact ⟨_, rfl, h⟩
    | false =>
        cases (Decidable.decide (GT.gt a0 (3 : Int))) with
        | true =>
            intro h; exact ⟨_, rfl, h⟩
        | false =>
            cases (BEq.beq a0 (2 : Int)) with
            | true =>
                cases (bne (shape_capsule_check (Prod.fst (gp (List.cons pa (List.cons pb List.nil)) (Int.toNat (0 : Int)))) (Prod.snd (gp (List.cons pa (List.cons pb List.nil)) (Int.toNat (0 : Int)))) (Prod.fst (gp (List.cons pa (List.cons pb List.nil)) (Int.toNat (1 : Int)))) (Prod.snd (gp (List.cons pa (List.cons pb List.nil)) (Int.toNat (1 : Int)))) a1) (0 : Int)) with
                | true =>
                    intro h; exact ⟨_, rfl, h⟩
                | false =>
                    intro h; exact ⟨_, rfl, h⟩
            | false =>
                intro h; exact ⟨_, rfl, h⟩
  · rename_i a0 a1 pa pb pc pz
    revert h
    cases (Decidable.decide (LT.lt a0 (1 : Int))) with
    | true =>
        intro h; exact ⟨_, rfl, h⟩
    | false =>
        cases (Decidable.decide (GT.gt a0 (3 : Int))) with
        | true =>
            intro h; exact ⟨_, rfl, h⟩
        | false =>
            cases (BEq.beq a0 (3 : Int)) with
            | true =>
                cases (Decidable.decide (GE.ge (Nat.cast (List.length (List.cons pa (List.cons pb (List.cons pc pz)))) : Int) (3 : Int))) with
                | true =>
                    cases (Decidable.decide (LE.le (Nat.cast (List.length (List.cons pa (List.cons pb (List.cons pc pz)))) : Int) (8 : Int))) with
                    | true =>
                        cases (fEq a1 (0 : Nat)) with
                        | true =>
                            cases (bne (shape_polygon_check (List.cons pa (List.cons pb (List.cons pc pz)))) (0 : Int)) with
                            | true =>
                                intro h; exact ⟨_, rfl, h⟩
                            | false =>
                                intro h; exact ⟨_, rfl, h⟩
                        | false =>
                            intro h; exact ⟨_, rfl, h⟩
                    | false =>
                        intro h; exact ⟨_, rfl, h⟩
                | false =>
                    intro h; exact ⟨_, rfl, h⟩
            | false =>
                intro h; exact ⟨_, rfl, h⟩
  · exact h.elim
theorem c44 : CallOk Pr 44 e44 := by
  refine callOk_auto (T := tb 20 [(85, e85), (128, e128), (139, e139), (143, e143)] [] []) (tb_ok (fnCons c85 (fnCons c128 (fnCons c139 (fnCons c143 (fnNil _))))) (fnBNil _)) Try.func44 rfl (by decide) rfl rfl k44 ?_
  intro l r h hb
  change d44 l = some r at h
  unfold d44 at h
  split at h
  · rename_i a0 a1
    have key : (Nat.ble 1 Try.f44.ntmps = true ∧ noNmT [r] = true ∧ (cond (Decidable.decide (LT.lt a0 (1 : Int))) (AT.tup [(.one (.raw Go.Value.nilIface)), (.one (.int .i64 ((70 : Int))))] = r) (cond (Decidable.decide (GT.gt a0 (3 : Int))) (AT.tup [(.one (.raw Go.Value.nilIface)), (.one (.int .i64 ((70 : Int))))] = r) (AT.tup [(.one (.raw Go.Value.nilIface)), (.one (.int .i64 ((6 : Int))))] = r)))) := by
      revert h
      cases (Decidable.decide (LT.lt a0 (1 : Int))) with
      | true =>
          intro h; cases h; exact ⟨rfl, rfl, rfl⟩
      | false =>
          cases (Decidable.decide (GT.gt a0 (3 : Int))) with
          | true =>
              intro h; cases h; exact ⟨rfl, rfl, rfl⟩
          | false =>
              intro h; cases h; exact ⟨rfl, rfl, rfl⟩
    exact ⟨key.1, key.2.1, by_kernel (by kernel_rfl) key.2.2⟩
  · rename_i a0 a1 pa
    have key : (Nat.ble 1 Try.f44.ntmps = true ∧ noNmT [r] = true ∧ (cond (Decidable.decide (LT.lt a0 (1 : Int))) (AT.tup [(.one (.raw Go.Value.nilIface)), (.one (.int .i64 ((70 : Int))))] = r) (cond (Decidable.decide (GT.gt a0 (3 : Int))) (AT.tup [(.one (.raw Go.Value.nilIface)), (.one (.int .i64 ((70 : Int))))] = r) (cond (BEq.beq a0 (1 : Int)) (cond (bne (shape_circle_check (Prod.fst (gp (List.cons pa List.nil) (Int.toNat (0 : Int)))) (Prod.snd (gp (List.cons pa List.nil) (Int.toNat (0 : Int)))) a1) (0 : Int)) (AT.tup [(.one (.raw Go.Value.nilIface)), (.one (.int .i64 (shape_circle_check (Prod.fst (gp (List.cons pa List.nil) (Int.toNat (0 : Int)))) (Prod.snd (gp (List.cons pa List.nil) (Int.toNat (0 : Int)))) a1)))] = r) (AT.tup [(.ifa ((127 : Nat)) [(.flt (Prod.fst (gp (List.cons pa List.nil) (Int.toNat (0 : Int))))), (.flt (Prod.snd (gp (List.cons pa List.nil) (Int.toNat (0 : Int))))), (.flt a1)]), (.one (.int .i64 ((0 : Int))))] = r)) (AT.tup [(.one (.raw Go.Value.nilIface)), (.one (.int .i64 ((6 : Int))))] = r))))) := by
      revert h
      cases (Decidable.decide (LT.lt a0 (1 : Int))) with
      | true =>
          intro h; cases h; exact ⟨rfl, rfl, rfl⟩
      | false =>
          cases (Decidable.decide (GT.gt a0 (3 : Int))) with
          | true =>
              intro h; cases h; exact ⟨rfl, rfl, rfl⟩
          | false =>
              cases (BEq.beq a0 (1 : Int)) with
              | true =>
                  cases (bne (shape_circle_check (Prod.fst (gp (List.cons pa List.nil) (Int.toNat (0 : Int)))) (Prod.snd (gp (List.cons pa List.nil) (Int.toNat (0 : Int)))) a1) (0 : Int)) with
                  | true =>
                      intro h; cases h; exact ⟨rfl, rfl, rfl⟩
                  | false =>
                      intro h; cases h; exact ⟨rfl, rfl, rfl⟩
              | false =>
                  intro h; cases h; exact ⟨rfl, rfl, rfl⟩
    exact ⟨key.1, key.2.1, by_kernel (by kernel_rfl) key.2.2⟩
  · rename_i a0 a1 pa pb
    have key : (Nat.ble 1 Try.f44.ntmps = true ∧ noNmT [r] = true ∧ (cond (Decidable.decide (LT.lt a0 (1 : Int))) (AT.tup [(.one (.raw Go.Value.nilIface)), (.one (.int .i64 ((70 : Int))))] = r) (cond (Decidable.decide (GT.gt a0 (3 : Int))) (AT.tup [(.one (.raw Go.Value.nilIface)), (.one (.int .i64 ((70 : Int))))] = r) (cond (BEq.beq a0 (2 : Int)) (cond (bne (shape_capsule_check (Prod.fst (gp (List.cons pa (List.cons pb List.nil)) (Int.toNat (0 : Int)))) (Prod.snd (gp (List.cons pa (List.cons pb List.nil)) (Int.toNat (0 : Int)))) (Prod.fst (gp (List.cons pa (List.cons pb List.nil)) (Int.toNat (1 : Int)))) (Prod.snd (gp (List.cons pa (List.cons pb List.nil)) (Int.toNat (1 : Int)))) a1) (0 : Int)) (AT.tup [(.one (.raw Go.Value.nilIface)), (.one (.int .i64 (shape_capsule_check (Prod.fst (gp (List.cons pa (List.cons pb List.nil)) (Int.toNat (0 : Int)))) (Prod.snd (gp (List.cons pa (List.cons pb List.nil)) (Int.toNat (0 : Int)))) (Prod.fst (gp (List.cons pa (List.cons pb List.nil)) (Int.toNat (1 : Int)))) (Prod.snd (gp (List.cons pa (List.cons pb List.nil)) (Int.toNat (1 : Int)))) a1)))] = r) (AT.tup [(.ifa ((129 : Nat)) [(.flt (Prod.fst (gp (List.cons pa (List.cons pb List.nil)) (Int.toNat (0 : Int))))), (.flt (Prod.snd (gp (List.cons pa (List.cons pb List.nil)) (Int.toNat (0 : Int))))), (.flt (Prod.fst (gp (List.cons pa (List.cons pb List.nil)) (Int.toNat (1 : Int))))), (.flt (Prod.snd (gp (List.cons pa (List.cons pb List.nil)) (Int.toNat (1 : Int))))), (.flt a1)]), (.one (.int .i64 ((0 : Int))))] = r)) (AT.tup [(.one (.raw Go.Value.nilIface)), (.one (.int .i64 ((6 : Int))))] = r))))) := by
      revert h
      cases (Decidable.decide (LT.lt a0 (1 : Int))) with
      | true =>
          intro h; cases h; exact ⟨rfl, rfl, rfl⟩
      | false =>
          cases (Decidable.decide (GT.gt a0 (3 : Int))) with
          | true =>
              intro h; cases h; exact ⟨rfl, rfl, rfl⟩
          | false =>
              cases (BEq.beq a0 (2 : Int)) with
              | true =>
                  cases (bne (shape_capsule_check (Prod.fst (gp (List.cons pa (List.cons pb List.nil)) (Int.toNat (0 : Int)))) (Prod.snd (gp (List.cons pa (List.cons pb List.nil)) (Int.toNat (0 : Int)))) (Prod.fst (gp (List.cons pa (List.cons pb List.nil)) (Int.toNat (1 : Int)))) (Prod.snd (gp (List.cons pa (List.cons pb List.nil)) (Int.toNat (1 : Int)))) a1) (0 : Int)) with
                  | true =>
                      intro h; cases h; exact ⟨rfl, rfl, rfl⟩
                  | false =>
                      intro h; cases h; exact ⟨rfl, rfl, rfl⟩
              | false =>
                  intro h; cases h; exact ⟨rfl, rfl, rfl⟩
    exact ⟨key.1, key.2.1, by_kernel (by kernel_rfl) key.2.2⟩
  · rename_i a0 a1 pa pb pc pz
    have key : (Nat.ble 1 Try.f44.ntmps = true ∧ noNmT [r] = true ∧ (cond (Decidable.decide (LT.lt a0 (1 : Int))) (AT.tup [(.one (.raw Go.Value.nilIface)), (.one (.int .i64 ((70 : Int))))] = r) (cond (Decidable.decide (GT.gt a0 (3 : Int))) (AT.tup [(.one (.raw Go.Value.nilIface)), (.one (.int .i64 ((70 : Int))))] = r) (cond (BEq.beq a0 (3 : Int)) (cond (Decidable.decide (GE.ge (Nat.cast (List.length (List.cons pa (List.cons pb (List.cons pc pz)))) : Int) (3 : Int))) (cond (Decidable.decide (LE.le (Nat.cast (List.length (List.cons pa (List.cons pb (List.cons pc pz)))) : Int) (8 : Int))) (cond (fEq a1 (0 : Nat)) (cond (bne (shape_polygon_check (List.cons pa (List.cons pb (List.cons pc pz)))) (0 : Int)) (AT.tup [(.one (.raw Go.Value.nilIface)), (.one (.int .i64 (shape_polygon_check (List.cons pa (List.cons pb (List.cons pc pz))))))] = r) (AT.tup [(.ifc ((130 : Nat)) (.sl (List.cons pa (List.cons pb (List.cons pc pz))))), (.one (.int .i64 ((0 : Int))))] = r)) (AT.tup [(.one (.raw Go.Value.nilIface)), (.one (.int .i64 ((6 : Int))))] = r)) (AT.tup [(.one (.raw Go.Value.nilIface)), (.one (.int .i64 ((6 : Int))))] = r)) (AT.tup [(.one (.raw Go.Value.nilIface)), (.one (.int .i64 ((6 : Int))))] = r)) (AT.tup [(.one (.raw Go.Value.nilIface)), (.one (.int .i64 ((6 : Int))))] = r))))) := by
      revert h
      cases (Decidable.decide (LT.lt a0 (1 : Int))) with
      | true =>
          intro h; cases h; exact ⟨rfl, rfl, rfl⟩
      | false =>
          cases (Decidable.decide (GT.gt a0 (3 : Int))) with
          | true =>
              intro h; cases h; exact ⟨rfl, rfl, rfl⟩
          | false =>
              cases (BEq.beq a0 (3 : Int)) with
              | true =>
                  cases (Decidable.decide (GE.ge (Nat.cast (List.length (List.cons pa (List.cons pb (List.cons pc pz)))) : Int) (3 : Int))) with
                  | true =>
                      cases (Decidable.decide (LE.le (Nat.cast (List.length (List.cons pa (List.cons pb (List.cons pc pz)))) : Int) (8 : Int))) with
                      | true =>
                          cases (fEq a1 (0 : Nat)) with
                          | true =>
                              cases (bne (shape_polygon_check (List.cons pa (List.cons pb (List.cons pc pz)))) (0 : Int)) with
                              | true =>
                                  intro h; cases h; exact ⟨rfl, rfl, rfl⟩
                              | false =>
                                  intro h; cases h; exact ⟨rfl, rfl, rfl⟩
                          | false =>
                              intro h; cases h; exact ⟨rfl, rfl, rfl⟩
                      | false =>
                          intro h; cases h; exact ⟨rfl, rfl, rfl⟩
                  | false =>
                      intro h; cases h; exact ⟨rfl, rfl, rfl⟩
              | false =>
                  intro h; cases h; exact ⟨rfl, rfl, rfl⟩
    exact ⟨key.1, key.2.1, by_kernel (by kernel_rfl) key.2.2⟩
  · cases h

end Go.Proofs.Ythopjahoaljhaaa.X

/-! ## Contracts of functions of the program that take a shape, laid out by a program of mine (genv.py): by the number of points. -/
set_option linter.unusedVariables false
set_option linter.unusedSimpArgs false
set_option maxRecDepth 100000
namespace Go.Proofs.Ythopjahoaljhaaa.X
open Go Go.RowKit

/-- tumble/shape.Check -/
def shape_Check_v0 (a0 : Int) (a1 : Nat) : Int := cond (Decidable.decide (LT.lt a0 (1 : Int))) ((70 : Int)) (cond (Decidable.decide (GT.gt a0 (3 : Int))) ((70 : Int)) ((6 : Int)))
def shape_Check_v1 (a0 : Int) (a1 : Nat) (pa : Nat × Nat) : Int := cond (Decidable.decide (LT.lt a0 (1 : Int))) ((70 : Int)) (cond (Decidable.decide (GT.gt a0 (3 : Int))) ((70 : Int)) (cond (BEq.beq a0 (1 : Int)) (cond (bne (shape_circle_check (Prod.fst (gp (List.cons pa List.nil) (Int.toNat (0 : Int)))) (Prod.snd (gp (List.cons pa List.nil) (Int.toNat (0 : Int)))) a1) (0 : Int)) (shape_circle_check (Prod.fst (gp (List.cons pa List.nil) (Int.toNat (0 : Int)))) (Prod.snd (gp (List.cons pa List.nil) (Int.toNat (0 : Int)))) a1) ((0 : Int))) ((6 : Int))))
def shape_Check_v2 (a0 : Int) (a1 : Nat) (pa : Nat × Nat) (pb : Nat × Nat) : Int := cond (Decidable.decide (LT.lt a0 (1 : Int))) ((70 : Int)) (cond (Decidable.decide (GT.gt a0 (3 : Int))) ((70 : Int)) (cond (BEq.beq a0 (2 : Int)) (cond (bne (shape_capsule_check (Prod.fst (gp (List.cons pa (List.cons pb List.nil)) (Int.toNat (0 : Int)))) (Prod.snd (gp (List.cons pa (List.cons pb List.nil)) (Int.toNat (0 : Int)))) (Prod.fst (gp (List.cons pa (List.cons pb List.nil)) (Int.toNat (1 : Int)))) (Prod.snd (gp (List.cons pa (List.cons pb List.nil)) (Int.toNat (1 : Int)))) a1) (0 : Int)) (shape_capsule_check (Prod.fst (gp (List.cons pa (List.cons pb List.nil)) (Int.toNat (0 : Int)))) (Prod.snd (gp (List.cons pa (List.cons pb List.nil)) (Int.toNat (0 : Int)))) (Prod.fst (gp (List.cons pa (List.cons pb List.nil)) (Int.toNat (1 : Int)))) (Prod.snd (gp (List.cons pa (List.cons pb List.nil)) (Int.toNat (1 : Int)))) a1) ((0 : Int))) ((6 : Int))))
def shape_Check_v3 (a0 : Int) (a1 : Nat) (pa : Nat × Nat) (pb : Nat × Nat) (pc : Nat × Nat) (pz : List (Nat × Nat)) : Int := cond (Decidable.decide (LT.lt a0 (1 : Int))) ((70 : Int)) (cond (Decidable.decide (GT.gt a0 (3 : Int))) ((70 : Int)) (cond (BEq.beq a0 (3 : Int)) (cond (Decidable.decide (GE.ge (Nat.cast (List.length (List.cons pa (List.cons pb (List.cons pc pz)))) : Int) (3 : Int))) (cond (Decidable.decide (LE.le (Nat.cast (List.length (List.cons pa (List.cons pb (List.cons pc pz)))) : Int) (8 : Int))) (cond (fEq a1 (0 : Nat)) (cond (bne (shape_polygon_check (List.cons pa (List.cons pb (List.cons pc pz)))) (0 : Int)) (shape_polygon_check (List.cons pa (List.cons pb (List.cons pc pz)))) ((0 : Int))) ((6 : Int))) ((6 : Int))) ((6 : Int))) ((6 : Int))))
def shape_Check (a0 : Int) (a1 : Nat) (a2 : List (Nat × Nat)) : Int := match a2 with
  | [] => shape_Check_v0 a0 a1
  | [pa] => shape_Check_v1 a0 a1 pa
  | [pa, pb] => shape_Check_v2 a0 a1 pa pb
  | pa :: pb :: pc :: pz => shape_Check_v3 a0 a1 pa pb pc pz
def d8 : List AT → Option AT
  | [.av (.agg [.int .u8 a0, .flt a1, .sl a2])] => some (.av (.one (.int .i64 (shape_Check a0 a1 a2))))
  | _ => none
def e8 : Ent := .of d8
theorem c8 : CallOk Pr 8 e8 := by
  refine callOk_auto (T := tb 11 [(44, e44)] [] []) (tb_ok (fnCons c44 (fnNil _)) (fnBNil _)) Try.func8 rfl (by decide) rfl rfl (Ent.of_k d8) ?_
  intro l r h hb
  change d8 l = some r at h
  unfold d8 at h
  split at h
  · rename_i a0 a1 a2
    cases h
    rcases a2 with _ | ⟨pa, _ | ⟨pb, _ | ⟨pc, pz⟩⟩⟩
    · refine ⟨rfl, rfl, by_kernel (q := cond (Decidable.decide (LT.lt a0 (1 : Int))) (AT.av (.one (.int .i64 ((70 : Int)))) = (.av (.one (.int .i64 (shape_Check_v0 a0 a1))))) (cond (Decidable.decide (GT.gt a0 (3 : Int))) (AT.av (.one (.int .i64 ((70 : Int)))) = (.av (.one (.int .i64 (shape_Check_v0 a0 a1))))) (AT.av (.one (.int .i64 ((6 : Int)))) = (.av (.one (.int .i64 (shape_Check_v0 a0 a1))))))) (by kernel_rfl) ?_⟩
      unfold shape_Check_v0
      cases (Decidable.decide (LT.lt a0 (1 : Int))) with
      | true =>
          rfl
      | false =>
          cases (Decidable.decide (GT.gt a0 (3 : Int))) with
          | true =>
              rfl
          | false =>
              rfl
    · refine ⟨rfl, rfl, by_kernel (q := cond (Decidable.decide (LT.lt a0 (1 : Int))) (AT.av (.one (.int .i64 ((70 : Int)))) = (.av (.one (.int .i64 (shape_Check_v1 a0 a1 pa))))) (cond (Decidable.decide (GT.gt a0 (3 : Int))) (AT.av (.one (.int .i64 ((70 : Int)))) = (.av (.one (.int .i64 (shape_Check_v1 a0 a1 pa))))) (cond (BEq.beq a0 (1 : Int)) (cond (bne (shape_circle_check (Prod.fst (gp (List.cons pa List.nil) (Int.toNat (0 : Int)))) (Prod.snd (gp (List.cons pa List.nil) (Int.toNat (0 : Int)))) a1) (0 : Int)) (AT.av (.one (.int .i64 (shape_circle_check (Prod.fst (gp (List.cons pa List.nil) (Int.toNat (0 : Int)))) (Prod.snd (gp (List.cons pa List.nil) (Int.toNat (0 : Int)))) a1))) = (.av (.one (.int .i64 (shape_Check_v1 a0 a1 pa))))) (AT.av (.one (.int .i64 ((0 : Int)))) = (.av (.one (.int .i64 (shape_Check_v1 a0 a1 pa)))))) (AT.av (.one (.int .i64 ((6 : Int)))) = (.av (.one (.int .i64 (shape_Check_v1 a0 a1 pa)))))))) (by kernel_rfl) ?_⟩
      unfold shape_Check_v1
      cases (Decidable.decide (LT.lt a0 (1 : Int))) with
      | true =>
          rfl
      | false =>
          cases (Decidable.decide (GT.gt a0 (3 : Int))) with
          | true =>
              rfl
          | false =>
              cases (BEq.beq a0 (1 : Int)) with
              | true =>
                  cases (bne (shape_circle_check (Prod.fst (gp (List.cons pa List.nil) (Int.toNat (0 : Int)))) (Prod.snd (gp (List.cons pa List.nil) (Int.toNat (0 : Int)))) a1) (0 : Int)) with
                  | true =>
                      rfl
                  | false =>
                      rfl
              | false =>
                  rfl
    · refine ⟨rfl, rfl, by_kernel (q := cond (Decidable.decide (LT.lt a0 (1 : Int))) (AT.av (.one (.int .i64 ((70 : Int)))) = (.av (.one (.int .i64 (shape_Check_v2 a0 a1 pa pb))))) (cond (Decidable.decide (GT.gt a0 (3 : Int))) (AT.av (.one (.int .i64 ((70 : Int)))) = (.av (.one (.int .i64 (shape_Check_v2 a0 a1 pa pb))))) (cond (BEq.beq a0 (2 : Int)) (cond (bne (shape_capsule_check (Prod.fst (gp (List.cons pa (List.cons pb List.nil)) (Int.toNat (0 : Int)))) (Prod.snd (gp (List.cons pa (List.cons pb List.nil)) (Int.toNat (0 : Int)))) (Prod.fst (gp (List.cons pa (List.cons pb List.nil)) (Int.toNat (1 : Int)))) (Prod.snd (gp (List.cons pa (List.cons pb List.nil)) (Int.toNat (1 : Int)))) a1) (0 : Int)) (AT.av (.one (.int .i64 (shape_capsule_check (Prod.fst (gp (List.cons pa (List.cons pb List.nil)) (Int.toNat (0 : Int)))) (Prod.snd (gp (List.cons pa (List.cons pb List.nil)) (Int.toNat (0 : Int)))) (Prod.fst (gp (List.cons pa (List.cons pb List.nil)) (Int.toNat (1 : Int)))) (Prod.snd (gp (List.cons pa (List.cons pb List.nil)) (Int.toNat (1 : Int)))) a1))) = (.av (.one (.int .i64 (shape_Check_v2 a0 a1 pa pb))))) (AT.av (.one (.int .i64 ((0 : Int)))) = (.av (.one (.int .i64 (shape_Check_v2 a0 a1 pa pb)))))) (AT.av (.one (.int .i64 ((6 : Int)))) = (.av (.one (.int .i64 (shape_Check_v2 a0 a1 pa pb)))))))) (by kernel_rfl) ?_⟩
      unfold shape_Check_v2
      cases (Decidable.decide (LT.lt a0 (1 : Int))) with
      | true =>
          rfl
      | false =>
          cases (Decidable.decide (GT.gt a0 (3 : Int))) with
          | true =>
              rfl
          | false =>
              cases (BEq.beq a0 (2 : Int)) with
              | true =>
                  cases (bne (shape_capsule_check (Prod.fst (gp (List.cons pa (List.cons pb List.nil)) (Int.toNat (0 : Int)))) (Prod.snd (gp (List.cons pa (List.cons pb List.nil)) (Int.toNat (0 : Int)))) (Prod.fst (gp (List.cons pa (List.cons pb List.nil)) (Int.toNat (1 : Int)))) (Prod.snd (gp (List.cons pa (List.cons pb List.nil)) (Int.toNat (1 : Int)))) a1) (0 : Int)) with
                  | true =>
                      rfl
                  | false =>
                      rfl
              | false =>
                  rfl
    · refine ⟨rfl, rfl, by_kernel (q := cond (Decidable.decide (LT.lt a0 (1 : Int))) (AT.av (.one (.int .i64 ((70 : Int)))) = (.av (.one (.int .i64 (shape_Check_v3 a0 a1 pa pb pc pz))))) (cond (Decidable.decide (GT.gt a0 (3 : Int))) (AT.av (.one (.int .i64 ((70 : Int)))) = (.av (.one (.int .i64 (shape_Check_v3 a0 a1 pa pb pc pz))))) (cond (BEq.beq a0 (3 : Int)) (cond (Decidable.decide (GE.ge (Nat.cast (List.length (List.cons pa (List.cons pb (List.cons pc pz)))) : Int) (3 : Int))) (cond (Decidable.decide (LE.le (Nat.cast (List.length (List.cons pa (List.cons pb (List.cons pc pz)))) : Int) (8 : Int))) (cond (fEq a1 (0 : Nat)) (cond (bne (shape_polygon_check (List.cons pa (List.cons pb (List.cons pc pz)))) (0 : Int)) (AT.av (.one (.int .i64 (shape_polygon_check (List.cons pa (List.cons pb (List.cons pc pz)))))) = (.av (.one (.int .i64 (shape_Check_v3 a0 a1 pa pb pc pz))))) (AT.av (.one (.int .i64 ((0 : Int)))) = (.av (.one (.int .i64 (shape_Check_v3 a0 a1 pa pb pc pz)))))) (AT.av (.one (.int .i64 ((6 : Int)))) = (.av (.one (.int .i64 (shape_Check_v3 a0 a1 pa pb pc pz)))))) (AT.av (.one (.int .i64 ((6 : Int)))) = (.av (.one (.int .i64 (shape_Check_v3 a0 a1 pa pb pc pz)))))) (AT.av (.one (.int .i64 ((6 : Int)))) = (.av (.one (.int .i64 (shape_Check_v3 a0 a1 pa pb pc pz)))))) (AT.av (.one (.int .i64 ((6 : Int)))) = (.av (.one (.int .i64 (shape_Check_v3 a0 a1 pa pb pc pz)))))))) (by kernel_rfl) ?_⟩
      unfold shape_Check_v3
      cases (Decidable.decide (LT.lt a0 (1 : Int))) with
      | true =>
          rfl
      | false =>
          cases (Decidable.decide (GT.gt a0 (3 : Int))) with
          | true =>
              rfl
          | false =>
              cases (BEq.beq a0 (3 : Int)) with
              | true =>
                  cases (Decidable.decide (GE.ge (Nat.cast (List.length (List.cons pa (List.cons pb (List.cons pc pz)))) : Int) (3 : Int))) with
                  | true =>
                      cases (Decidable.decide (LE.le (Nat.cast (List.length (List.cons pa (List.cons pb (List.cons pc pz)))) : Int) (8 : Int))) with
                      | true =>
                          cases (fEq a1 (0 : Nat)) with
                          | true =>
                              cases (bne (shape_polygon_check (List.cons pa (List.cons pb (List.cons pc pz)))) (0 : Int)) with
                              | true =>
                                  rfl
                              | false =>
                                  rfl
                          | false =>
                              rfl
                      | false =>
                          rfl
                  | false =>
                      rfl
              | false =>
                  rfl
  · cases h

end Go.Proofs.Ythopjahoaljhaaa.X

/-! ## The loops of near.holds and near.Segments. -/
set_option linter.unusedVariables false
set_option linter.unusedSimpArgs false
set_option maxRecDepth 100000
namespace Go.Proofs.Ythopjahoaljhaaa.X
open Go Go.RowKit

noncomputable def b80 : Code := ((loopsOf (Try.f80.body.getD .skip)).getD 0 .skip)
def vl80 : XE → List LV := fun
  | .n => [.t 2, .b 2, .t 4, .b 4, .t 13, .t 14, .t 15]
  | .r => [.t 4, .b 4, .t 5]
  | _ => [.t 4, .b 4]

theorem t80 (kd : Int) (rd : Nat) (m : List (Nat × Nat)) (x : Nat) (y : Nat) (l : List (Nat × Nat)) (i : Nat) (R : AT) (h : cond (Decidable.decide (LT.lt (Nat.cast i : Int) (Nat.cast (List.length l) : Int))) (cond (inRange ((Nat.cast i : Int)) (List.length l)) (cond (poly_Has_0 m (Prod.fst (gp l (Int.toNat (Nat.cast i : Int)))) (Prod.snd (gp l (Int.toNat (Nat.cast i : Int))))) (AT.tup [(.one (.int .i64 ((Nat.cast (codeX XE.r) : Int)))), (.one (.lp ((4 : Nat)) ((0 : Nat)))), (.agg [(.flt (Prod.fst (gp l (Int.toNat (Nat.cast i : Int))))), (.flt (Prod.snd (gp l (Int.toNat (Nat.cast i : Int)))))]), (.one (.bool Bool.true))] = R) (AT.tup [(.one (.int .i64 ((Nat.cast (codeX XE.n) : Int)))), (.one (.lp ((2 : Nat)) ((0 : Nat)))), (.agg [(.int .u8 kd), (.flt rd), (.sl m)]), (.one (.lp ((4 : Nat)) ((0 : Nat)))), (.agg [(.flt x), (.flt y)]), (.one (.sl l)), (.one (.int .i64 ((Nat.cast (List.length l) : Int)))), (.one (.int .i64 (Go.IntKind.wrap Go.IntKind.i64 (HAdd.hAdd (Nat.cast i : Int) (1 : Int)))))] = R)) (False)) (AT.tup [(.one (.int .i64 ((Nat.cast (codeX (XE.x (0 : Nat))) : Int)))), (.one (.lp ((4 : Nat)) ((0 : Nat)))), (.agg [(.flt x), (.flt y)])] = R)) : xcode (tb 30 [(19, e19)] [] []) b80 (mkS (vl80 .n) [.one (.lp 2 0), .agg [.int .u8 kd, .flt rd, .sl m], .one (.lp 4 0), .agg [.flt x, .flt y], .one (.sl l), .one (.int .i64 l.length), .one (.int .i64 i)]) (fun e σ => obsT vl80 e σ = R) := by_kernel (q := cond (Decidable.decide (LT.lt (Nat.cast i : Int) (Nat.cast (List.length l) : Int))) (cond (inRange ((Nat.cast i : Int)) (List.length l)) (cond (poly_Has_0 m (Prod.fst (gp l (Int.toNat (Nat.cast i : Int)))) (Prod.snd (gp l (Int.toNat (Nat.cast i : Int))))) (AT.tup [(.one (.int .i64 ((Nat.cast (codeX XE.r) : Int)))), (.one (.lp ((4 : Nat)) ((0 : Nat)))), (.agg [(.flt (Prod.fst (gp l (Int.toNat (Nat.cast i : Int))))), (.flt (Prod.snd (gp l (Int.toNat (Nat.cast i : Int)))))]), (.one (.bool Bool.true))] = R) (AT.tup [(.one (.int .i64 ((Nat.cast (codeX XE.n) : Int)))), (.one (.lp ((2 : Nat)) ((0 : Nat)))), (.agg [(.int .u8 kd), (.flt rd), (.sl m)]), (.one (.lp ((4 : Nat)) ((0 : Nat)))), (.agg [(.flt x), (.flt y)]), (.one (.sl l)), (.one (.int .i64 ((Nat.cast (List.length l) : Int)))), (.one (.int .i64 (Go.IntKind.wrap Go.IntKind.i64 (HAdd.hAdd (Nat.cast i : Int) (1 : Int)))))] = R)) (False)) (AT.tup [(.one (.int .i64 ((Nat.cast (codeX (XE.x (0 : Nat))) : Int)))), (.one (.lp ((4 : Nat)) ((0 : Nat)))), (.agg [(.flt x), (.flt y)])] = R)) (by kernel_rfl) h

/-- The first of some places that a polygon has, by its number. -/
def hold (m l : List (Nat × Nat)) : Option Nat := fstF (fun i => !(poly_Has_0 m (gp l i).1 (gp l i).2)) 0 l.length
def s80 (σ : St) (K : XE → St → Prop) : Prop :=
  match getLVs σ (vl80 .n) with
  | some [.one (.lp 2 0), .agg [.int .u8 kd, .flt rd, .sl m], .one (.lp 4 0), .agg [.flt x, .flt y], .one (.sl l), .one (.int .i64 n), .one (.int .i64 0)] =>
    n = l.length ∧ (bif (hold m l).isNone then K (.x 0) ⟨[(4, .av (.one (.lp 4 0)))], [(4, .cells [.flt x, .flt y])]⟩ else K .r ⟨[(4, .av (.one (.lp 4 0))), (5, .av (.one (.bool true)))], [(4, .cells [.flt (gp l ((hold m l).getD 0)).1, .flt (gp l ((hold m l).getD 0)).2])]⟩)
  | _ => False
structure Cx80 where
  (kd : Int) (rd : Nat) (m : List (Nat × Nat)) (x y : Nat) (l : List (Nat × Nat))
theorem lo80 : LoopOk Pr (tb 30 [(19, e19)] [] []) b80 s80 := by
  refine all_ok (tb_ok (fnCons c19 (fnNil _)) (fnBNil _)) (vl := vl80) (Ctx := Cx80)
    (enc := fun c i => [.one (.lp 2 0), .agg [.int .u8 c.kd, .flt c.rd, .sl c.m], .one (.lp 4 0), .agg [.flt c.x, .flt c.y], .one (.sl c.l), .one (.int .i64 c.l.length), .one (.int .i64 i)])
    (N := fun c => c.l.length) (f := fun c i => !(poly_Has_0 c.m (gp c.l i).1 (gp c.l i).2)) (xd := 0) (done := fun c => [.one (.lp 4 0), .agg [.flt c.x, .flt c.y]]) (bad := fun c i => [.one (.lp 4 0), .agg [.flt (gp c.l i).1, .flt (gp c.l i).2], .one (.bool true)])
    (pre := fun c => True) (noLoops (by kernel_rfl)) ?_ ?_ ?_
  · intro σ K h
    unfold s80 at h
    split at h
    · rename_i kd rd m x y l n hg
      obtain ⟨rfl, h⟩ := h
      refine ⟨⟨kd, rd, m, x, y, l⟩, 0, trivial, Nat.zero_le _, hg, ?_⟩
      show match hold m l with | none => _ | some j => _
      cases ha : hold m l with
      | none => rw [ha] at h; exact h
      | some j => rw [ha] at h; exact h
    · exact h.elim
  · intro c i h
    exact ⟨rfl, rfl, rfl⟩
  · rintro ⟨kd, rd, m, x, y, l⟩ i _ hk hb
    have hl : l.length ≤ 8796093022208 := hb 13 l rfl
    dsimp only at hk ⊢
    apply t80
    rw [dlt, inRange_nat, Int.toNat_natCast]
    by_cases hi : i < l.length
    · have hw : IntKind.i64.wrap ((i : Int) + 1) = ((i + 1 : Nat) : Int) := wrap_succ (by omega)
      rw [hw, decide_eq_true hi]
      cases poly_Has_0 m (gp l i).1 (gp l i).2 <;> rfl
    · rw [decide_eq_false hi]; rfl

noncomputable def b40 : Code := ((loopsOf (Try.f40.body.getD .skip)).getD 0 .skip)
def vl40 : XE → List LV := fun
  | .n => [.t 93, .t 94, .t 17, .b 17, .t 8, .b 8]
  | _ => [.t 17, .b 17, .t 8, .b 8]

theorem t40_0 (far0 : Nat) (ax0 : Nat) (ay0 : Nat) (bx0 : Nat) (by0 : Nat) (far1 : Nat) (ax1 : Nat) (ay1 : Nat) (bx1 : Nat) (by1 : Nat) (far2 : Nat) (ax2 : Nat) (ay2 : Nat) (bx2 : Nat) (by2 : Nat) (f : Nat) (p : Nat) (q : Nat) (r : Nat) (s : Nat) (R : AT) (h : cond (fLt far0 f) (AT.tup [(.one (.int .i64 ((Nat.cast (codeX XE.n) : Int)))), (.agg [(.flt far0), (.flt ax0), (.flt ay0), (.flt bx0), (.flt by0), (.flt far1), (.flt ax1), (.flt ay1), (.flt bx1), (.flt by1), (.flt far2), (.flt ax2), (.flt ay2), (.flt bx2), (.flt by2)]), (.one (.int .i64 (Go.IntKind.wrap Go.IntKind.i64 (HAdd.hAdd (0 : Int) (1 : Int))))), (.one (.lp ((17 : Nat)) ((0 : Nat)))), (.agg [(.flt far0), (.flt ax0), (.flt ay0), (.flt bx0), (.flt by0)]), (.one (.lp ((8 : Nat)) ((0 : Nat)))), (.agg [(.flt ((0 : Nat))), (.flt ((0 : Nat))), (.flt ((0 : Nat))), (.flt ((0 : Nat))), (.flt ((0 : Nat)))])] = R) (AT.tup [(.one (.int .i64 ((Nat.cast (codeX XE.n) : Int)))), (.agg [(.flt far0), (.flt ax0), (.flt ay0), (.flt bx0), (.flt by0), (.flt far1), (.flt ax1), (.flt ay1), (.flt bx1), (.flt by1), (.flt far2), (.flt ax2), (.flt ay2), (.flt bx2), (.flt by2)]), (.one (.int .i64 (Go.IntKind.wrap Go.IntKind.i64 (HAdd.hAdd (0 : Int) (1 : Int))))), (.one (.lp ((17 : Nat)) ((0 : Nat)))), (.agg [(.flt f), (.flt p), (.flt q), (.flt r), (.flt s)]), (.one (.lp ((8 : Nat)) ((0 : Nat)))), (.agg [(.flt ((0 : Nat))), (.flt ((0 : Nat))), (.flt ((0 : Nat))), (.flt ((0 : Nat))), (.flt ((0 : Nat)))])] = R)) : xcode (tb 105 [(13, e13), (43, e43), (54, e54), (77, e77), (78, e78), (79, e79)] [] []) b40 (mkS (vl40 .n) [.agg [.flt far0, .flt ax0, .flt ay0, .flt bx0, .flt by0, .flt far1, .flt ax1, .flt ay1, .flt bx1, .flt by1, .flt far2, .flt ax2, .flt ay2, .flt bx2, .flt by2], .one (.int .i64 0), .one (.lp 17 0), .agg [.flt f, .flt p, .flt q, .flt r, .flt s], .one (.lp 8 0), .agg [.flt 0, .flt 0, .flt 0, .flt 0, .flt 0]]) (fun e σ => obsT vl40 e σ = R) := by_kernel (q := cond (fLt far0 f) (AT.tup [(.one (.int .i64 ((Nat.cast (codeX XE.n) : Int)))), (.agg [(.flt far0), (.flt ax0), (.flt ay0), (.flt bx0), (.flt by0), (.flt far1), (.flt ax1), (.flt ay1), (.flt bx1), (.flt by1), (.flt far2), (.flt ax2), (.flt ay2), (.flt bx2), (.flt by2)]), (.one (.int .i64 (Go.IntKind.wrap Go.IntKind.i64 (HAdd.hAdd (0 : Int) (1 : Int))))), (.one (.lp ((17 : Nat)) ((0 : Nat)))), (.agg [(.flt far0), (.flt ax0), (.flt ay0), (.flt bx0), (.flt by0)]), (.one (.lp ((8 : Nat)) ((0 : Nat)))), (.agg [(.flt ((0 : Nat))), (.flt ((0 : Nat))), (.flt ((0 : Nat))), (.flt ((0 : Nat))), (.flt ((0 : Nat)))])] = R) (AT.tup [(.one (.int .i64 ((Nat.cast (codeX XE.n) : Int)))), (.agg [(.flt far0), (.flt ax0), (.flt ay0), (.flt bx0), (.flt by0), (.flt far1), (.flt ax1), (.flt ay1), (.flt bx1), (.flt by1), (.flt far2), (.flt ax2), (.flt ay2), (.flt bx2), (.flt by2)]), (.one (.int .i64 (Go.IntKind.wrap Go.IntKind.i64 (HAdd.hAdd (0 : Int) (1 : Int))))), (.one (.lp ((17 : Nat)) ((0 : Nat)))), (.agg [(.flt f), (.flt p), (.flt q), (.flt r), (.flt s)]), (.one (.lp ((8 : Nat)) ((0 : Nat)))), (.agg [(.flt ((0 : Nat))), (.flt ((0 : Nat))), (.flt ((0 : Nat))), (.flt ((0 : Nat))), (.flt ((0 : Nat)))])] = R)) (by kernel_rfl) h

theorem t40_1 (far0 : Nat) (ax0 : Nat) (ay0 : Nat) (bx0 : Nat) (by0 : Nat) (far1 : Nat) (ax1 : Nat) (ay1 : Nat) (bx1 : Nat) (by1 : Nat) (far2 : Nat) (ax2 : Nat) (ay2 : Nat) (bx2 : Nat) (by2 : Nat) (f : Nat) (p : Nat) (q : Nat) (r : Nat) (s : Nat) (R : AT) (h : cond (fLt far1 f) (AT.tup [(.one (.int .i64 ((Nat.cast (codeX XE.n) : Int)))), (.agg [(.flt far0), (.flt ax0), (.flt ay0), (.flt bx0), (.flt by0), (.flt far1), (.flt ax1), (.flt ay1), (.flt bx1), (.flt by1), (.flt far2), (.flt ax2), (.flt ay2), (.flt bx2), (.flt by2)]), (.one (.int .i64 (Go.IntKind.wrap Go.IntKind.i64 (HAdd.hAdd (1 : Int) (1 : Int))))), (.one (.lp ((17 : Nat)) ((0 : Nat)))), (.agg [(.flt far1), (.flt ax1), (.flt ay1), (.flt bx1), (.flt by1)]), (.one (.lp ((8 : Nat)) ((0 : Nat)))), (.agg [(.flt ((0 : Nat))), (.flt ((0 : Nat))), (.flt ((0 : Nat))), (.flt ((0 : Nat))), (.flt ((0 : Nat)))])] = R) (AT.tup [(.one (.int .i64 ((Nat.cast (codeX XE.n) : Int)))), (.agg [(.flt far0), (.flt ax0), (.flt ay0), (.flt bx0), (.flt by0), (.flt far1), (.flt ax1), (.flt ay1), (.flt bx1), (.flt by1), (.flt far2), (.flt ax2), (.flt ay2), (.flt bx2), (.flt by2)]), (.one (.int .i64 (Go.IntKind.wrap Go.IntKind.i64 (HAdd.hAdd (1 : Int) (1 : Int))))), (.one (.lp ((17 : Nat)) ((0 : Nat)))), (.agg [(.flt f), (.flt p), (.flt q), (.flt r), (.flt s)]), (.one (.lp ((8 : Nat)) ((0 : Nat)))), (.agg [(.flt ((0 : Nat))), (.flt ((0 : Nat))), (.flt ((0 : Nat))), (.flt ((0 : Nat))), (.flt ((0 : Nat)))])] = R)) : xcode (tb 105 [(13, e13), (43, e43), (54, e54), (77, e77), (78, e78), (79, e79)] [] []) b40 (mkS (vl40 .n) [.agg [.flt far0, .flt ax0, .flt ay0, .flt bx0, .flt by0, .flt far1, .flt ax1, .flt ay1, .flt bx1, .flt by1, .flt far2, .flt ax2, .flt ay2, .flt bx2, .flt by2], .one (.int .i64 1), .one (.lp 17 0), .agg [.flt f, .flt p, .flt q, .flt r, .flt s], .one (.lp 8 0), .agg [.flt 0, .flt 0, .flt 0, .flt 0, .flt 0]]) (fun e σ => obsT vl40 e σ = R) := by_kernel (q := cond (fLt far1 f) (AT.tup [(.one (.int .i64 ((Nat.cast (codeX XE.n) : Int)))), (.agg [(.flt far0), (.flt ax0), (.flt ay0), (.flt bx0), (.flt by0), (.flt far1), (.flt ax1), (.flt ay1), (.flt bx1), (.flt by1), (.flt far2), (.flt ax2), (.flt ay2), (.flt bx2), (.flt by2)]), (.one (.int .i64 (Go.IntKind.wrap Go.IntKind.i64 (HAdd.hAdd (1 : Int) (1 : Int))))), (.one (.lp ((17 : Nat)) ((0 : Nat)))), (.agg [(.flt far1), (.flt ax1), (.flt ay1), (.flt bx1), (.flt by1)]), (.one (.lp ((8 : Nat)) ((0 : Nat)))), (.agg [(.flt ((0 : Nat))), (.flt ((0 : Nat))), (.flt ((0 : Nat))), (.flt ((0 : Nat))), (.flt ((0 : Nat)))])] = R) (AT.tup [(.one (.int .i64 ((Nat.cast (codeX XE.n) : Int)))), (.agg [(.flt far0), (.flt ax0), (.flt ay0), (.flt bx0), (.flt by0), (.flt far1), (.flt ax1), (.flt ay1), (.flt bx1), (.flt by1), (.flt far2), (.flt ax2), (.flt ay2), (.flt bx2), (.flt by2)]), (.one (.int .i64 (Go.IntKind.wrap Go.IntKind.i64 (HAdd.hAdd (1 : Int) (1 : Int))))), (.one (.lp ((17 : Nat)) ((0 : Nat)))), (.agg [(.flt f), (.flt p), (.flt q), (.flt r), (.flt s)]), (.one (.lp ((8 : Nat)) ((0 : Nat)))), (.agg [(.flt ((0 : Nat))), (.flt ((0 : Nat))), (.flt ((0 : Nat))), (.flt ((0 : Nat))), (.flt ((0 : Nat)))])] = R)) (by kernel_rfl) h

theorem t40_2 (far0 : Nat) (ax0 : Nat) (ay0 : Nat) (bx0 : Nat) (by0 : Nat) (far1 : Nat) (ax1 : Nat) (ay1 : Nat) (bx1 : Nat) (by1 : Nat) (far2 : Nat) (ax2 : Nat) (ay2 : Nat) (bx2 : Nat) (by2 : Nat) (f : Nat) (p : Nat) (q : Nat) (r : Nat) (s : Nat) (R : AT) (h : cond (fLt far2 f) (AT.tup [(.one (.int .i64 ((Nat.cast (codeX XE.n) : Int)))), (.agg [(.flt far0), (.flt ax0), (.flt ay0), (.flt bx0), (.flt by0), (.flt far1), (.flt ax1), (.flt ay1), (.flt bx1), (.flt by1), (.flt far2), (.flt ax2), (.flt ay2), (.flt bx2), (.flt by2)]), (.one (.int .i64 (Go.IntKind.wrap Go.IntKind.i64 (HAdd.hAdd (2 : Int) (1 : Int))))), (.one (.lp ((17 : Nat)) ((0 : Nat)))), (.agg [(.flt far2), (.flt ax2), (.flt ay2), (.flt bx2), (.flt by2)]), (.one (.lp ((8 : Nat)) ((0 : Nat)))), (.agg [(.flt ((0 : Nat))), (.flt ((0 : Nat))), (.flt ((0 : Nat))), (.flt ((0 : Nat))), (.flt ((0 : Nat)))])] = R) (AT.tup [(.one (.int .i64 ((Nat.cast (codeX XE.n) : Int)))), (.agg [(.flt far0), (.flt ax0), (.flt ay0), (.flt bx0), (.flt by0), (.flt far1), (.flt ax1), (.flt ay1), (.flt bx1), (.flt by1), (.flt far2), (.flt ax2), (.flt ay2), (.flt bx2), (.flt by2)]), (.one (.int .i64 (Go.IntKind.wrap Go.IntKind.i64 (HAdd.hAdd (2 : Int) (1 : Int))))), (.one (.lp ((17 : Nat)) ((0 : Nat)))), (.agg [(.flt f), (.flt p), (.flt q), (.flt r), (.flt s)]), (.one (.lp ((8 : Nat)) ((0 : Nat)))), (.agg [(.flt ((0 : Nat))), (.flt ((0 : Nat))), (.flt ((0 : Nat))), (.flt ((0 : Nat))), (.flt ((0 : Nat)))])] = R)) : xcode (tb 105 [(13, e13), (43, e43), (54, e54), (77, e77), (78, e78), (79, e79)] [] []) b40 (mkS (vl40 .n) [.agg [.flt far0, .flt ax0, .flt ay0, .flt bx0, .flt by0, .flt far1, .flt ax1, .flt ay1, .flt bx1, .flt by1, .flt far2, .flt ax2, .flt ay2, .flt bx2, .flt by2], .one (.int .i64 2), .one (.lp 17 0), .agg [.flt f, .flt p, .flt q, .flt r, .flt s], .one (.lp 8 0), .agg [.flt 0, .flt 0, .flt 0, .flt 0, .flt 0]]) (fun e σ => obsT vl40 e σ = R) := by_kernel (q := cond (fLt far2 f) (AT.tup [(.one (.int .i64 ((Nat.cast (codeX XE.n) : Int)))), (.agg [(.flt far0), (.flt ax0), (.flt ay0), (.flt bx0), (.flt by0), (.flt far1), (.flt ax1), (.flt ay1), (.flt bx1), (.flt by1), (.flt far2), (.flt ax2), (.flt ay2), (.flt bx2), (.flt by2)]), (.one (.int .i64 (Go.IntKind.wrap Go.IntKind.i64 (HAdd.hAdd (2 : Int) (1 : Int))))), (.one (.lp ((17 : Nat)) ((0 : Nat)))), (.agg [(.flt far2), (.flt ax2), (.flt ay2), (.flt bx2), (.flt by2)]), (.one (.lp ((8 : Nat)) ((0 : Nat)))), (.agg [(.flt ((0 : Nat))), (.flt ((0 : Nat))), (.flt ((0 : Nat))), (.flt ((0 : Nat))), (.flt ((0 : Nat)))])] = R) (AT.tup [(.one (.int .i64 ((Nat.cast (codeX XE.n) : Int)))), (.agg [(.flt far0), (.flt ax0), (.flt ay0), (.flt bx0), (.flt by0), (.flt far1), (.flt ax1), (.flt ay1), (.flt bx1), (.flt by1), (.flt far2), (.flt ax2), (.flt ay2), (.flt bx2), (.flt by2)]), (.one (.int .i64 (Go.IntKind.wrap Go.IntKind.i64 (HAdd.hAdd (2 : Int) (1 : Int))))), (.one (.lp ((17 : Nat)) ((0 : Nat)))), (.agg [(.flt f), (.flt p), (.flt q), (.flt r), (.flt s)]), (.one (.lp ((8 : Nat)) ((0 : Nat)))), (.agg [(.flt ((0 : Nat))), (.flt ((0 : Nat))), (.flt ((0 : Nat))), (.flt ((0 : Nat))), (.flt ((0 : Nat)))])] = R)) (by kernel_rfl) h

theorem t40_3 (far0 : Nat) (ax0 : Nat) (ay0 : Nat) (bx0 : Nat) (by0 : Nat) (far1 : Nat) (ax1 : Nat) (ay1 : Nat) (bx1 : Nat) (by1 : Nat) (far2 : Nat) (ax2 : Nat) (ay2 : Nat) (bx2 : Nat) (by2 : Nat) (f : Nat) (p : Nat) (q : Nat) (r : Nat) (s : Nat) (R : AT) (h : AT.tup [(.one (.int .i64 ((Nat.cast (codeX (XE.x (0 : Nat))) : Int)))), (.one (.lp ((17 : Nat)) ((0 : Nat)))), (.agg [(.flt f), (.flt p), (.flt q), (.flt r), (.flt s)]), (.one (.lp ((8 : Nat)) ((0 : Nat)))), (.agg [(.flt ((0 : Nat))), (.flt ((0 : Nat))), (.flt ((0 : Nat))), (.flt ((0 : Nat))), (.flt ((0 : Nat)))])] = R) : xcode (tb 105 [(13, e13), (43, e43), (54, e54), (77, e77), (78, e78), (79, e79)] [] []) b40 (mkS (vl40 .n) [.agg [.flt far0, .flt ax0, .flt ay0, .flt bx0, .flt by0, .flt far1, .flt ax1, .flt ay1, .flt bx1, .flt by1, .flt far2, .flt ax2, .flt ay2, .flt bx2, .flt by2], .one (.int .i64 3), .one (.lp 17 0), .agg [.flt f, .flt p, .flt q, .flt r, .flt s], .one (.lp 8 0), .agg [.flt 0, .flt 0, .flt 0, .flt 0, .flt 0]]) (fun e σ => obsT vl40 e σ = R) := by_kernel (q := AT.tup [(.one (.int .i64 ((Nat.cast (codeX (XE.x (0 : Nat))) : Int)))), (.one (.lp ((17 : Nat)) ((0 : Nat)))), (.agg [(.flt f), (.flt p), (.flt q), (.flt r), (.flt s)]), (.one (.lp ((8 : Nat)) ((0 : Nat)))), (.agg [(.flt ((0 : Nat))), (.flt ((0 : Nat))), (.flt ((0 : Nat))), (.flt ((0 : Nat))), (.flt ((0 : Nat)))])] = R) (by kernel_rfl) h

structure Nr where
  (far ax ay bx by' : Nat)
/-- The nearer one, the first of what is as near. -/
def nearer (n best : Nr) : Nr := bif fLt n.far best.far then n else best
structure Cx40 where
  (a b c : Nr)
def enc40 (x : Cx40 × Nat × Nr) : List AV :=
  [.agg [.flt x.1.a.far, .flt x.1.a.ax, .flt x.1.a.ay, .flt x.1.a.bx, .flt x.1.a.by', .flt x.1.b.far, .flt x.1.b.ax, .flt x.1.b.ay, .flt x.1.b.bx, .flt x.1.b.by', .flt x.1.c.far, .flt x.1.c.ax, .flt x.1.c.ay, .flt x.1.c.bx, .flt x.1.c.by'],
    .one (.int .i64 x.2.1), .one (.lp 17 0), .agg [.flt x.2.2.far, .flt x.2.2.ax, .flt x.2.2.ay, .flt x.2.2.bx, .flt x.2.2.by'], .one (.lp 8 0), .agg [.flt 0, .flt 0, .flt 0, .flt 0, .flt 0]]
def st40 (x : Cx40 × Nat × Nr) : Sum (Cx40 × Nat × Nr) (XE × List AV) :=
  match x.2.1 with
  | 0 => .inl (x.1, 1, nearer x.1.a x.2.2)
  | 1 => .inl (x.1, 2, nearer x.1.b x.2.2)
  | 2 => .inl (x.1, 3, nearer x.1.c x.2.2)
  | _ => .inr (.x 0, [.one (.lp 17 0), .agg [.flt x.2.2.far, .flt x.2.2.ax, .flt x.2.2.ay, .flt x.2.2.bx, .flt x.2.2.by'], .one (.lp 8 0), .agg [.flt 0, .flt 0, .flt 0, .flt 0, .flt 0]])
def least4 (n a b c : Nr) : Nr := nearer c (nearer b (nearer a n))
def s40 (σ : St) (K : XE → St → Prop) : Prop :=
  match getLVs σ (vl40 .n) with
  | some [.agg [.flt far0, .flt ax0, .flt ay0, .flt bx0, .flt by0, .flt far1, .flt ax1, .flt ay1, .flt bx1, .flt by1, .flt far2, .flt ax2, .flt ay2, .flt bx2, .flt by2], .one (.int .i64 0), .one (.lp 17 0), .agg [.flt f, .flt p, .flt q, .flt r, .flt s], .one (.lp 8 0), .agg [.flt 0, .flt 0, .flt 0, .flt 0, .flt 0]] =>
    K (.x 0) ⟨[(17, .av (.one (.lp 17 0))), (8, .av (.one (.lp 8 0)))], [(17, .cells [.flt (least4 ⟨f, p, q, r, s⟩ ⟨far0, ax0, ay0, bx0, by0⟩ ⟨far1, ax1, ay1, bx1, by1⟩ ⟨far2, ax2, ay2, bx2, by2⟩).far, .flt (least4 ⟨f, p, q, r, s⟩ ⟨far0, ax0, ay0, bx0, by0⟩ ⟨far1, ax1, ay1, bx1, by1⟩ ⟨far2, ax2, ay2, bx2, by2⟩).ax, .flt (least4 ⟨f, p, q, r, s⟩ ⟨far0, ax0, ay0, bx0, by0⟩ ⟨far1, ax1, ay1, bx1, by1⟩ ⟨far2, ax2, ay2, bx2, by2⟩).ay, .flt (least4 ⟨f, p, q, r, s⟩ ⟨far0, ax0, ay0, bx0, by0⟩ ⟨far1, ax1, ay1, bx1, by1⟩ ⟨far2, ax2, ay2, bx2, by2⟩).bx, .flt (least4 ⟨f, p, q, r, s⟩ ⟨far0, ax0, ay0, bx0, by0⟩ ⟨far1, ax1, ay1, bx1, by1⟩ ⟨far2, ax2, ay2, bx2, by2⟩).by']), (8, .cells [.flt 0, .flt 0, .flt 0, .flt 0, .flt 0])]⟩
  | _ => False
theorem lo40 : LoopOk Pr (tb 105 [(13, e13), (43, e43), (54, e54), (77, e77), (78, e78), (79, e79)] [] []) b40 s40 := by
  refine loop_ok (tb_ok (fnCons c13 (fnCons c43 (fnCons c54 (fnCons c77 (fnCons c78 (fnCons c79 (fnNil _))))))) (fnBNil _)) (vl := vl40) (enc := enc40) (step := st40) (pre := fun x => x.2.1 ≤ 3) (noLoops (by kernel_rfl)) ?_ ?_ ?_ ?_
  · intro σ K h
    unfold s40 at h
    split at h
    · rename_i far0 ax0 ay0 bx0 by0 far1 ax1 ay1 bx1 by1 far2 ax2 ay2 bx2 by2 f p q r s hg
      exact ⟨(⟨⟨far0, ax0, ay0, bx0, by0⟩, ⟨far1, ax1, ay1, bx1, by1⟩, ⟨far2, ax2, ay2, bx2, by2⟩⟩, 0, ⟨f, p, q, r, s⟩), 4, _, _, by simp, hg, rfl, h⟩
    · exact h.elim
  · rintro ⟨c, i, n⟩ h
    refine ⟨rfl, fun e l hs => ?_⟩
    simp only [st40] at hs
    split at hs <;> cases hs
    exact ⟨by simp, rfl⟩
  · rintro ⟨c, i, n⟩ z h hs
    simp only [st40] at hs
    split at hs <;> cases hs <;> simp
  · rintro ⟨⟨⟨far0, ax0, ay0, bx0, by0⟩, ⟨far1, ax1, ay1, bx1, by1⟩, ⟨far2, ax2, ay2, bx2, by2⟩⟩, i, ⟨f, p, q, r, s⟩⟩ h hb
    match i, h with
    | 0, _ =>
      apply t40_0; simp only [st40, nearer]
      cases fLt far0 f <;> rfl
    | 1, _ =>
      apply t40_1; simp only [st40, nearer]
      cases fLt far1 f <;> rfl
    | 2, _ =>
      apply t40_2; simp only [st40, nearer]
      cases fLt far2 f <;> rfl
    | 3, _ => apply t40_3; rfl
    | n + 4, h => simp only at h; omega

end Go.Proofs.Ythopjahoaljhaaa.X

/-! ## Contracts of functions of the program, laid out by a program of mine (gen.py): what each gives, as a function of its arguments; floats up to the bits of a NaN. -/
set_option linter.unusedVariables false
set_option linter.unusedSimpArgs false
set_option maxRecDepth 100000
namespace Go.Proofs.Ythopjahoaljhaaa.X
open Go Go.RowKit

/-- tumble/near.holds -/
def near_holds_0 (a0 : Int) (a1 : Nat) (a2 : List (Nat × Nat)) (b : List (Nat × Nat)) : Nat := cond (BEq.beq a0 (3 : Int)) (cond (Option.isNone (hold a2 b)) ((0 : Nat)) (Prod.fst (gp b (Option.getD (hold a2 b) (0 : Nat))))) ((0 : Nat))
def near_holds_1 (a0 : Int) (a1 : Nat) (a2 : List (Nat × Nat)) (b : List (Nat × Nat)) : Nat := cond (BEq.beq a0 (3 : Int)) (cond (Option.isNone (hold a2 b)) ((0 : Nat)) (Prod.snd (gp b (Option.getD (hold a2 b) (0 : Nat))))) ((0 : Nat))
def near_holds_2 (a0 : Int) (a1 : Nat) (a2 : List (Nat × Nat)) (b : List (Nat × Nat)) : Bool := ((BEq.beq a0 (3 : Int)) && (!(Option.isNone (hold a2 b))))
def d80 : List AT → Option AT
  | [.av (.agg [.int .u8 a0, .flt a1, .sl a2]), .av (.one (.sl b))] => some (.tup [(.agg [(.flt (near_holds_0 a0 a1 a2 b)), (.flt (near_holds_1 a0 a1 a2 b))]), (.one (.bool (near_holds_2 a0 a1 a2 b)))])
  | _ => none
def e80 : Ent := .of d80
theorem c80 : CallOk Pr 80 e80 := by
  refine callOk_autoL (T := tb 30 [(19, e19)] [] [(3, s80)]) (tb_ok (fnCons c19 (fnNil _)) (fnBNil _)) Try.func80 rfl (by decide) rfl (loops1 (by kernel_rfl) rfl lo80) (Ent.of_k d80) ?_
  intro l r h hb
  change d80 l = some r at h
  unfold d80 at h
  split at h
  · rename_i a0 a1 a2 b
    cases h
    refine ⟨rfl, rfl, by_kernel (q := cond (BEq.beq a0 (3 : Int)) (And (Eq (Nat.cast (List.length b) : Int) (Nat.cast (List.length b) : Int)) (cond (Option.isNone (hold a2 b)) (AT.tup [(.agg [(.flt ((0 : Nat))), (.flt ((0 : Nat)))]), (.one (.bool Bool.false))] = (.tup [(.agg [(.flt (near_holds_0 a0 a1 a2 b)), (.flt (near_holds_1 a0 a1 a2 b))]), (.one (.bool (near_holds_2 a0 a1 a2 b)))])) (AT.tup [(.agg [(.flt (Prod.fst (gp b (Option.getD (hold a2 b) (0 : Nat))))), (.flt (Prod.snd (gp b (Option.getD (hold a2 b) (0 : Nat)))))]), (.one (.bool Bool.true))] = (.tup [(.agg [(.flt (near_holds_0 a0 a1 a2 b)), (.flt (near_holds_1 a0 a1 a2 b))]), (.one (.bool (near_holds_2 a0 a1 a2 b)))])))) (AT.tup [(.agg [(.flt ((0 : Nat))), (.flt ((0 : Nat)))]), (.one (.bool Bool.false))] = (.tup [(.agg [(.flt (near_holds_0 a0 a1 a2 b)), (.flt (near_holds_1 a0 a1 a2 b))]), (.one (.bool (near_holds_2 a0 a1 a2 b)))]))) (by kernel_rfl) ?_⟩
    unfold near_holds_0 near_holds_1 near_holds_2
    cases (BEq.beq a0 (3 : Int)) with
    | true =>
        refine ⟨?_, ?_⟩
        · rfl
        cases (Option.isNone (hold a2 b)) with
        | true =>
            rfl
        | false =>
            rfl
    | false =>
        rfl
  · cases h

/-- tumble/near.Segments -/
def near_Segments_0 (a0 : Nat) (a1 : Nat) (b0 : Nat) (b1 : Nat) (c0 : Nat) (c1 : Nat) (d0 : Nat) (d1 : Nat) : Nat := cond (near_across (vec_Cross (vec_Sub_0 b0 b1 a0 a1) (vec_Sub_1 b0 b1 a0 a1) (vec_Sub_0 c0 c1 a0 a1) (vec_Sub_1 c0 c1 a0 a1)) (vec_Cross (vec_Sub_0 b0 b1 a0 a1) (vec_Sub_1 b0 b1 a0 a1) (vec_Sub_0 d0 d1 a0 a1) (vec_Sub_1 d0 d1 a0 a1))) (cond (near_across (vec_Cross (vec_Sub_0 d0 d1 c0 c1) (vec_Sub_1 d0 d1 c0 c1) (vec_Sub_0 a0 a1 c0 c1) (vec_Sub_1 a0 a1 c0 c1)) (vec_Cross (vec_Sub_0 d0 d1 c0 c1) (vec_Sub_1 d0 d1 c0 c1) (vec_Sub_0 b0 b1 c0 c1) (vec_Sub_1 b0 b1 c0 c1))) ((0 : Nat)) (Nr.far (least4 { far := near_between_0 a0 a1 (near_Segments_1_0 c0 c1 d0 d1 a0 a1) (near_Segments_1_1 c0 c1 d0 d1 a0 a1), ax := a0, ay := a1, bx := near_Segments_1_0 c0 c1 d0 d1 a0 a1, by' := near_Segments_1_1 c0 c1 d0 d1 a0 a1 } { far := near_between_0 b0 b1 (near_Segments_1_0 c0 c1 d0 d1 b0 b1) (near_Segments_1_1 c0 c1 d0 d1 b0 b1), ax := b0, ay := b1, bx := near_Segments_1_0 c0 c1 d0 d1 b0 b1, by' := near_Segments_1_1 c0 c1 d0 d1 b0 b1 } { far := near_between_0 (near_Segments_1_0 a0 a1 b0 b1 c0 c1) (near_Segments_1_1 a0 a1 b0 b1 c0 c1) c0 c1, ax := near_Segments_1_0 a0 a1 b0 b1 c0 c1, ay := near_Segments_1_1 a0 a1 b0 b1 c0 c1, bx := c0, by' := c1 } { far := near_between_0 (near_Segments_1_0 a0 a1 b0 b1 d0 d1) (near_Segments_1_1 a0 a1 b0 b1 d0 d1) d0 d1, ax := near_Segments_1_0 a0 a1 b0 b1 d0 d1, ay := near_Segments_1_1 a0 a1 b0 b1 d0 d1, bx := d0, by' := d1 }))) (Nr.far (least4 { far := near_between_0 a0 a1 (near_Segments_1_0 c0 c1 d0 d1 a0 a1) (near_Segments_1_1 c0 c1 d0 d1 a0 a1), ax := a0, ay := a1, bx := near_Segments_1_0 c0 c1 d0 d1 a0 a1, by' := near_Segments_1_1 c0 c1 d0 d1 a0 a1 } { far := near_between_0 b0 b1 (near_Segments_1_0 c0 c1 d0 d1 b0 b1) (near_Segments_1_1 c0 c1 d0 d1 b0 b1), ax := b0, ay := b1, bx := near_Segments_1_0 c0 c1 d0 d1 b0 b1, by' := near_Segments_1_1 c0 c1 d0 d1 b0 b1 } { far := near_between_0 (near_Segments_1_0 a0 a1 b0 b1 c0 c1) (near_Segments_1_1 a0 a1 b0 b1 c0 c1) c0 c1, ax := near_Segments_1_0 a0 a1 b0 b1 c0 c1, ay := near_Segments_1_1 a0 a1 b0 b1 c0 c1, bx := c0, by' := c1 } { far := near_between_0 (near_Segments_1_0 a0 a1 b0 b1 d0 d1) (near_Segments_1_1 a0 a1 b0 b1 d0 d1) d0 d1, ax := near_Segments_1_0 a0 a1 b0 b1 d0 d1, ay := near_Segments_1_1 a0 a1 b0 b1 d0 d1, bx := d0, by' := d1 }))
def near_Segments_1 (a0 : Nat) (a1 : Nat) (b0 : Nat) (b1 : Nat) (c0 : Nat) (c1 : Nat) (d0 : Nat) (d1 : Nat) : Nat := cond (near_across (vec_Cross (vec_Sub_0 b0 b1 a0 a1) (vec_Sub_1 b0 b1 a0 a1) (vec_Sub_0 c0 c1 a0 a1) (vec_Sub_1 c0 c1 a0 a1)) (vec_Cross (vec_Sub_0 b0 b1 a0 a1) (vec_Sub_1 b0 b1 a0 a1) (vec_Sub_0 d0 d1 a0 a1) (vec_Sub_1 d0 d1 a0 a1))) (cond (near_across (vec_Cross (vec_Sub_0 d0 d1 c0 c1) (vec_Sub_1 d0 d1 c0 c1) (vec_Sub_0 a0 a1 c0 c1) (vec_Sub_1 a0 a1 c0 c1)) (vec_Cross (vec_Sub_0 d0 d1 c0 c1) (vec_Sub_1 d0 d1 c0 c1) (vec_Sub_0 b0 b1 c0 c1) (vec_Sub_1 b0 b1 c0 c1))) (vec_More_0 a0 a1 (fdiv (vec_Cross (vec_Sub_0 d0 d1 c0 c1) (vec_Sub_1 d0 d1 c0 c1) (vec_Sub_0 a0 a1 c0 c1) (vec_Sub_1 a0 a1 c0 c1)) (fsub (vec_Cross (vec_Sub_0 d0 d1 c0 c1) (vec_Sub_1 d0 d1 c0 c1) (vec_Sub_0 a0 a1 c0 c1) (vec_Sub_1 a0 a1 c0 c1)) (vec_Cross (vec_Sub_0 d0 d1 c0 c1) (vec_Sub_1 d0 d1 c0 c1) (vec_Sub_0 b0 b1 c0 c1) (vec_Sub_1 b0 b1 c0 c1)))) (vec_Sub_0 b0 b1 a0 a1) (vec_Sub_1 b0 b1 a0 a1)) (Nr.ax (least4 { far := near_between_0 a0 a1 (near_Segments_1_0 c0 c1 d0 d1 a0 a1) (near_Segments_1_1 c0 c1 d0 d1 a0 a1), ax := a0, ay := a1, bx := near_Segments_1_0 c0 c1 d0 d1 a0 a1, by' := near_Segments_1_1 c0 c1 d0 d1 a0 a1 } { far := near_between_0 b0 b1 (near_Segments_1_0 c0 c1 d0 d1 b0 b1) (near_Segments_1_1 c0 c1 d0 d1 b0 b1), ax := b0, ay := b1, bx := near_Segments_1_0 c0 c1 d0 d1 b0 b1, by' := near_Segments_1_1 c0 c1 d0 d1 b0 b1 } { far := near_between_0 (near_Segments_1_0 a0 a1 b0 b1 c0 c1) (near_Segments_1_1 a0 a1 b0 b1 c0 c1) c0 c1, ax := near_Segments_1_0 a0 a1 b0 b1 c0 c1, ay := near_Segments_1_1 a0 a1 b0 b1 c0 c1, bx := c0, by' := c1 } { far := near_between_0 (near_Segments_1_0 a0 a1 b0 b1 d0 d1) (near_Segments_1_1 a0 a1 b0 b1 d0 d1) d0 d1, ax := near_Segments_1_0 a0 a1 b0 b1 d0 d1, ay := near_Segments_1_1 a0 a1 b0 b1 d0 d1, bx := d0, by' := d1 }))) (Nr.ax (least4 { far := near_between_0 a0 a1 (near_Segments_1_0 c0 c1 d0 d1 a0 a1) (near_Segments_1_1 c0 c1 d0 d1 a0 a1), ax := a0, ay := a1, bx := near_Segments_1_0 c0 c1 d0 d1 a0 a1, by' := near_Segments_1_1 c0 c1 d0 d1 a0 a1 } { far := near_between_0 b0 b1 (near_Segments_1_0 c0 c1 d0 d1 b0 b1) (near_Segments_1_1 c0 c1 d0 d1 b0 b1), ax := b0, ay := b1, bx := near_Segments_1_0 c0 c1 d0 d1 b0 b1, by' := near_Segments_1_1 c0 c1 d0 d1 b0 b1 } { far := near_between_0 (near_Segments_1_0 a0 a1 b0 b1 c0 c1) (near_Segments_1_1 a0 a1 b0 b1 c0 c1) c0 c1, ax := near_Segments_1_0 a0 a1 b0 b1 c0 c1, ay := near_Segments_1_1 a0 a1 b0 b1 c0 c1, bx := c0, by' := c1 } { far := near_between_0 (near_Segments_1_0 a0 a1 b0 b1 d0 d1) (near_Segments_1_1 a0 a1 b0 b1 d0 d1) d0 d1, ax := near_Segments_1_0 a0 a1 b0 b1 d0 d1, ay := near_Segments_1_1 a0 a1 b0 b1 d0 d1, bx := d0, by' := d1 }))
def near_Segments_2 (a0 : Nat) (a1 : Nat) (b0 : Nat) (b1 : Nat) (c0 : Nat) (c1 : Nat) (d0 : Nat) (d1 : Nat) : Nat := cond (near_across (vec_Cross (vec_Sub_0 b0 b1 a0 a1) (vec_Sub_1 b0 b1 a0 a1) (vec_Sub_0 c0 c1 a0 a1) (vec_Sub_1 c0 c1 a0 a1)) (vec_Cross (vec_Sub_0 b0 b1 a0 a1) (vec_Sub_1 b0 b1 a0 a1) (vec_Sub_0 d0 d1 a0 a1) (vec_Sub_1 d0 d1 a0 a1))) (cond (near_across (vec_Cross (vec_Sub_0 d0 d1 c0 c1) (vec_Sub_1 d0 d1 c0 c1) (vec_Sub_0 a0 a1 c0 c1) (vec_Sub_1 a0 a1 c0 c1)) (vec_Cross (vec_Sub_0 d0 d1 c0 c1) (vec_Sub_1 d0 d1 c0 c1) (vec_Sub_0 b0 b1 c0 c1) (vec_Sub_1 b0 b1 c0 c1))) (vec_More_1 a0 a1 (fdiv (vec_Cross (vec_Sub_0 d0 d1 c0 c1) (vec_Sub_1 d0 d1 c0 c1) (vec_Sub_0 a0 a1 c0 c1) (vec_Sub_1 a0 a1 c0 c1)) (fsub (vec_Cross (vec_Sub_0 d0 d1 c0 c1) (vec_Sub_1 d0 d1 c0 c1) (vec_Sub_0 a0 a1 c0 c1) (vec_Sub_1 a0 a1 c0 c1)) (vec_Cross (vec_Sub_0 d0 d1 c0 c1) (vec_Sub_1 d0 d1 c0 c1) (vec_Sub_0 b0 b1 c0 c1) (vec_Sub_1 b0 b1 c0 c1)))) (vec_Sub_0 b0 b1 a0 a1) (vec_Sub_1 b0 b1 a0 a1)) (Nr.ay (least4 { far := near_between_0 a0 a1 (near_Segments_1_0 c0 c1 d0 d1 a0 a1) (near_Segments_1_1 c0 c1 d0 d1 a0 a1), ax := a0, ay := a1, bx := near_Segments_1_0 c0 c1 d0 d1 a0 a1, by' := near_Segments_1_1 c0 c1 d0 d1 a0 a1 } { far := near_between_0 b0 b1 (near_Segments_1_0 c0 c1 d0 d1 b0 b1) (near_Segments_1_1 c0 c1 d0 d1 b0 b1), ax := b0, ay := b1, bx := near_Segments_1_0 c0 c1 d0 d1 b0 b1, by' := near_Segments_1_1 c0 c1 d0 d1 b0 b1 } { far := near_between_0 (near_Segments_1_0 a0 a1 b0 b1 c0 c1) (near_Segments_1_1 a0 a1 b0 b1 c0 c1) c0 c1, ax := near_Segments_1_0 a0 a1 b0 b1 c0 c1, ay := near_Segments_1_1 a0 a1 b0 b1 c0 c1, bx := c0, by' := c1 } { far := near_between_0 (near_Segments_1_0 a0 a1 b0 b1 d0 d1) (near_Segments_1_1 a0 a1 b0 b1 d0 d1) d0 d1, ax := near_Segments_1_0 a0 a1 b0 b1 d0 d1, ay := near_Segments_1_1 a0 a1 b0 b1 d0 d1, bx := d0, by' := d1 }))) (Nr.ay (least4 { far := near_between_0 a0 a1 (near_Segments_1_0 c0 c1 d0 d1 a0 a1) (near_Segments_1_1 c0 c1 d0 d1 a0 a1), ax := a0, ay := a1, bx := near_Segments_1_0 c0 c1 d0 d1 a0 a1, by' := near_Segments_1_1 c0 c1 d0 d1 a0 a1 } { far := near_between_0 b0 b1 (near_Segments_1_0 c0 c1 d0 d1 b0 b1) (near_Segments_1_1 c0 c1 d0 d1 b0 b1), ax := b0, ay := b1, bx := near_Segments_1_0 c0 c1 d0 d1 b0 b1, by' := near_Segments_1_1 c0 c1 d0 d1 b0 b1 } { far := near_between_0 (near_Segments_1_0 a0 a1 b0 b1 c0 c1) (near_Segments_1_1 a0 a1 b0 b1 c0 c1) c0 c1, ax := near_Segments_1_0 a0 a1 b0 b1 c0 c1, ay := near_Segments_1_1 a0 a1 b0 b1 c0 c1, bx := c0, by' := c1 } { far := near_between_0 (near_Segments_1_0 a0 a1 b0 b1 d0 d1) (near_Segments_1_1 a0 a1 b0 b1 d0 d1) d0 d1, ax := near_Segments_1_0 a0 a1 b0 b1 d0 d1, ay := near_Segments_1_1 a0 a1 b0 b1 d0 d1, bx := d0, by' := d1 }))
def near_Segments_3 (a0 : Nat) (a1 : Nat) (b0 : Nat) (b1 : Nat) (c0 : Nat) (c1 : Nat) (d0 : Nat) (d1 : Nat) : Nat := cond (near_across (vec_Cross (vec_Sub_0 b0 b1 a0 a1) (vec_Sub_1 b0 b1 a0 a1) (vec_Sub_0 c0 c1 a0 a1) (vec_Sub_1 c0 c1 a0 a1)) (vec_Cross (vec_Sub_0 b0 b1 a0 a1) (vec_Sub_1 b0 b1 a0 a1) (vec_Sub_0 d0 d1 a0 a1) (vec_Sub_1 d0 d1 a0 a1))) (cond (near_across (vec_Cross (vec_Sub_0 d0 d1 c0 c1) (vec_Sub_1 d0 d1 c0 c1) (vec_Sub_0 a0 a1 c0 c1) (vec_Sub_1 a0 a1 c0 c1)) (vec_Cross (vec_Sub_0 d0 d1 c0 c1) (vec_Sub_1 d0 d1 c0 c1) (vec_Sub_0 b0 b1 c0 c1) (vec_Sub_1 b0 b1 c0 c1))) (vec_More_0 a0 a1 (fdiv (vec_Cross (vec_Sub_0 d0 d1 c0 c1) (vec_Sub_1 d0 d1 c0 c1) (vec_Sub_0 a0 a1 c0 c1) (vec_Sub_1 a0 a1 c0 c1)) (fsub (vec_Cross (vec_Sub_0 d0 d1 c0 c1) (vec_Sub_1 d0 d1 c0 c1) (vec_Sub_0 a0 a1 c0 c1) (vec_Sub_1 a0 a1 c0 c1)) (vec_Cross (vec_Sub_0 d0 d1 c0 c1) (vec_Sub_1 d0 d1 c0 c1) (vec_Sub_0 b0 b1 c0 c1) (vec_Sub_1 b0 b1 c0 c1)))) (vec_Sub_0 b0 b1 a0 a1) (vec_Sub_1 b0 b1 a0 a1)) (Nr.bx (least4 { far := near_between_0 a0 a1 (near_Segments_1_0 c0 c1 d0 d1 a0 a1) (near_Segments_1_1 c0 c1 d0 d1 a0 a1), ax := a0, ay := a1, bx := near_Segments_1_0 c0 c1 d0 d1 a0 a1, by' := near_Segments_1_1 c0 c1 d0 d1 a0 a1 } { far := near_between_0 b0 b1 (near_Segments_1_0 c0 c1 d0 d1 b0 b1) (near_Segments_1_1 c0 c1 d0 d1 b0 b1), ax := b0, ay := b1, bx := near_Segments_1_0 c0 c1 d0 d1 b0 b1, by' := near_Segments_1_1 c0 c1 d0 d1 b0 b1 } { far := near_between_0 (near_Segments_1_0 a0 a1 b0 b1 c0 c1) (near_Segments_1_1 a0 a1 b0 b1 c0 c1) c0 c1, ax := near_Segments_1_0 a0 a1 b0 b1 c0 c1, ay := near_Segments_1_1 a0 a1 b0 b1 c0 c1, bx := c0, by' := c1 } { far := near_between_0 (near_Segments_1_0 a0 a1 b0 b1 d0 d1) (near_Segments_1_1 a0 a1 b0 b1 d0 d1) d0 d1, ax := near_Segments_1_0 a0 a1 b0 b1 d0 d1, ay := near_Segments_1_1 a0 a1 b0 b1 d0 d1, bx := d0, by' := d1 }))) (Nr.bx (least4 { far := near_between_0 a0 a1 (near_Segments_1_0 c0 c1 d0 d1 a0 a1) (near_Segments_1_1 c0 c1 d0 d1 a0 a1), ax := a0, ay := a1, bx := near_Segments_1_0 c0 c1 d0 d1 a0 a1, by' := near_Segments_1_1 c0 c1 d0 d1 a0 a1 } { far := near_between_0 b0 b1 (near_Segments_1_0 c0 c1 d0 d1 b0 b1) (near_Segments_1_1 c0 c1 d0 d1 b0 b1), ax := b0, ay := b1, bx := near_Segments_1_0 c0 c1 d0 d1 b0 b1, by' := near_Segments_1_1 c0 c1 d0 d1 b0 b1 } { far := near_between_0 (near_Segments_1_0 a0 a1 b0 b1 c0 c1) (near_Segments_1_1 a0 a1 b0 b1 c0 c1) c0 c1, ax := near_Segments_1_0 a0 a1 b0 b1 c0 c1, ay := near_Segments_1_1 a0 a1 b0 b1 c0 c1, bx := c0, by' := c1 } { far := near_between_0 (near_Segments_1_0 a0 a1 b0 b1 d0 d1) (near_Segments_1_1 a0 a1 b0 b1 d0 d1) d0 d1, ax := near_Segments_1_0 a0 a1 b0 b1 d0 d1, ay := near_Segments_1_1 a0 a1 b0 b1 d0 d1, bx := d0, by' := d1 }))
def near_Segments_4 (a0 : Nat) (a1 : Nat) (b0 : Nat) (b1 : Nat) (c0 : Nat) (c1 : Nat) (d0 : Nat) (d1 : Nat) : Nat := cond (near_across (vec_Cross (vec_Sub_0 b0 b1 a0 a1) (vec_Sub_1 b0 b1 a0 a1) (vec_Sub_0 c0 c1 a0 a1) (vec_Sub_1 c0 c1 a0 a1)) (vec_Cross (vec_Sub_0 b0 b1 a0 a1) (vec_Sub_1 b0 b1 a0 a1) (vec_Sub_0 d0 d1 a0 a1) (vec_Sub_1 d0 d1 a0 a1))) (cond (near_across (vec_Cross (vec_Sub_0 d0 d1 c0 c1) (vec_Sub_1 d0 d1 c0 c1) (vec_Sub_0 a0 a1 c0 c1) (vec_Sub_1 a0 a1 c0 c1)) (vec_Cross (vec_Sub_0 d0 d1 c0 c1) (vec_Sub_1 d0 d1 c0 c1) (vec_Sub_0 b0 b1 c0 c1) (vec_Sub_1 b0 b1 c0 c1))) (vec_More_1 a0 a1 (fdiv (vec_Cross (vec_Sub_0 d0 d1 c0 c1) (vec_Sub_1 d0 d1 c0 c1) (vec_Sub_0 a0 a1 c0 c1) (vec_Sub_1 a0 a1 c0 c1)) (fsub (vec_Cross (vec_Sub_0 d0 d1 c0 c1) (vec_Sub_1 d0 d1 c0 c1) (vec_Sub_0 a0 a1 c0 c1) (vec_Sub_1 a0 a1 c0 c1)) (vec_Cross (vec_Sub_0 d0 d1 c0 c1) (vec_Sub_1 d0 d1 c0 c1) (vec_Sub_0 b0 b1 c0 c1) (vec_Sub_1 b0 b1 c0 c1)))) (vec_Sub_0 b0 b1 a0 a1) (vec_Sub_1 b0 b1 a0 a1)) (Nr.by' (least4 { far := near_between_0 a0 a1 (near_Segments_1_0 c0 c1 d0 d1 a0 a1) (near_Segments_1_1 c0 c1 d0 d1 a0 a1), ax := a0, ay := a1, bx := near_Segments_1_0 c0 c1 d0 d1 a0 a1, by' := near_Segments_1_1 c0 c1 d0 d1 a0 a1 } { far := near_between_0 b0 b1 (near_Segments_1_0 c0 c1 d0 d1 b0 b1) (near_Segments_1_1 c0 c1 d0 d1 b0 b1), ax := b0, ay := b1, bx := near_Segments_1_0 c0 c1 d0 d1 b0 b1, by' := near_Segments_1_1 c0 c1 d0 d1 b0 b1 } { far := near_between_0 (near_Segments_1_0 a0 a1 b0 b1 c0 c1) (near_Segments_1_1 a0 a1 b0 b1 c0 c1) c0 c1, ax := near_Segments_1_0 a0 a1 b0 b1 c0 c1, ay := near_Segments_1_1 a0 a1 b0 b1 c0 c1, bx := c0, by' := c1 } { far := near_between_0 (near_Segments_1_0 a0 a1 b0 b1 d0 d1) (near_Segments_1_1 a0 a1 b0 b1 d0 d1) d0 d1, ax := near_Segments_1_0 a0 a1 b0 b1 d0 d1, ay := near_Segments_1_1 a0 a1 b0 b1 d0 d1, bx := d0, by' := d1 }))) (Nr.by' (least4 { far := near_between_0 a0 a1 (near_Segments_1_0 c0 c1 d0 d1 a0 a1) (near_Segments_1_1 c0 c1 d0 d1 a0 a1), ax := a0, ay := a1, bx := near_Segments_1_0 c0 c1 d0 d1 a0 a1, by' := near_Segments_1_1 c0 c1 d0 d1 a0 a1 } { far := near_between_0 b0 b1 (near_Segments_1_0 c0 c1 d0 d1 b0 b1) (near_Segments_1_1 c0 c1 d0 d1 b0 b1), ax := b0, ay := b1, bx := near_Segments_1_0 c0 c1 d0 d1 b0 b1, by' := near_Segments_1_1 c0 c1 d0 d1 b0 b1 } { far := near_between_0 (near_Segments_1_0 a0 a1 b0 b1 c0 c1) (near_Segments_1_1 a0 a1 b0 b1 c0 c1) c0 c1, ax := near_Segments_1_0 a0 a1 b0 b1 c0 c1, ay := near_Segments_1_1 a0 a1 b0 b1 c0 c1, bx := c0, by' := c1 } { far := near_between_0 (near_Segments_1_0 a0 a1 b0 b1 d0 d1) (near_Segments_1_1 a0 a1 b0 b1 d0 d1) d0 d1, ax := near_Segments_1_0 a0 a1 b0 b1 d0 d1, ay := near_Segments_1_1 a0 a1 b0 b1 d0 d1, bx := d0, by' := d1 }))
def d40 : List AT → Option AT
  | [.av (.agg [.flt a0, .flt a1]), .av (.agg [.flt b0, .flt b1]), .av (.agg [.flt c0, .flt c1]), .av (.agg [.flt d0, .flt d1])] => some (.av (.agg [(.flt (near_Segments_0 a0 a1 b0 b1 c0 c1 d0 d1)), (.flt (near_Segments_1 a0 a1 b0 b1 c0 c1 d0 d1)), (.flt (near_Segments_2 a0 a1 b0 b1 c0 c1 d0 d1)), (.flt (near_Segments_3 a0 a1 b0 b1 c0 c1 d0 d1)), (.flt (near_Segments_4 a0 a1 b0 b1 c0 c1 d0 d1))]))
  | _ => none
def e40 : Ent := .of d40
theorem c40 : CallOk Pr 40 e40 := by
  refine callOk_autoL (T := tb 105 [(13, e13), (43, e43), (54, e54), (77, e77), (78, e78), (79, e79)] [] [(10, s40)]) (tb_ok (fnCons c13 (fnCons c43 (fnCons c54 (fnCons c77 (fnCons c78 (fnCons c79 (fnNil _))))))) (fnBNil _)) Try.func40 rfl (by decide) rfl (loops1 (by kernel_rfl) rfl lo40) (Ent.of_k d40) ?_
  intro l r h hb
  change d40 l = some r at h
  unfold d40 at h
  split at h
  · rename_i a0 a1 b0 b1 c0 c1 d0 d1
    cases h
    refine ⟨rfl, rfl, by_kernel (q := cond (near_across (vec_Cross (vec_Sub_0 b0 b1 a0 a1) (vec_Sub_1 b0 b1 a0 a1) (vec_Sub_0 c0 c1 a0 a1) (vec_Sub_1 c0 c1 a0 a1)) (vec_Cross (vec_Sub_0 b0 b1 a0 a1) (vec_Sub_1 b0 b1 a0 a1) (vec_Sub_0 d0 d1 a0 a1) (vec_Sub_1 d0 d1 a0 a1))) (cond (near_across (vec_Cross (vec_Sub_0 d0 d1 c0 c1) (vec_Sub_1 d0 d1 c0 c1) (vec_Sub_0 a0 a1 c0 c1) (vec_Sub_1 a0 a1 c0 c1)) (vec_Cross (vec_Sub_0 d0 d1 c0 c1) (vec_Sub_1 d0 d1 c0 c1) (vec_Sub_0 b0 b1 c0 c1) (vec_Sub_1 b0 b1 c0 c1))) (AT.av (.agg [(.flt ((0 : Nat))), (.flt (vec_More_0 a0 a1 (fdiv (vec_Cross (vec_Sub_0 d0 d1 c0 c1) (vec_Sub_1 d0 d1 c0 c1) (vec_Sub_0 a0 a1 c0 c1) (vec_Sub_1 a0 a1 c0 c1)) (fsub (vec_Cross (vec_Sub_0 d0 d1 c0 c1) (vec_Sub_1 d0 d1 c0 c1) (vec_Sub_0 a0 a1 c0 c1) (vec_Sub_1 a0 a1 c0 c1)) (vec_Cross (vec_Sub_0 d0 d1 c0 c1) (vec_Sub_1 d0 d1 c0 c1) (vec_Sub_0 b0 b1 c0 c1) (vec_Sub_1 b0 b1 c0 c1)))) (vec_Sub_0 b0 b1 a0 a1) (vec_Sub_1 b0 b1 a0 a1))), (.flt (vec_More_1 a0 a1 (fdiv (vec_Cross (vec_Sub_0 d0 d1 c0 c1) (vec_Sub_1 d0 d1 c0 c1) (vec_Sub_0 a0 a1 c0 c1) (vec_Sub_1 a0 a1 c0 c1)) (fsub (vec_Cross (vec_Sub_0 d0 d1 c0 c1) (vec_Sub_1 d0 d1 c0 c1) (vec_Sub_0 a0 a1 c0 c1) (vec_Sub_1 a0 a1 c0 c1)) (vec_Cross (vec_Sub_0 d0 d1 c0 c1) (vec_Sub_1 d0 d1 c0 c1) (vec_Sub_0 b0 b1 c0 c1) (vec_Sub_1 b0 b1 c0 c1)))) (vec_Sub_0 b0 b1 a0 a1) (vec_Sub_1 b0 b1 a0 a1))), (.flt (vec_More_0 a0 a1 (fdiv (vec_Cross (vec_Sub_0 d0 d1 c0 c1) (vec_Sub_1 d0 d1 c0 c1) (vec_Sub_0 a0 a1 c0 c1) (vec_Sub_1 a0 a1 c0 c1)) (fsub (vec_Cross (vec_Sub_0 d0 d1 c0 c1) (vec_Sub_1 d0 d1 c0 c1) (vec_Sub_0 a0 a1 c0 c1) (vec_Sub_1 a0 a1 c0 c1)) (vec_Cross (vec_Sub_0 d0 d1 c0 c1) (vec_Sub_1 d0 d1 c0 c1) (vec_Sub_0 b0 b1 c0 c1) (vec_Sub_1 b0 b1 c0 c1)))) (vec_Sub_0 b0 b1 a0 a1) (vec_Sub_1 b0 b1 a0 a1))), (.flt (vec_More_1 a0 a1 (fdiv (vec_Cross (vec_Sub_0 d0 d1 c0 c1) (vec_Sub_1 d0 d1 c0 c1) (vec_Sub_0 a0 a1 c0 c1) (vec_Sub_1 a0 a1 c0 c1)) (fsub (vec_Cross (vec_Sub_0 d0 d1 c0 c1) (vec_Sub_1 d0 d1 c0 c1) (vec_Sub_0 a0 a1 c0 c1) (vec_Sub_1 a0 a1 c0 c1)) (vec_Cross (vec_Sub_0 d0 d1 c0 c1) (vec_Sub_1 d0 d1 c0 c1) (vec_Sub_0 b0 b1 c0 c1) (vec_Sub_1 b0 b1 c0 c1)))) (vec_Sub_0 b0 b1 a0 a1) (vec_Sub_1 b0 b1 a0 a1)))]) = (.av (.agg [(.flt (near_Segments_0 a0 a1 b0 b1 c0 c1 d0 d1)), (.flt (near_Segments_1 a0 a1 b0 b1 c0 c1 d0 d1)), (.flt (near_Segments_2 a0 a1 b0 b1 c0 c1 d0 d1)), (.flt (near_Segments_3 a0 a1 b0 b1 c0 c1 d0 d1)), (.flt (near_Segments_4 a0 a1 b0 b1 c0 c1 d0 d1))]))) (AT.av (.agg [(.flt (Nr.far (least4 { far := near_between_0 a0 a1 (near_Segments_1_0 c0 c1 d0 d1 a0 a1) (near_Segments_1_1 c0 c1 d0 d1 a0 a1), ax := a0, ay := a1, bx := near_Segments_1_0 c0 c1 d0 d1 a0 a1, by' := near_Segments_1_1 c0 c1 d0 d1 a0 a1 } { far := near_between_0 b0 b1 (near_Segments_1_0 c0 c1 d0 d1 b0 b1) (near_Segments_1_1 c0 c1 d0 d1 b0 b1), ax := b0, ay := b1, bx := near_Segments_1_0 c0 c1 d0 d1 b0 b1, by' := near_Segments_1_1 c0 c1 d0 d1 b0 b1 } { far := near_between_0 (near_Segments_1_0 a0 a1 b0 b1 c0 c1) (near_Segments_1_1 a0 a1 b0 b1 c0 c1) c0 c1, ax := near_Segments_1_0 a0 a1 b0 b1 c0 c1, ay := near_Segments_1_1 a0 a1 b0 b1 c0 c1, bx := c0, by' := c1 } { far := near_between_0 (near_Segments_1_0 a0 a1 b0 b1 d0 d1) (near_Segments_1_1 a0 a1 b0 b1 d0 d1) d0 d1, ax := near_Segments_1_0 a0 a1 b0 b1 d0 d1, ay := near_Segments_1_1 a0 a1 b0 b1 d0 d1, bx := d0, by' := d1 }))), (.flt (Nr.ax (least4 { far := near_between_0 a0 a1 (near_Segments_1_0 c0 c1 d0 d1 a0 a1) (near_Segments_1_1 c0 c1 d0 d1 a0 a1), ax := a0, ay := a1, bx := near_Segments_1_0 c0 c1 d0 d1 a0 a1, by' := near_Segments_1_1 c0 c1 d0 d1 a0 a1 } { far := near_between_0 b0 b1 (near_Segments_1_0 c0 c1 d0 d1 b0 b1) (near_Segments_1_1 c0 c1 d0 d1 b0 b1), ax := b0, ay := b1, bx := near_Segments_1_0 c0 c1 d0 d1 b0 b1, by' := near_Segments_1_1 c0 c1 d0 d1 b0 b1 } { far := near_between_0 (near_Segments_1_0 a0 a1 b0 b1 c0 c1) (near_Segments_1_1 a0 a1 b0 b1 c0 c1) c0 c1, ax := near_Segments_1_0 a0 a1 b0 b1 c0 c1, ay := near_Segments_1_1 a0 a1 b0 b1 c0 c1, bx := c0, by' := c1 } { far := near_between_0 (near_Segments_1_0 a0 a1 b0 b1 d0 d1) (near_Segments_1_1 a0 a1 b0 b1 d0 d1) d0 d1, ax := near_Segments_1_0 a0 a1 b0 b1 d0 d1, ay := near_Segments_1_1 a0 a1 b0 b1 d0 d1, bx := d0, by' := d1 }))), (.flt (Nr.ay (least4 { far := near_between_0 a0 a1 (near_Segments_1_0 c0 c1 d0 d1 a0 a1) (near_Segments_1_1 c0 c1 d0 d1 a0 a1), ax := a0, ay := a1, bx := near_Segments_1_0 c0 c1 d0 d1 a0 a1, by' := near_Segments_1_1 c0 c1 d0 d1 a0 a1 } { far := near_between_0 b0 b1 (near_Segments_1_0 c0 c1 d0 d1 b0 b1) (near_Segments_1_1 c0 c1 d0 d1 b0 b1), ax := b0, ay := b1, bx := near_Segments_1_0 c0 c1 d0 d1 b0 b1, by' := near_Segments_1_1 c0 c1 d0 d1 b0 b1 } { far := near_between_0 (near_Segments_1_0 a0 a1 b0 b1 c0 c1) (near_Segments_1_1 a0 a1 b0 b1 c0 c1) c0 c1, ax := near_Segments_1_0 a0 a1 b0 b1 c0 c1, ay := near_Segments_1_1 a0 a1 b0 b1 c0 c1, bx := c0, by' := c1 } { far := near_between_0 (near_Segments_1_0 a0 a1 b0 b1 d0 d1) (near_Segments_1_1 a0 a1 b0 b1 d0 d1) d0 d1, ax := near_Segments_1_0 a0 a1 b0 b1 d0 d1, ay := near_Segments_1_1 a0 a1 b0 b1 d0 d1, bx := d0, by' := d1 }))), (.flt (Nr.bx (least4 { far := near_between_0 a0 a1 (near_Segments_1_0 c0 c1 d0 d1 a0 a1) (near_Segments_1_1 c0 c1 d0 d1 a0 a1), ax := a0, ay := a1, bx := near_Segments_1_0 c0 c1 d0 d1 a0 a1, by' := near_Segments_1_1 c0 c1 d0 d1 a0 a1 } { far := near_between_0 b0 b1 (near_Segments_1_0 c0 c1 d0 d1 b0 b1) (near_Segments_1_1 c0 c1 d0 d1 b0 b1), ax := b0, ay := b1, bx := near_Segments_1_0 c0 c1 d0 d1 b0 b1, by' := near_Segments_1_1 c0 c1 d0 d1 b0 b1 } { far := near_between_0 (near_Segments_1_0 a0 a1 b0 b1 c0 c1) (near_Segments_1_1 a0 a1 b0 b1 c0 c1) c0 c1, ax := near_Segments_1_0 a0 a1 b0 b1 c0 c1, ay := near_Segments_1_1 a0 a1 b0 b1 c0 c1, bx := c0, by' := c1 } { far := near_between_0 (near_Segments_1_0 a0 a1 b0 b1 d0 d1) (near_Segments_1_1 a0 a1 b0 b1 d0 d1) d0 d1, ax := near_Segments_1_0 a0 a1 b0 b1 d0 d1, ay := near_Segments_1_1 a0 a1 b0 b1 d0 d1, bx := d0, by' := d1 }))), (.flt (Nr.by' (least4 { far := near_between_0 a0 a1 (near_Segments_1_0 c0 c1 d0 d1 a0 a1) (near_Segments_1_1 c0 c1 d0 d1 a0 a1), ax := a0, ay := a1, bx := near_Segments_1_0 c0 c1 d0 d1 a0 a1, by' := near_Segments_1_1 c0 c1 d0 d1 a0 a1 } { far := near_between_0 b0 b1 (near_Segments_1_0 c0 c1 d0 d1 b0 b1) (near_Segments_1_1 c0 c1 d0 d1 b0 b1), ax := b0, ay := b1, bx := near_Segments_1_0 c0 c1 d0 d1 b0 b1, by' := near_Segments_1_1 c0 c1 d0 d1 b0 b1 } { far := near_between_0 (near_Segments_1_0 a0 a1 b0 b1 c0 c1) (near_Segments_1_1 a0 a1 b0 b1 c0 c1) c0 c1, ax := near_Segments_1_0 a0 a1 b0 b1 c0 c1, ay := near_Segments_1_1 a0 a1 b0 b1 c0 c1, bx := c0, by' := c1 } { far := near_between_0 (near_Segments_1_0 a0 a1 b0 b1 d0 d1) (near_Segments_1_1 a0 a1 b0 b1 d0 d1) d0 d1, ax := near_Segments_1_0 a0 a1 b0 b1 d0 d1, ay := near_Segments_1_1 a0 a1 b0 b1 d0 d1, bx := d0, by' := d1 })))]) = (.av (.agg [(.flt (near_Segments_0 a0 a1 b0 b1 c0 c1 d0 d1)), (.flt (near_Segments_1 a0 a1 b0 b1 c0 c1 d0 d1)), (.flt (near_Segments_2 a0 a1 b0 b1 c0 c1 d0 d1)), (.flt (near_Segments_3 a0 a1 b0 b1 c0 c1 d0 d1)), (.flt (near_Segments_4 a0 a1 b0 b1 c0 c1 d0 d1))])))) (AT.av (.agg [(.flt (Nr.far (least4 { far := near_between_0 a0 a1 (near_Segments_1_0 c0 c1 d0 d1 a0 a1) (near_Segments_1_1 c0 c1 d0 d1 a0 a1), ax := a0, ay := a1, bx := near_Segments_1_0 c0 c1 d0 d1 a0 a1, by' := near_Segments_1_1 c0 c1 d0 d1 a0 a1 } { far := near_between_0 b0 b1 (near_Segments_1_0 c0 c1 d0 d1 b0 b1) (near_Segments_1_1 c0 c1 d0 d1 b0 b1), ax := b0, ay := b1, bx := near_Segments_1_0 c0 c1 d0 d1 b0 b1, by' := near_Segments_1_1 c0 c1 d0 d1 b0 b1 } { far := near_between_0 (near_Segments_1_0 a0 a1 b0 b1 c0 c1) (near_Segments_1_1 a0 a1 b0 b1 c0 c1) c0 c1, ax := near_Segments_1_0 a0 a1 b0 b1 c0 c1, ay := near_Segments_1_1 a0 a1 b0 b1 c0 c1, bx := c0, by' := c1 } { far := near_between_0 (near_Segments_1_0 a0 a1 b0 b1 d0 d1) (near_Segments_1_1 a0 a1 b0 b1 d0 d1) d0 d1, ax := near_Segments_1_0 a0 a1 b0 b1 d0 d1, ay := near_Segments_1_1 a0 a1 b0 b1 d0 d1, bx := d0, by' := d1 }))), (.flt (Nr.ax (least4 { far := near_between_0 a0 a1 (near_Segments_1_0 c0 c1 d0 d1 a0 a1) (near_Segments_1_1 c0 c1 d0 d1 a0 a1), ax := a0, ay := a1, bx := near_Segments_1_0 c0 c1 d0 d1 a0 a1, by' := near_Segments_1_1 c0 c1 d0 d1 a0 a1 } { far := near_between_0 b0 b1 (near_Segments_1_0 c0 c1 d0 d1 b0 b1) (near_Segments_1_1 c0 c1 d0 d1 b0 b1), ax := b0, ay := b1, bx := near_Segments_1_0 c0 c1 d0 d1 b0 b1, by' := near_Segments_1_1 c0 c1 d0 d1 b0 b1 } { far := near_between_0 (near_Segments_1_0 a0 a1 b0 b1 c0 c1) (near_Segments_1_1 a0 a1 b0 b1 c0 c1) c0 c1, ax := near_Segments_1_0 a0 a1 b0 b1 c0 c1, ay := near_Segments_1_1 a0 a1 b0 b1 c0 c1, bx := c0, by' := c1 } { far := near_between_0 (near_Segments_1_0 a0 a1 b0 b1 d0 d1) (near_Segments_1_1 a0 a1 b0 b1 d0 d1) d0 d1, ax := near_Segments_1_0 a0 a1 b0 b1 d0 d1, ay := near_Segments_1_1 a0 a1 b0 b1 d0 d1, bx := d0, by' := d1 }))), (.flt (Nr.ay (least4 { far := near_between_0 a0 a1 (near_Segments_1_0 c0 c1 d0 d1 a0 a1) (near_Segments_1_1 c0 c1 d0 d1 a0 a1), ax := a0, ay := a1, bx := near_Segments_1_0 c0 c1 d0 d1 a0 a1, by' := near_Segments_1_1 c0 c1 d0 d1 a0 a1 } { far := near_between_0 b0 b1 (near_Segments_1_0 c0 c1 d0 d1 b0 b1) (near_Segments_1_1 c0 c1 d0 d1 b0 b1), ax := b0, ay := b1, bx := near_Segments_1_0 c0 c1 d0 d1 b0 b1, by' := near_Segments_1_1 c0 c1 d0 d1 b0 b1 } { far := near_between_0 (near_Segments_1_0 a0 a1 b0 b1 c0 c1) (near_Segments_1_1 a0 a1 b0 b1 c0 c1) c0 c1, ax := near_Segments_1_0 a0 a1 b0 b1 c0 c1, ay := near_Segments_1_1 a0 a1 b0 b1 c0 c1, bx := c0, by' := c1 } { far := near_between_0 (near_Segments_1_0 a0 a1 b0 b1 d0 d1) (near_Segments_1_1 a0 a1 b0 b1 d0 d1) d0 d1, ax := near_Segments_1_0 a0 a1 b0 b1 d0 d1, ay := near_Segments_1_1 a0 a1 b0 b1 d0 d1, bx := d0, by' := d1 }))), (.flt (Nr.bx (least4 { far := near_between_0 a0 a1 (near_Segments_1_0 c0 c1 d0 d1 a0 a1) (near_Segments_1_1 c0 c1 d0 d1 a0 a1), ax := a0, ay := a1, bx := near_Segments_1_0 c0 c1 d0 d1 a0 a1, by' := near_Segments_1_1 c0 c1 d0 d1 a0 a1 } { far := near_between_0 b0 b1 (near_Segments_1_0 c0 c1 d0 d1 b0 b1) (near_Segments_1_1 c0 c1 d0 d1 b0 b1), ax := b0, ay := b1, bx := near_Segments_1_0 c0 c1 d0 d1 b0 b1, by' := near_Segments_1_1 c0 c1 d0 d1 b0 b1 } { far := near_between_0 (near_Segments_1_0 a0 a1 b0 b1 c0 c1) (near_Segments_1_1 a0 a1 b0 b1 c0 c1) c0 c1, ax := near_Segments_1_0 a0 a1 b0 b1 c0 c1, ay := near_Segments_1_1 a0 a1 b0 b1 c0 c1, bx := c0, by' := c1 } { far := near_between_0 (near_Segments_1_0 a0 a1 b0 b1 d0 d1) (near_Segments_1_1 a0 a1 b0 b1 d0 d1) d0 d1, ax := near_Segments_1_0 a0 a1 b0 b1 d0 d1, ay := near_Segments_1_1 a0 a1 b0 b1 d0 d1, bx := d0, by' := d1 }))), (.flt (Nr.by' (least4 { far := near_between_0 a0 a1 (near_Segments_1_0 c0 c1 d0 d1 a0 a1) (near_Segments_1_1 c0 c1 d0 d1 a0 a1), ax := a0, ay := a1, bx := near_Segments_1_0 c0 c1 d0 d1 a0 a1, by' := near_Segments_1_1 c0 c1 d0 d1 a0 a1 } { far := near_between_0 b0 b1 (near_Segments_1_0 c0 c1 d0 d1 b0 b1) (near_Segments_1_1 c0 c1 d0 d1 b0 b1), ax := b0, ay := b1, bx := near_Segments_1_0 c0 c1 d0 d1 b0 b1, by' := near_Segments_1_1 c0 c1 d0 d1 b0 b1 } { far := near_between_0 (near_Segments_1_0 a0 a1 b0 b1 c0 c1) (near_Segments_1_1 a0 a1 b0 b1 c0 c1) c0 c1, ax := near_Segments_1_0 a0 a1 b0 b1 c0 c1, ay := near_Segments_1_1 a0 a1 b0 b1 c0 c1, bx := c0, by' := c1 } { far := near_between_0 (near_Segments_1_0 a0 a1 b0 b1 d0 d1) (near_Segments_1_1 a0 a1 b0 b1 d0 d1) d0 d1, ax := near_Segments_1_0 a0 a1 b0 b1 d0 d1, ay := near_Segments_1_1 a0 a1 b0 b1 d0 d1, bx := d0, by' := d1 })))]) = (.av (.agg [(.flt (near_Segments_0 a0 a1 b0 b1 c0 c1 d0 d1)), (.flt (near_Segments_1 a0 a1 b0 b1 c0 c1 d0 d1)), (.flt (near_Segments_2 a0 a1 b0 b1 c0 c1 d0 d1)), (.flt (near_Segments_3 a0 a1 b0 b1 c0 c1 d0 d1)), (.flt (near_Segments_4 a0 a1 b0 b1 c0 c1 d0 d1))])))) (by kernel_rfl) ?_⟩
    unfold near_Segments_0 near_Segments_1 near_Segments_2 near_Segments_3 near_Segments_4
    cases (near_across (vec_Cross (vec_Sub_0 b0 b1 a0 a1) (vec_Sub_1 b0 b1 a0 a1) (vec_Sub_0 c0 c1 a0 a1) (vec_Sub_1 c0 c1 a0 a1)) (vec_Cross (vec_Sub_0 b0 b1 a0 a1) (vec_Sub_1 b0 b1 a0 a1) (vec_Sub_0 d0 d1 a0 a1) (vec_Sub_1 d0 d1 a0 a1))) with
    | true =>
        cases (near_across (vec_Cross (vec_Sub_0 d0 d1 c0 c1) (vec_Sub_1 d0 d1 c0 c1) (vec_Sub_0 a0 a1 c0 c1) (vec_Sub_1 a0 a1 c0 c1)) (vec_Cross (vec_Sub_0 d0 d1 c0 c1) (vec_Sub_1 d0 d1 c0 c1) (vec_Sub_0 b0 b1 c0 c1) (vec_Sub_1 b0 b1 c0 c1))) with
        | true =>
            rfl
        | false =>
            rfl
    | false =>
        rfl
  · cases h

end Go.Proofs.Ythopjahoaljhaaa.X
