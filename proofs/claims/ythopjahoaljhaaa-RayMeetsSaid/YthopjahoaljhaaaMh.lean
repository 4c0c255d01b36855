/- Contracts of functions of the program, laid out by a program of mine (gen.py): what each gives, as a function of its arguments; floats up to the bits of a NaN. (and what goes with it: 7 parts.) -/
import Derived.Test.YthopjahoaljhaaaMe
import Derived.Test.YthopjahoaljhaaaMd
/-! ## Contracts of functions of the program, laid out by a program of mine (gen.py): what each gives, as a function of its arguments; floats up to the bits of a NaN. -/
set_option linter.unusedVariables false
set_option linter.unusedSimpArgs false
set_option maxRecDepth 100000
namespace Go.Proofs.Ythopjahoaljhaaa.X
open Go Go.RowKit
noncomputable section

theorem fEq_notN {x y : Nat} (h : fEq x y = true) : isN x = false ∧ isN y = false := by
  unfold fEq Ieee.Format.order at h
  constructor
  · cases hx : isN x with
    | false => rfl
    | true => obtain ⟨s, t, e⟩ := read_nan hx; rw [e, order_nan_left] at h; cases h
  · cases hx : isN y with
    | false => rfl
    | true => obtain ⟨s, t, e⟩ := read_nan hx; rw [e, order_nan_right] at h; cases h
/-- tumble/ray.Circle -/
def ray_Circle_0 (a0 : Nat) (a1 : Nat) (b : Nat) (c0 : Nat) (c1 : Nat) (d0 : Nat) (d1 : Nat) : Nat := cond (ray_real a0 a1) (cond (num_Within b (4787326403894837248 : Nat)) (cond (fLt b (4472074429978902528 : Nat)) ((0 : Nat)) (cond (bne (ray_asked c0 c1 d0 d1) (0 : Int)) ((0 : Nat)) (ray_circle_0 a0 a1 b c0 c1 d0 d1))) ((0 : Nat))) ((0 : Nat))
def ray_Circle_1 (a0 : Nat) (a1 : Nat) (b : Nat) (c0 : Nat) (c1 : Nat) (d0 : Nat) (d1 : Nat) : Nat := cond (ray_real a0 a1) (cond (num_Within b (4787326403894837248 : Nat)) (cond (fLt b (4472074429978902528 : Nat)) ((0 : Nat)) (cond (bne (ray_asked c0 c1 d0 d1) (0 : Int)) ((0 : Nat)) (ray_circle_1 a0 a1 b c0 c1 d0 d1))) ((0 : Nat))) ((0 : Nat))
def ray_Circle_2 (a0 : Nat) (a1 : Nat) (b : Nat) (c0 : Nat) (c1 : Nat) (d0 : Nat) (d1 : Nat) : Nat := cond (ray_real a0 a1) (cond (num_Within b (4787326403894837248 : Nat)) (cond (fLt b (4472074429978902528 : Nat)) ((0 : Nat)) (cond (bne (ray_asked c0 c1 d0 d1) (0 : Int)) ((0 : Nat)) (ray_circle_2 a0 a1 b c0 c1 d0 d1))) ((0 : Nat))) ((0 : Nat))
def ray_Circle_3 (a0 : Nat) (a1 : Nat) (b : Nat) (c0 : Nat) (c1 : Nat) (d0 : Nat) (d1 : Nat) : Nat := cond (ray_real a0 a1) (cond (num_Within b (4787326403894837248 : Nat)) (cond (fLt b (4472074429978902528 : Nat)) ((0 : Nat)) (cond (bne (ray_asked c0 c1 d0 d1) (0 : Int)) ((0 : Nat)) (ray_circle_3 a0 a1 b c0 c1 d0 d1))) ((0 : Nat))) ((0 : Nat))
def ray_Circle_4 (a0 : Nat) (a1 : Nat) (b : Nat) (c0 : Nat) (c1 : Nat) (d0 : Nat) (d1 : Nat) : Nat := cond (ray_real a0 a1) (cond (num_Within b (4787326403894837248 : Nat)) (cond (fLt b (4472074429978902528 : Nat)) ((0 : Nat)) (cond (bne (ray_asked c0 c1 d0 d1) (0 : Int)) ((0 : Nat)) (ray_circle_4 a0 a1 b c0 c1 d0 d1))) ((0 : Nat))) ((0 : Nat))
def ray_Circle_5 (a0 : Nat) (a1 : Nat) (b : Nat) (c0 : Nat) (c1 : Nat) (d0 : Nat) (d1 : Nat) : Bool := ((ray_real a0 a1) && ((num_Within b (4787326403894837248 : Nat)) && cond (fLt b (4472074429978902528 : Nat)) (Bool.false) (cond (bne (ray_asked c0 c1 d0 d1) (0 : Int)) (Bool.false) ((ray_circle_5 a0 a1 b c0 c1 d0 d1)))))
def ray_Circle_6 (a0 : Nat) (a1 : Nat) (b : Nat) (c0 : Nat) (c1 : Nat) (d0 : Nat) (d1 : Nat) : Int := cond (ray_real a0 a1) (cond (num_Within b (4787326403894837248 : Nat)) (cond (fLt b (4472074429978902528 : Nat)) ((5 : Int)) (cond (bne (ray_asked c0 c1 d0 d1) (0 : Int)) (ray_asked c0 c1 d0 d1) ((0 : Int)))) ((5 : Int))) ((5 : Int))
def d23 : List AT → Option AT
  | [.av (.agg [.flt a0, .flt a1]), .av (.one (.flt b)), .av (.agg [.flt c0, .flt c1]), .av (.agg [.flt d0, .flt d1])] => some (.tup [(.agg [(.flt (ray_Circle_0 a0 a1 b c0 c1 d0 d1)), (.flt (ray_Circle_1 a0 a1 b c0 c1 d0 d1)), (.flt (ray_Circle_2 a0 a1 b c0 c1 d0 d1)), (.flt (ray_Circle_3 a0 a1 b c0 c1 d0 d1)), (.flt (ray_Circle_4 a0 a1 b c0 c1 d0 d1))]), (.one (.bool (ray_Circle_5 a0 a1 b c0 c1 d0 d1))), (.one (.int .i64 (ray_Circle_6 a0 a1 b c0 c1 d0 d1)))])
  | _ => none
def e23 : Ent := .of d23
theorem c23 : CallOk Pr 23 e23 := by
  refine callOk_auto (T := tb 44 [(56, e56), (63, e63), (64, e64), (65, e65)] [] []) (tb_ok (fnCons c56 (fnCons c63 (fnCons c64 (fnCons c65 (fnNil _))))) (fnBNil _)) Try.func23 rfl (by decide) rfl rfl (Ent.of_k d23) ?_
  intro l r h hb
  change d23 l = some r at h
  unfold d23 at h
  split at h
  · rename_i a0 a1 b c0 c1 d0 d1
    cases h
    refine ⟨rfl, rfl, by_kernel (q := cond (ray_real a0 a1) (cond (num_Within b (4787326403894837248 : Nat)) (cond (fLt b (4472074429978902528 : Nat)) (AT.tup [(.agg [(.flt ((0 : Nat))), (.flt ((0 : Nat))), (.flt ((0 : Nat))), (.flt ((0 : Nat))), (.flt ((0 : Nat)))]), (.one (.bool Bool.false)), (.one (.int .i64 ((5 : Int))))] = (.tup [(.agg [(.flt (ray_Circle_0 a0 a1 b c0 c1 d0 d1)), (.flt (ray_Circle_1 a0 a1 b c0 c1 d0 d1)), (.flt (ray_Circle_2 a0 a1 b c0 c1 d0 d1)), (.flt (ray_Circle_3 a0 a1 b c0 c1 d0 d1)), (.flt (ray_Circle_4 a0 a1 b c0 c1 d0 d1))]), (.one (.bool (ray_Circle_5 a0 a1 b c0 c1 d0 d1))), (.one (.int .i64 (ray_Circle_6 a0 a1 b c0 c1 d0 d1)))])) (cond (bne (ray_asked c0 c1 d0 d1) (0 : Int)) (AT.tup [(.agg [(.flt ((0 : Nat))), (.flt ((0 : Nat))), (.flt ((0 : Nat))), (.flt ((0 : Nat))), (.flt ((0 : Nat)))]), (.one (.bool Bool.false)), (.one (.int .i64 (ray_asked c0 c1 d0 d1)))] = (.tup [(.agg [(.flt (ray_Circle_0 a0 a1 b c0 c1 d0 d1)), (.flt (ray_Circle_1 a0 a1 b c0 c1 d0 d1)), (.flt (ray_Circle_2 a0 a1 b c0 c1 d0 d1)), (.flt (ray_Circle_3 a0 a1 b c0 c1 d0 d1)), (.flt (ray_Circle_4 a0 a1 b c0 c1 d0 d1))]), (.one (.bool (ray_Circle_5 a0 a1 b c0 c1 d0 d1))), (.one (.int .i64 (ray_Circle_6 a0 a1 b c0 c1 d0 d1)))])) (cond (ray_circle_5 a0 a1 b c0 c1 d0 d1) (AT.tup [(.agg [(.flt (ray_circle_0 a0 a1 b c0 c1 d0 d1)), (.flt (ray_circle_1 a0 a1 b c0 c1 d0 d1)), (.flt (ray_circle_2 a0 a1 b c0 c1 d0 d1)), (.flt (ray_circle_3 a0 a1 b c0 c1 d0 d1)), (.flt (ray_circle_4 a0 a1 b c0 c1 d0 d1))]), (.one (.bool Bool.true)), (.one (.int .i64 ((0 : Int))))] = (.tup [(.agg [(.flt (ray_Circle_0 a0 a1 b c0 c1 d0 d1)), (.flt (ray_Circle_1 a0 a1 b c0 c1 d0 d1)), (.flt (ray_Circle_2 a0 a1 b c0 c1 d0 d1)), (.flt (ray_Circle_3 a0 a1 b c0 c1 d0 d1)), (.flt (ray_Circle_4 a0 a1 b c0 c1 d0 d1))]), (.one (.bool (ray_Circle_5 a0 a1 b c0 c1 d0 d1))), (.one (.int .i64 (ray_Circle_6 a0 a1 b c0 c1 d0 d1)))])) (AT.tup [(.agg [(.flt (ray_circle_0 a0 a1 b c0 c1 d0 d1)), (.flt (ray_circle_1 a0 a1 b c0 c1 d0 d1)), (.flt (ray_circle_2 a0 a1 b c0 c1 d0 d1)), (.flt (ray_circle_3 a0 a1 b c0 c1 d0 d1)), (.flt (ray_circle_4 a0 a1 b c0 c1 d0 d1))]), (.one (.bool Bool.false)), (.one (.int .i64 ((0 : Int))))] = (.tup [(.agg [(.flt (ray_Circle_0 a0 a1 b c0 c1 d0 d1)), (.flt (ray_Circle_1 a0 a1 b c0 c1 d0 d1)), (.flt (ray_Circle_2 a0 a1 b c0 c1 d0 d1)), (.flt (ray_Circle_3 a0 a1 b c0 c1 d0 d1)), (.flt (ray_Circle_4 a0 a1 b c0 c1 d0 d1))]), (.one (.bool (ray_Circle_5 a0 a1 b c0 c1 d0 d1))), (.one (.int .i64 (ray_Circle_6 a0 a1 b c0 c1 d0 d1)))]))))) (AT.tup [(.agg [(.flt ((0 : Nat))), (.flt ((0 : Nat))), (.flt ((0 : Nat))), (.flt ((0 : Nat))), (.flt ((0 : Nat)))]), (.one (.bool Bool.false)), (.one (.int .i64 ((5 : Int))))] = (.tup [(.agg [(.flt (ray_Circle_0 a0 a1 b c0 c1 d0 d1)), (.flt (ray_Circle_1 a0 a1 b c0 c1 d0 d1)), (.flt (ray_Circle_2 a0 a1 b c0 c1 d0 d1)), (.flt (ray_Circle_3 a0 a1 b c0 c1 d0 d1)), (.flt (ray_Circle_4 a0 a1 b c0 c1 d0 d1))]), (.one (.bool (ray_Circle_5 a0 a1 b c0 c1 d0 d1))), (.one (.int .i64 (ray_Circle_6 a0 a1 b c0 c1 d0 d1)))]))) (AT.tup [(.agg [(.flt ((0 : Nat))), (.flt ((0 : Nat))), (.flt ((0 : Nat))), (.flt ((0 : Nat))), (.flt ((0 : Nat)))]), (.one (.bool Bool.false)), (.one (.int .i64 ((5 : Int))))] = (.tup [(.agg [(.flt (ray_Circle_0 a0 a1 b c0 c1 d0 d1)), (.flt (ray_Circle_1 a0 a1 b c0 c1 d0 d1)), (.flt (ray_Circle_2 a0 a1 b c0 c1 d0 d1)), (.flt (ray_Circle_3 a0 a1 b c0 c1 d0 d1)), (.flt (ray_Circle_4 a0 a1 b c0 c1 d0 d1))]), (.one (.bool (ray_Circle_5 a0 a1 b c0 c1 d0 d1))), (.one (.int .i64 (ray_Circle_6 a0 a1 b c0 c1 d0 d1)))]))) (by kernel_rfl) ?_⟩
    unfold ray_Circle_0 ray_Circle_1 ray_Circle_2 ray_Circle_3 ray_Circle_4 ray_Circle_5 ray_Circle_6
    cases (ray_real a0 a1) with
    | true =>
        cases (num_Within b (4787326403894837248 : Nat)) with
        | true =>
            cases (fLt b (4472074429978902528 : Nat)) with
            | true =>
                rfl
            | false =>
                cases (bne (ray_asked c0 c1 d0 d1) (0 : Int)) with
                | true =>
                    rfl
                | false =>
                    cases (ray_circle_5 a0 a1 b c0 c1 d0 d1) with
                    | true =>
                        rfl
                    | false =>
                        rfl
        | false =>
            rfl
    | false =>
        rfl
  · cases h

/-- tumble/tumblelaw12.small -/
def law12_small (a0 : Nat) (a1 : Nat) : Bool := ((fEq a0 (math_Trunc a0)) && ((fEq a1 (math_Trunc a1)) && ((fLe (nz (Int.toNat (Go.IntKind.wrap Go.IntKind.u64 (Nat.cast (BitVec.toNat (HAnd.hAnd (BitVec.ofInt (Go.IntKind.bits Go.IntKind.u64) (Nat.cast a0 : Int)) (Complement.complement (BitVec.ofInt (Go.IntKind.bits Go.IntKind.u64) (9223372036854775808 : Int))))) : Int)))) (4652007308841189376 : Nat)) && (fLe (nz (Int.toNat (Go.IntKind.wrap Go.IntKind.u64 (Nat.cast (BitVec.toNat (HAnd.hAnd (BitVec.ofInt (Go.IntKind.bits Go.IntKind.u64) (Nat.cast a1 : Int)) (Complement.complement (BitVec.ofInt (Go.IntKind.bits Go.IntKind.u64) (9223372036854775808 : Int))))) : Int)))) (4652007308841189376 : Nat)))))
def d16 : List AT → Option AT
  | [.av (.agg [.flt a0, .flt a1])] => some (.av (.one (.bool (law12_small a0 a1))))
  | _ => none
def e16 : Ent := .of d16
theorem c16 : CallOk Pr 16 e16 := by
  refine callOk_auto (T := tb 29 [(14, e14), (22, e22)] [] []) (tb_ok (fnCons c14 (fnCons c22 (fnNil _))) (fnBNil _)) Try.func16 rfl (by decide) rfl rfl (Ent.of_k d16) ?_
  intro l r h hb
  change d16 l = some r at h
  unfold d16 at h
  split at h
  · rename_i a0 a1
    cases h
    refine ⟨rfl, rfl, by_kernel (q := cond (fEq a0 (math_Trunc a0)) (cond (fEq a1 (math_Trunc a1)) (cond (isN a0) (False) (cond (fLe (nz (Int.toNat (Go.IntKind.wrap Go.IntKind.u64 (Nat.cast (BitVec.toNat (HAnd.hAnd (BitVec.ofInt (Go.IntKind.bits Go.IntKind.u64) (Nat.cast a0 : Int)) (Complement.complement (BitVec.ofInt (Go.IntKind.bits Go.IntKind.u64) (9223372036854775808 : Int))))) : Int)))) (4652007308841189376 : Nat)) (cond (isN a1) (False) (cond (fLe (nz (Int.toNat (Go.IntKind.wrap Go.IntKind.u64 (Nat.cast (BitVec.toNat (HAnd.hAnd (BitVec.ofInt (Go.IntKind.bits Go.IntKind.u64) (Nat.cast a1 : Int)) (Complement.complement (BitVec.ofInt (Go.IntKind.bits Go.IntKind.u64) (9223372036854775808 : Int))))) : Int)))) (4652007308841189376 : Nat)) (AT.av (.one (.bool Bool.true)) = (.av (.one (.bool (law12_small a0 a1))))) (AT.av (.one (.bool Bool.false)) = (.av (.one (.bool (law12_small a0 a1))))))) (AT.av (.one (.bool Bool.false)) = (.av (.one (.bool (law12_small a0 a1))))))) (AT.av (.one (.bool Bool.false)) = (.av (.one (.bool (law12_small a0 a1)))))) (AT.av (.one (.bool Bool.false)) = (.av (.one (.bool (law12_small a0 a1)))))) (by kernel_rfl) ?_⟩
    unfold law12_small
    cases hc1 : (fEq a0 (math_Trunc a0)) with
    | true =>
        cases hc2 : (fEq a1 (math_Trunc a1)) with
        | true =>
            cases hc3 : (isN a0) with
            | true =>
                first | exact absurd ((fEq_notN hc1).1.symm.trans hc3) Bool.false_ne_true | exact absurd ((fEq_notN hc2).1.symm.trans hc5) Bool.false_ne_true
            | false =>
                cases hc4 : (fLe (nz (Int.toNat (Go.IntKind.wrap Go.IntKind.u64 (Nat.cast (BitVec.toNat (HAnd.hAnd (BitVec.ofInt (Go.IntKind.bits Go.IntKind.u64) (Nat.cast a0 : Int)) (Complement.complement (BitVec.ofInt (Go.IntKind.bits Go.IntKind.u64) (9223372036854775808 : Int))))) : Int)))) (4652007308841189376 : Nat)) with
                | true =>
                    cases hc5 : (isN a1) with
                    | true =>
                        first | exact absurd ((fEq_notN hc1).1.symm.trans hc3) Bool.false_ne_true | exact absurd ((fEq_notN hc2).1.symm.trans hc5) Bool.false_ne_true
                    | false =>
                        cases hc6 : (fLe (nz (Int.toNat (Go.IntKind.wrap Go.IntKind.u64 (Nat.cast (BitVec.toNat (HAnd.hAnd (BitVec.ofInt (Go.IntKind.bits Go.IntKind.u64) (Nat.cast a1 : Int)) (Complement.complement (BitVec.ofInt (Go.IntKind.bits Go.IntKind.u64) (9223372036854775808 : Int))))) : Int)))) (4652007308841189376 : Nat)) with
                        | true =>
                            rfl
                        | false =>
                            rfl
                | false =>
                    rfl
        | false =>
            rfl
    | false =>
        rfl
  · cases h

end
end Go.Proofs.Ythopjahoaljhaaa.X

/-! ## The law's inside: a loop over sides. -/
set_option linter.unusedVariables false
set_option linter.unusedSimpArgs false
set_option maxRecDepth 100000
namespace Go.Proofs.Ythopjahoaljhaaa.X
open Go Go.RowKit

noncomputable def b18 : Code := ((loopsOf (Try.f18.body.getD .skip)).getD 0 .skip)
def vl18 : XE → List LV := fun
  | .n => [.t 0, .t 3, .b 3, .t 5]
  | .r => [.t 4]
  | _ => []

theorem t18 (l : List (Nat × Nat)) (x : Nat) (y : Nat) (i : Nat) (R : AT) (h : cond (Decidable.decide (LT.lt (Nat.cast i : Int) (Nat.cast (List.length l) : Int))) (cond (Decidable.decide (Eq (Nat.cast (List.length l) : Int) (0 : Int))) (False) (cond (inRange (Int.tmod (Go.IntKind.wrap Go.IntKind.i64 (HAdd.hAdd (Nat.cast i : Int) (1 : Int))) (Nat.cast (List.length l) : Int)) (List.length l)) (cond (inRange ((Nat.cast i : Int)) (List.length l)) (cond (inRange ((Nat.cast i : Int)) (List.length l)) (cond (fGt (vec_Cross (vec_Sub_0 (Prod.fst (gp l (Int.toNat (Int.tmod (Go.IntKind.wrap Go.IntKind.i64 (HAdd.hAdd (Nat.cast i : Int) (1 : Int))) (Nat.cast (List.length l) : Int))))) (Prod.snd (gp l (Int.toNat (Int.tmod (Go.IntKind.wrap Go.IntKind.i64 (HAdd.hAdd (Nat.cast i : Int) (1 : Int))) (Nat.cast (List.length l) : Int))))) (Prod.fst (gp l (Int.toNat (Nat.cast i : Int)))) (Prod.snd (gp l (Int.toNat (Nat.cast i : Int))))) (vec_Sub_1 (Prod.fst (gp l (Int.toNat (Int.tmod (Go.IntKind.wrap Go.IntKind.i64 (HAdd.hAdd (Nat.cast i : Int) (1 : Int))) (Nat.cast (List.length l) : Int))))) (Prod.snd (gp l (Int.toNat (Int.tmod (Go.IntKind.wrap Go.IntKind.i64 (HAdd.hAdd (Nat.cast i : Int) (1 : Int))) (Nat.cast (List.length l) : Int))))) (Prod.fst (gp l (Int.toNat (Nat.cast i : Int)))) (Prod.snd (gp l (Int.toNat (Nat.cast i : Int))))) (vec_Sub_0 x y (Prod.fst (gp l (Int.toNat (Nat.cast i : Int)))) (Prod.snd (gp l (Int.toNat (Nat.cast i : Int))))) (vec_Sub_1 x y (Prod.fst (gp l (Int.toNat (Nat.cast i : Int)))) (Prod.snd (gp l (Int.toNat (Nat.cast i : Int)))))) (0 : Nat)) (AT.tup [(.one (.int .i64 ((Nat.cast (codeX XE.n) : Int)))), (.one (.sl l)), (.one (.lp ((3 : Nat)) ((0 : Nat)))), (.agg [(.flt x), (.flt y)]), (.one (.int .i64 (Go.IntKind.wrap Go.IntKind.i64 (HAdd.hAdd (Nat.cast i : Int) (1 : Int)))))] = R) (AT.tup [(.one (.int .i64 ((Nat.cast (codeX XE.r) : Int)))), (.one (.bool Bool.false))] = R)) (False)) (False)) (False))) (AT.tup [(.one (.int .i64 ((Nat.cast (codeX (XE.x (0 : Nat))) : Int))))] = R)) : xcode (tb 34 [(13, e13), (54, e54)] [] []) b18 (mkS (vl18 .n) [.one (.sl l), .one (.lp 3 0), .agg [.flt x, .flt y], .one (.int .i64 i)]) (fun e σ => obsT vl18 e σ = R) := by_kernel (q := cond (Decidable.decide (LT.lt (Nat.cast i : Int) (Nat.cast (List.length l) : Int))) (cond (Decidable.decide (Eq (Nat.cast (List.length l) : Int) (0 : Int))) (False) (cond (inRange (Int.tmod (Go.IntKind.wrap Go.IntKind.i64 (HAdd.hAdd (Nat.cast i : Int) (1 : Int))) (Nat.cast (List.length l) : Int)) (List.length l)) (cond (inRange ((Nat.cast i : Int)) (List.length l)) (cond (inRange ((Nat.cast i : Int)) (List.length l)) (cond (fGt (vec_Cross (vec_Sub_0 (Prod.fst (gp l (Int.toNat (Int.tmod (Go.IntKind.wrap Go.IntKind.i64 (HAdd.hAdd (Nat.cast i : Int) (1 : Int))) (Nat.cast (List.length l) : Int))))) (Prod.snd (gp l (Int.toNat (Int.tmod (Go.IntKind.wrap Go.IntKind.i64 (HAdd.hAdd (Nat.cast i : Int) (1 : Int))) (Nat.cast (List.length l) : Int))))) (Prod.fst (gp l (Int.toNat (Nat.cast i : Int)))) (Prod.snd (gp l (Int.toNat (Nat.cast i : Int))))) (vec_Sub_1 (Prod.fst (gp l (Int.toNat (Int.tmod (Go.IntKind.wrap Go.IntKind.i64 (HAdd.hAdd (Nat.cast i : Int) (1 : Int))) (Nat.cast (List.length l) : Int))))) (Prod.snd (gp l (Int.toNat (Int.tmod (Go.IntKind.wrap Go.IntKind.i64 (HAdd.hAdd (Nat.cast i : Int) (1 : Int))) (Nat.cast (List.length l) : Int))))) (Prod.fst (gp l (Int.toNat (Nat.cast i : Int)))) (Prod.snd (gp l (Int.toNat (Nat.cast i : Int))))) (vec_Sub_0 x y (Prod.fst (gp l (Int.toNat (Nat.cast i : Int)))) (Prod.snd (gp l (Int.toNat (Nat.cast i : Int))))) (vec_Sub_1 x y (Prod.fst (gp l (Int.toNat (Nat.cast i : Int)))) (Prod.snd (gp l (Int.toNat (Nat.cast i : Int)))))) (0 : Nat)) (AT.tup [(.one (.int .i64 ((Nat.cast (codeX XE.n) : Int)))), (.one (.sl l)), (.one (.lp ((3 : Nat)) ((0 : Nat)))), (.agg [(.flt x), (.flt y)]), (.one (.int .i64 (Go.IntKind.wrap Go.IntKind.i64 (HAdd.hAdd (Nat.cast i : Int) (1 : Int)))))] = R) (AT.tup [(.one (.int .i64 ((Nat.cast (codeX XE.r) : Int)))), (.one (.bool Bool.false))] = R)) (False)) (False)) (False))) (AT.tup [(.one (.int .i64 ((Nat.cast (codeX (XE.x (0 : Nat))) : Int))))] = R)) (by kernel_rfl) h

/-- Is a place to the left of a side? -/
def insF (l : List (Nat × Nat)) (x y i : Nat) : Bool :=
  fGt (vec_Cross (way0 l i) (way1 l i) (vec_Sub_0 x y (gp l i).1 (gp l i).2) (vec_Sub_1 x y (gp l i).1 (gp l i).2)) 0
def s18 (σ : St) (K : XE → St → Prop) : Prop :=
  match getLVs σ (vl18 .n) with
  | some [.one (.sl l), .one (.lp 3 0), .agg [.flt x, .flt y], .one (.int .i64 0)] =>
    l.length ≤ 8796093022208 ∧ (bif allF (insF l x y) 0 l.length then K (.x 0) ⟨[], []⟩ else K .r ⟨[(4, .av (.one (.bool false)))], []⟩)
  | _ => False
theorem lo18 : LoopOk Pr (tb 34 [(13, e13), (54, e54)] [] []) b18 s18 := by
  refine all_ok (tb_ok (fnCons c13 (fnCons c54 (fnNil _))) (fnBNil _)) (vl := vl18) (Ctx := List (Nat × Nat) × Nat × Nat)
    (enc := fun c i => [.one (.sl c.1), .one (.lp 3 0), .agg [.flt c.2.1, .flt c.2.2], .one (.int .i64 i)])
    (N := fun c => c.1.length) (f := fun c => insF c.1 c.2.1 c.2.2) (xd := 0) (done := fun _ => []) (bad := fun _ _ => [.one (.bool false)])
    (pre := fun c => c.1.length ≤ 8796093022208) (noLoops (by kernel_rfl)) ?_ ?_ ?_
  · intro σ K h
    unfold s18 at h
    split at h
    · rename_i l x y hg
      obtain ⟨hl, h⟩ := h
      refine ⟨(l, x, y), 0, hl, Nat.zero_le _, hg, ?_⟩
      cases ha : allF (insF l x y) 0 l.length with
      | true => rw [ha] at h; rw [Nat.sub_zero, fstF_none ha]; exact h
      | false => rw [ha] at h; obtain ⟨j, hj⟩ := fstF_some ha; rw [Nat.sub_zero, hj]; exact h
    · exact h.elim
  · intro c i h
    exact ⟨rfl, rfl, rfl⟩
  · rintro ⟨l, x, y⟩ i hl hk hb
    dsimp only at hl hk ⊢
    apply t18
    rw [dlt, inRange_nat, Int.toNat_natCast]
    by_cases hi : i < l.length
    · have hm : (i + 1) % l.length < l.length := Nat.mod_lt _ (by omega)
      have hz : decide ((l.length : Int) = 0) = false := by rw [decide_eq_false_iff_not]; omega
      have hw : IntKind.i64.wrap ((i : Int) + 1) = ((i + 1 : Nat) : Int) := wrap_succ (by omega)
      rw [hz, hw, tmod_nat, inRange_nat, Int.toNat_natCast, decide_eq_true hm, decide_eq_true hi]
      simp only [insF, way0, way1]
      cases fGt (vec_Cross (vec_Sub_0 (gp l ((i + 1) % l.length)).1 (gp l ((i + 1) % l.length)).2 (gp l i).1 (gp l i).2) (vec_Sub_1 (gp l ((i + 1) % l.length)).1 (gp l ((i + 1) % l.length)).2 (gp l i).1 (gp l i).2) (vec_Sub_0 x y (gp l i).1 (gp l i).2) (vec_Sub_1 x y (gp l i).1 (gp l i).2)) 0 <;> rfl
    · rw [decide_eq_false hi]; rfl

end Go.Proofs.Ythopjahoaljhaaa.X

/-! ## Contracts of functions of the program, laid out by a program of mine (gen.py): what each gives, as a function of its arguments; floats up to the bits of a NaN. -/
set_option linter.unusedVariables false
set_option linter.unusedSimpArgs false
set_option maxRecDepth 100000
namespace Go.Proofs.Ythopjahoaljhaaa.X
open Go Go.RowKit
noncomputable section

/-- tumble/tumblelaw12.inside -/
def law12_inside (a : List (Nat × Nat)) (b0 : Nat) (b1 : Nat) : Bool := (allF (insF a b0 b1) (0 : Nat) (List.length a))
def d18 : List AT → Option AT
  | [.av (.one (.sl a)), .av (.agg [.flt b0, .flt b1])] => some (.av (.one (.bool (law12_inside a b0 b1))))
  | _ => none
def e18 : Ent := .of d18
theorem c18 : CallOk Pr 18 e18 := by
  refine callOk_autoL (T := tb 34 [(13, e13), (54, e54)] [] [(2, s18)]) (tb_ok (fnCons c13 (fnCons c54 (fnNil _))) (fnBNil _)) Try.func18 rfl (by decide) rfl (loops1 (by kernel_rfl) rfl lo18) (Ent.of_k d18) ?_
  intro l r h hb
  change d18 l = some r at h
  unfold d18 at h
  split at h
  · rename_i a b0 b1
    cases h
    refine ⟨rfl, rfl, by_kernel (q := And (LE.le (List.length a) (8796093022208 : Nat)) (cond (allF (insF a b0 b1) (0 : Nat) (List.length a)) (AT.av (.one (.bool Bool.true)) = (.av (.one (.bool (law12_inside a b0 b1))))) (AT.av (.one (.bool Bool.false)) = (.av (.one (.bool (law12_inside a b0 b1))))))) (by kernel_rfl) ?_⟩
    unfold law12_inside
    refine ⟨?_, ?_⟩
    · exact hb (.av (.one (.sl a))) (by simp)
    cases (allF (insF a b0 b1) (0 : Nat) (List.length a)) with
    | true =>
        rfl
    | false =>
        rfl
  · cases h

end
end Go.Proofs.Ythopjahoaljhaaa.X

/-! ## Functions that hand back a slice that they made; loops that carry something on, with a condition on it. -/
set_option linter.unusedVariables false
set_option linter.unusedSimpArgs false
namespace Go.Proofs.Ythopjahoaljhaaa.X
open Go Go.RowKit

/-- A slice over a box of the call's own, as what it holds. -/
def ViewA (bx : Nat → Option Bx) (a b : AV) : Prop := a = b ∨ ∃ d n l, a = .one (.asl d n) ∧ b = .one (.sl l) ∧ bx d = some (.arr l) ∧ l.length = n
def ViewT (bx : Nat → Option Bx) : AT → AT → Prop
  | .av a, .av b => ViewA bx a b
  | .tup l, .tup m => l.length = m.length ∧ ∀ (i : Nat) (a b : AV), l[i]? = some a → m[i]? = some b → ViewA bx a b
  | _, _ => False

section
variable {P : Program} {T : Tb}
theorem ViewA.sound {own : Nat → Prop} {S0 : Sx} {w0 w : World} {n : Nat} {β : Nat → Nat} {env : Nat → Option AT} {bx : Nat → Option Bx} {a : Act} (hI : Inv own S0 w0 n β env bx a w) (hS : ∀ b, ¬ S0.S b)
    {x y : AV} (h : ViewA bx x y) (hn : y.nms = []) {v : Value} (hv : x.R (cx own bx β w) v) : y.R (bare own w) v := by
  rcases h with rfl | ⟨d, k, l, rfl, rfl, hb, hl⟩
  · exact AV.R.go (C := cx own bx β w) ⟨fun _ _ _ => rfl, fun b _ hb => .inl hb, fun d hd _ => by rw [hn] at hd; cases hd⟩ hv
  · obtain ⟨_, cap, rfl⟩ := hv
    obtain ⟨hlm, vs, e, hh0, hc⟩ := hI.box d _ hb
    have hh : w.heap[β d]? = some (.cells vs e (0, 0)) := hh0
    refine ⟨hlm, some ⟨β d, 0, none⟩, cap, by rw [hl]; rfl, ?_⟩
    intro i p hp
    obtain ⟨v1, v2, h1, h2, f1, f2⟩ := hc i p hp
    refine ⟨β d, 0, rfl, ?_, v1, v2, ?_, ?_, f1, f2⟩
    · intro ho
      have h3 := hI.lt0 _ ho
      rcases hI.may d (by rw [hb]; rfl) with h4 | h4
      · omega
      · exact hS _ h4
    · show w.cell? ⟨β d, 0 + 2 * i, none⟩ = _
      rw [cell_box hh, Nat.zero_add]; exact h1
    · show w.cell? ⟨β d, 0 + 2 * i + 1, none⟩ = _
      rw [cell_box hh, Nat.zero_add]; exact h2

theorem callOkV_of (hT : TOk P T) {k : FuncId} {fn : Func} {code : Code} (hf : P.funcs[k]? = some fn) (hb : fn.body = some code) (hnm : (fn.name == "runtime.NumGoroutine") = false) (hn : T.n = fn.ntmps) (hloops : LoopsOk P T code)
    {e : Ent} (hk : ∀ l K, e.k l K → ∃ r, e.d l = some r ∧ K r)
    (h : ∀ l r, e.d l = some r → LBs l → Nat.ble l.length fn.ntmps = true ∧ noNmT [r] = true ∧ ∃ K' : AT → List (Nat × Bx) → Prop, (∀ r' bx, K' r' bx → ViewT (lk bx) r' r) ∧ xfun T code fn.results.toList l [] K') : CallOk P k e := by
  refine ⟨hk, fun l r hr own w vs hown hvs => ?_⟩
  obtain ⟨h1', h2, K', hK', h3⟩ := h l r hr hvs.lb
  have h1 := Nat.le_of_ble_eq_true h1'
  have hB : Bxs own (fun _ => 0) (lk ([] : List (Nat × Bx))) w := ⟨fun d _ hd => by simp [lk] at hd, fun d hd => by simp [lk] at hd, fun d c hd => by simp [lk] at hd⟩
  have hvs' : ATs (cx own (lk ([] : List (Nat × Bx))) (fun _ => 0) w) l vs := by
    refine ⟨hvs.1, fun i a x ha hx => AT.R.go (C := bare own w) ⟨fun _ _ _ => rfl, ?_, fun d _ hd => hd.elim⟩ (hvs.2 i a x ha hx)⟩
    rintro b _ (hb | ⟨d, hd, _⟩)
    · exact hb
    · simp [lk] at hd
  refine .inr ⟨run_callFunc hf hb hnm _ _, (xfun_sound hT hf hb hn hloops h1 h3 hown hB hvs').mono ?_⟩
  rintro en w' ⟨x, he, σ, r', β', hr0, ⟨a, hI⟩, hR⟩
  have hr' := hK' _ _ hr0
  have hS : ∀ b, ¬ (Sx0 [] (fun _ => 0)).S b := fun b ⟨d, hd, _⟩ => by simp [lk] at hd
  have nr := noNmT_nms h2 0 r rfl
  refine ⟨x, he, ?_, hI.chg.mono fun k _ ⟨d, hd, _⟩ => by simp [lk] at hd⟩
  cases r' with
  | av p =>
    cases r with
    | av q => exact ViewA.sound hI hS hr' nr hR
    | tup m => exact hr'.elim
  | tup l' =>
    cases r with
    | av q => exact hr'.elim
    | tup m =>
      obtain ⟨us, rfl, hlen, hus⟩ := hR
      obtain ⟨hl2, hv⟩ := hr'
      refine ⟨us, rfl, by omega, fun i b y hb hy => ?_⟩
      have hi : i < l'.length := by rw [hl2]; exact (List.getElem?_eq_some_iff.1 hb).1
      have ha : l'[i]? = some l'[i] := List.getElem?_eq_getElem hi
      refine ViewA.sound hI hS (hv i _ b ha hb) ?_ (hus i _ y ha hy)
      have hm : b ∈ m := List.mem_of_getElem? hb
      have nr' : m.flatMap AV.nms = [] := nr
      rw [List.flatMap_eq_nil_iff] at nr'
      exact nr' b hm
end

theorem itGP {Ctx B : Type} (N : Ctx → Nat) (f : Ctx → Nat → B → B) (xd : Nat) (done : Ctx → B → List AV) (c : Ctx) : ∀ n i b, i + n = N c →
    iter (stG N f xd done) (n + 1) (c, i, b) = some (.x xd, done c (foldI (f c) i n b)) := itG N f xd done c
theorem obsB_arr {bx : List (Nat × Bx)} {k : Nat} {l : List (Nat × Nat)} (h : obsB [k] bx = .tup [.one (.sl l)]) : lk bx k = some (.arr l) := by
  simp only [obsB, obsBs, AT.tup.injEq, List.cons.injEq, and_true] at h
  unfold obsB1 at h
  split at h
  · cases h
  · rename_i m hm; cases h; exact hm
  · cases h
/-- As 'fold_ok', with a condition on what is carried on. -/
theorem fold_okP {P : Program} {T : Tb} (hT : TOk P T) {c : Code} {vl : XE → List LV} {Ctx B : Type} {enc : Ctx → Nat → B → List AV} {N : Ctx → Nat} {f : Ctx → Nat → B → B} {xd : Nat} {done : Ctx → B → List AV} {pre : Ctx → Nat → B → Prop}
    {s : St → (XE → St → Prop) → Prop} (hl : LoopsOk P T c)
    (hp : ∀ x i b, pre x i b → i < N x → pre x (i + 1) (f x i b))
    (hs : ∀ σ K, s σ K → ∃ x i b, pre x i b ∧ i ≤ N x ∧ getLVs σ (vl .n) = some (enc x i b) ∧ K (.x xd) (mkS (vl (.x xd)) (done x (foldI (f x) i (N x - i) b))))
    (hc : ∀ x i b, pre x i b → clOk (vl .n) (enc x i b) = true ∧ clOk (vl (.x xd)) (done x b) = true)
    (hx : ∀ x i b, pre x i b → i ≤ N x → LBl (vl .n) (enc x i b) → xcode T c (mkS (vl .n) (enc x i b)) (fun e σ => obsT vl e σ =
      bif decide (i < N x) then .tup (.one (.int .i64 0) :: enc x (i + 1) (f x i b)) else .tup (.one (.int .i64 ((xd + 2 : Nat) : Int)) :: done x b))) : LoopOk P T c s := by
  refine loop_ok hT (vl := vl) (enc := fun x => enc x.1 x.2.1 x.2.2) (step := stG N f xd done) (pre := fun x => pre x.1 x.2.1 x.2.2 ∧ x.2.1 ≤ N x.1) hl ?_ ?_ ?_ ?_
  · intro σ K h
    obtain ⟨x, i, b, h1, h2, h3, h4⟩ := hs σ K h
    exact ⟨(x, i, b), _, _, _, ⟨h1, h2⟩, h3, itG N f xd done x (N x - i) i b (by omega), h4⟩
  · rintro ⟨x, i, b⟩ ⟨h1, h2⟩
    refine ⟨(hc x i b h1).1, fun e l hs => ?_⟩
    simp only [stG] at hs
    split at hs
    · cases hs
    · cases hs; exact ⟨by simp, (hc x i b h1).2⟩
  · rintro ⟨x, i, b⟩ y ⟨h1, h2⟩ hs
    simp only [stG] at hs
    split at hs
    · rename_i hi
      cases hs; exact ⟨hp x i b h1 hi, by simp only at hi ⊢; omega⟩
    · cases hs
  · rintro ⟨x, i, b⟩ ⟨h1, h2⟩ hb
    have := hx x i b h1 h2 hb
    have e : (bif decide (i < N x) then AT.tup (.one (.int .i64 0) :: enc x (i + 1) (f x i b)) else .tup (.one (.int .i64 ((xd + 2 : Nat) : Int)) :: done x b)) = obsOf (fun x => enc x.1 x.2.1 x.2.2) (stG N f xd done (x, i, b)) := by
      simp only [stG]
      by_cases hi : i < N x
      · rw [if_pos hi, decide_eq_true hi]; rfl
      · rw [if_neg hi, decide_eq_false hi]; rfl
    simp only [e] at this
    exact this
/-! ### Loops that carry something on and may leave -/
def foldO {B : Type} (f : Nat → B → Option B) : Nat → Nat → B → Option B
  | _, 0, b => some b
  | i, n + 1, b => match f i b with
    | some b' => foldO f (i + 1) n b'
    | none => none
def stO {Ctx B : Type} (N : Ctx → Nat) (f : Ctx → Nat → B → Option B) (xd : Nat) (done : Ctx → B → List AV) (bad : Ctx → List AV) (x : Ctx × Nat × B) : Sum (Ctx × Nat × B) (XE × List AV) :=
  if x.2.1 < N x.1 then (match f x.1 x.2.1 x.2.2 with
    | some b => .inl (x.1, x.2.1 + 1, b)
    | none => .inr (.r, bad x.1)) else .inr (.x xd, done x.1 x.2.2)
def endO {Ctx B : Type} (f : Ctx → Nat → B → Option B) (xd : Nat) (done : Ctx → B → List AV) (bad : Ctx → List AV) (c : Ctx) (i n : Nat) (b : B) : XE × List AV :=
  match foldO (f c) i n b with
  | some b' => (.x xd, done c b')
  | none => (.r, bad c)
theorem itO {Ctx B : Type} (N : Ctx → Nat) (f : Ctx → Nat → B → Option B) (xd : Nat) (done : Ctx → B → List AV) (bad : Ctx → List AV) (c : Ctx) : ∀ n i b, i + n = N c →
    iter (stO N f xd done bad) (n + 1) (c, i, b) = some (endO f xd done bad c i n b) := by
  intro n
  induction n with
  | zero =>
    intro i b h
    have : ¬ i < N c := by omega
    simp only [iter, stO, if_neg this, endO, foldO]
  | succ n ih =>
    intro i b h
    have hi : i < N c := by omega
    rw [iter, stO, if_pos hi]
    unfold endO foldO
    cases hf : f c i b with
    | some b' =>
      simp only
      have := ih (i + 1) b' (by omega)
      unfold endO at this
      exact this
    | none => rfl
theorem foldO_ok {P : Program} {T : Tb} (hT : TOk P T) {c : Code} {vl : XE → List LV} {Ctx B : Type} {enc : Ctx → Nat → B → List AV} {N : Ctx → Nat} {f : Ctx → Nat → B → Option B} {xd : Nat} {done : Ctx → B → List AV} {bad : Ctx → List AV} {pre : Ctx → Prop}
    {s : St → (XE → St → Prop) → Prop} (hl : LoopsOk P T c)
    (hs : ∀ σ K, s σ K → ∃ x i b, pre x ∧ i ≤ N x ∧ getLVs σ (vl .n) = some (enc x i b) ∧ K (endO f xd done bad x i (N x - i) b).1 (mkS (vl (endO f xd done bad x i (N x - i) b).1) (endO f xd done bad x i (N x - i) b).2))
    (hc : ∀ x i b, pre x → clOk (vl .n) (enc x i b) = true ∧ clOk (vl (.x xd)) (done x b) = true ∧ clOk (vl .r) (bad x) = true)
    (hx : ∀ x i b, pre x → i ≤ N x → LBl (vl .n) (enc x i b) → xcode T c (mkS (vl .n) (enc x i b)) (fun e σ => obsT vl e σ =
      bif decide (i < N x) then (match f x i b with | some b' => .tup (.one (.int .i64 0) :: enc x (i + 1) b') | none => .tup (.one (.int .i64 1) :: bad x)) else .tup (.one (.int .i64 ((xd + 2 : Nat) : Int)) :: done x b))) : LoopOk P T c s := by
  refine loop_ok hT (vl := vl) (enc := fun x => enc x.1 x.2.1 x.2.2) (step := stO N f xd done bad) (pre := fun x => pre x.1 ∧ x.2.1 ≤ N x.1) hl ?_ ?_ ?_ ?_
  · intro σ K h
    obtain ⟨x, i, b, h1, h2, h3, h4⟩ := hs σ K h
    exact ⟨(x, i, b), _, _, _, ⟨h1, h2⟩, h3, itO N f xd done bad x (N x - i) i b (by omega), h4⟩
  · rintro ⟨x, i, b⟩ ⟨h1, h2⟩
    refine ⟨(hc x i b h1).1, fun e l hs => ?_⟩
    simp only [stO] at hs
    split at hs
    · split at hs
      · cases hs
      · cases hs; exact ⟨by simp, (hc x i b h1).2.2⟩
    · cases hs; exact ⟨by simp, (hc x i b h1).2.1⟩
  · rintro ⟨x, i, b⟩ y ⟨h1, h2⟩ hs
    simp only [stO] at hs
    split at hs
    · split at hs
      · cases hs; exact ⟨h1, by simp only; omega⟩
      · cases hs
    · cases hs
  · rintro ⟨x, i, b⟩ ⟨h1, h2⟩ hb
    have := hx x i b h1 h2 hb
    have e : (bif decide (i < N x) then (match f x i b with | some b' => AT.tup (.one (.int .i64 0) :: enc x (i + 1) b') | none => .tup (.one (.int .i64 1) :: bad x)) else .tup (.one (.int .i64 ((xd + 2 : Nat) : Int)) :: done x b)) = obsOf (fun x => enc x.1 x.2.1 x.2.2) (stO N f xd done bad (x, i, b)) := by
      simp only [stO]
      by_cases hi : i < N x
      · rw [if_pos hi, decide_eq_true hi, cond_true]
        cases f x i b <;> rfl
      · rw [if_neg hi, decide_eq_false hi]; rfl
    simp only [e] at this
    exact this
end Go.Proofs.Ythopjahoaljhaaa.X

/-! ## poly.Normals: a slice that is made and filled. -/
set_option linter.unusedVariables false
set_option linter.unusedSimpArgs false
set_option maxRecDepth 100000
namespace Go.Proofs.Ythopjahoaljhaaa.X
open Go Go.RowKit

noncomputable def b55 : Code := ((loopsOf (Try.f55.body.getD .skip)).getD 0 .skip)
def vl55 : XE → List LV := fun
  | .n => [.t 0, .t 5, .b 14, .t 16, .t 17]
  | .r => []
  | _ => [.t 5, .b 14]

theorem t55 (l : List (Nat × Nat)) (b : List (Nat × Nat)) (i : Nat) (R : AT) (h : cond (Decidable.decide (LT.lt (Nat.cast i : Int) (Nat.cast (List.length l) : Int))) (cond (Decidable.decide (Eq (Nat.cast (List.length l) : Int) (0 : Int))) (False) (cond (inRange (Int.tmod (Go.IntKind.wrap Go.IntKind.i64 (HAdd.hAdd (Nat.cast i : Int) (1 : Int))) (Nat.cast (List.length l) : Int)) (List.length l)) (cond (inRange ((Nat.cast i : Int)) (List.length l)) (cond (vec_Unit_2 (vec_Right_0 (vec_Sub_0 (Prod.fst (gp l (Int.toNat (Int.tmod (Go.IntKind.wrap Go.IntKind.i64 (HAdd.hAdd (Nat.cast i : Int) (1 : Int))) (Nat.cast (List.length l) : Int))))) (Prod.snd (gp l (Int.toNat (Int.tmod (Go.IntKind.wrap Go.IntKind.i64 (HAdd.hAdd (Nat.cast i : Int) (1 : Int))) (Nat.cast (List.length l) : Int))))) (Prod.fst (gp l (Int.toNat (Nat.cast i : Int)))) (Prod.snd (gp l (Int.toNat (Nat.cast i : Int))))) (vec_Sub_1 (Prod.fst (gp l (Int.toNat (Int.tmod (Go.IntKind.wrap Go.IntKind.i64 (HAdd.hAdd (Nat.cast i : Int) (1 : Int))) (Nat.cast (List.length l) : Int))))) (Prod.snd (gp l (Int.toNat (Int.tmod (Go.IntKind.wrap Go.IntKind.i64 (HAdd.hAdd (Nat.cast i : Int) (1 : Int))) (Nat.cast (List.length l) : Int))))) (Prod.fst (gp l (Int.toNat (Nat.cast i : Int)))) (Prod.snd (gp l (Int.toNat (Nat.cast i : Int)))))) (vec_Right_1 (vec_Sub_0 (Prod.fst (gp l (Int.toNat (Int.tmod (Go.IntKind.wrap Go.IntKind.i64 (HAdd.hAdd (Nat.cast i : Int) (1 : Int))) (Nat.cast (List.length l) : Int))))) (Prod.snd (gp l (Int.toNat (Int.tmod (Go.IntKind.wrap Go.IntKind.i64 (HAdd.hAdd (Nat.cast i : Int) (1 : Int))) (Nat.cast (List.length l) : Int))))) (Prod.fst (gp l (Int.toNat (Nat.cast i : Int)))) (Prod.snd (gp l (Int.toNat (Nat.cast i : Int))))) (vec_Sub_1 (Prod.fst (gp l (Int.toNat (Int.tmod (Go.IntKind.wrap Go.IntKind.i64 (HAdd.hAdd (Nat.cast i : Int) (1 : Int))) (Nat.cast (List.length l) : Int))))) (Prod.snd (gp l (Int.toNat (Int.tmod (Go.IntKind.wrap Go.IntKind.i64 (HAdd.hAdd (Nat.cast i : Int) (1 : Int))) (Nat.cast (List.length l) : Int))))) (Prod.fst (gp l (Int.toNat (Nat.cast i : Int)))) (Prod.snd (gp l (Int.toNat (Nat.cast i : Int))))))) (cond (inRange ((Nat.cast i : Int)) (List.length l)) (cond (Decidable.decide (LT.lt (Int.toNat (Nat.cast i : Int)) (List.length b))) (AT.tup [(.one (.int .i64 ((Nat.cast (codeX XE.n) : Int)))), (.one (.sl l)), (.one (.asl ((14 : Nat)) (List.length l))), (.one (.sl (List.set b (Int.toNat (Nat.cast i : Int)) (Prod.mk (vec_Unit_0 (vec_Right_0 (vec_Sub_0 (Prod.fst (gp l (Int.toNat (Int.tmod (Go.IntKind.wrap Go.IntKind.i64 (HAdd.hAdd (Nat.cast i : Int) (1 : Int))) (Nat.cast (List.length l) : Int))))) (Prod.snd (gp l (Int.toNat (Int.tmod (Go.IntKind.wrap Go.IntKind.i64 (HAdd.hAdd (Nat.cast i : Int) (1 : Int))) (Nat.cast (List.length l) : Int))))) (Prod.fst (gp l (Int.toNat (Nat.cast i : Int)))) (Prod.snd (gp l (Int.toNat (Nat.cast i : Int))))) (vec_Sub_1 (Prod.fst (gp l (Int.toNat (Int.tmod (Go.IntKind.wrap Go.IntKind.i64 (HAdd.hAdd (Nat.cast i : Int) (1 : Int))) (Nat.cast (List.length l) : Int))))) (Prod.snd (gp l (Int.toNat (Int.tmod (Go.IntKind.wrap Go.IntKind.i64 (HAdd.hAdd (Nat.cast i : Int) (1 : Int))) (Nat.cast (List.length l) : Int))))) (Prod.fst (gp l (Int.toNat (Nat.cast i : Int)))) (Prod.snd (gp l (Int.toNat (Nat.cast i : Int)))))) (vec_Right_1 (vec_Sub_0 (Prod.fst (gp l (Int.toNat (Int.tmod (Go.IntKind.wrap Go.IntKind.i64 (HAdd.hAdd (Nat.cast i : Int) (1 : Int))) (Nat.cast (List.length l) : Int))))) (Prod.snd (gp l (Int.toNat (Int.tmod (Go.IntKind.wrap Go.IntKind.i64 (HAdd.hAdd (Nat.cast i : Int) (1 : Int))) (Nat.cast (List.length l) : Int))))) (Prod.fst (gp l (Int.toNat (Nat.cast i : Int)))) (Prod.snd (gp l (Int.toNat (Nat.cast i : Int))))) (vec_Sub_1 (Prod.fst (gp l (Int.toNat (Int.tmod (Go.IntKind.wrap Go.IntKind.i64 (HAdd.hAdd (Nat.cast i : Int) (1 : Int))) (Nat.cast (List.length l) : Int))))) (Prod.snd (gp l (Int.toNat (Int.tmod (Go.IntKind.wrap Go.IntKind.i64 (HAdd.hAdd (Nat.cast i : Int) (1 : Int))) (Nat.cast (List.length l) : Int))))) (Prod.fst (gp l (Int.toNat (Nat.cast i : Int)))) (Prod.snd (gp l (Int.toNat (Nat.cast i : Int))))))) (vec_Unit_1 (vec_Right_0 (vec_Sub_0 (Prod.fst (gp l (Int.toNat (Int.tmod (Go.IntKind.wrap Go.IntKind.i64 (HAdd.hAdd (Nat.cast i : Int) (1 : Int))) (Nat.cast (List.length l) : Int))))) (Prod.snd (gp l (Int.toNat (Int.tmod (Go.IntKind.wrap Go.IntKind.i64 (HAdd.hAdd (Nat.cast i : Int) (1 : Int))) (Nat.cast (List.length l) : Int))))) (Prod.fst (gp l (Int.toNat (Nat.cast i : Int)))) (Prod.snd (gp l (Int.toNat (Nat.cast i : Int))))) (vec_Sub_1 (Prod.fst (gp l (Int.toNat (Int.tmod (Go.IntKind.wrap Go.IntKind.i64 (HAdd.hAdd (Nat.cast i : Int) (1 : Int))) (Nat.cast (List.length l) : Int))))) (Prod.snd (gp l (Int.toNat (Int.tmod (Go.IntKind.wrap Go.IntKind.i64 (HAdd.hAdd (Nat.cast i : Int) (1 : Int))) (Nat.cast (List.length l) : Int))))) (Prod.fst (gp l (Int.toNat (Nat.cast i : Int)))) (Prod.snd (gp l (Int.toNat (Nat.cast i : Int)))))) (vec_Right_1 (vec_Sub_0 (Prod.fst (gp l (Int.toNat (Int.tmod (Go.IntKind.wrap Go.IntKind.i64 (HAdd.hAdd (Nat.cast i : Int) (1 : Int))) (Nat.cast (List.length l) : Int))))) (Prod.snd (gp l (Int.toNat (Int.tmod (Go.IntKind.wrap Go.IntKind.i64 (HAdd.hAdd (Nat.cast i : Int) (1 : Int))) (Nat.cast (List.length l) : Int))))) (Prod.fst (gp l (Int.toNat (Nat.cast i : Int)))) (Prod.snd (gp l (Int.toNat (Nat.cast i : Int))))) (vec_Sub_1 (Prod.fst (gp l (Int.toNat (Int.tmod (Go.IntKind.wrap Go.IntKind.i64 (HAdd.hAdd (Nat.cast i : Int) (1 : Int))) (Nat.cast (List.length l) : Int))))) (Prod.snd (gp l (Int.toNat (Int.tmod (Go.IntKind.wrap Go.IntKind.i64 (HAdd.hAdd (Nat.cast i : Int) (1 : Int))) (Nat.cast (List.length l) : Int))))) (Prod.fst (gp l (Int.toNat (Nat.cast i : Int)))) (Prod.snd (gp l (Int.toNat (Nat.cast i : Int))))))))))), (.one (.int .i64 ((Nat.cast (List.length l) : Int)))), (.one (.int .i64 (Go.IntKind.wrap Go.IntKind.i64 (HAdd.hAdd (Nat.cast i : Int) (1 : Int)))))] = R) (False)) (False)) (cond (inRange ((Nat.cast i : Int)) (List.length l)) (cond (Decidable.decide (LT.lt (Int.toNat (Nat.cast i : Int)) (List.length b))) (AT.tup [(.one (.int .i64 ((Nat.cast (codeX XE.n) : Int)))), (.one (.sl l)), (.one (.asl ((14 : Nat)) (List.length l))), (.one (.sl (List.set b (Int.toNat (Nat.cast i : Int)) (Prod.mk (vec_Unit_0 (vec_Right_0 (vec_Sub_0 (Prod.fst (gp l (Int.toNat (Int.tmod (Go.IntKind.wrap Go.IntKind.i64 (HAdd.hAdd (Nat.cast i : Int) (1 : Int))) (Nat.cast (List.length l) : Int))))) (Prod.snd (gp l (Int.toNat (Int.tmod (Go.IntKind.wrap Go.IntKind.i64 (HAdd.hAdd (Nat.cast i : Int) (1 : Int))) (Nat.cast (List.length l) : Int))))) (Prod.fst (gp l (Int.toNat (Nat.cast i : Int)))) (Prod.snd (gp l (Int.toNat (Nat.cast i : Int))))) (vec_Sub_1 (Prod.fst (gp l (Int.toNat (Int.tmod (Go.IntKind.wrap Go.IntKind.i64 (HAdd.hAdd (Nat.cast i : Int) (1 : Int))) (Nat.cast (List.length l) : Int))))) (Prod.snd (gp l (Int.toNat (Int.tmod (Go.IntKind.wrap Go.IntKind.i64 (HAdd.hAdd (Nat.cast i : Int) (1 : Int))) (Nat.cast (List.length l) : Int))))) (Prod.fst (gp l (Int.toNat (Nat.cast i : Int)))) (Prod.snd (gp l (Int.toNat (Nat.cast i : Int)))))) (vec_Right_1 (vec_Sub_0 (Prod.fst (gp l (Int.toNat (Int.tmod (Go.IntKind.wrap Go.IntKind.i64 (HAdd.hAdd (Nat.cast i : Int) (1 : Int))) (Nat.cast (List.length l) : Int))))) (Prod.snd (gp l (Int.toNat (Int.tmod (Go.IntKind.wrap Go.IntKind.i64 (HAdd.hAdd (Nat.cast i : Int) (1 : Int))) (Nat.cast (List.length l) : Int))))) (Prod.fst (gp l (Int.toNat (Nat.cast i : Int)))) (Prod.snd (gp l (Int.toNat (Nat.cast i : Int))))) (vec_Sub_1 (Prod.fst (gp l (Int.toNat (Int.tmod (Go.IntKind.wrap Go.IntKind.i64 (HAdd.hAdd (Nat.cast i : Int) (1 : Int))) (Nat.cast (List.length l) : Int))))) (Prod.snd (gp l (Int.toNat (Int.tmod (Go.IntKind.wrap Go.IntKind.i64 (HAdd.hAdd (Nat.cast i : Int) (1 : Int))) (Nat.cast (List.length l) : Int))))) (Prod.fst (gp l (Int.toNat (Nat.cast i : Int)))) (Prod.snd (gp l (Int.toNat (Nat.cast i : Int))))))) (vec_Unit_1 (vec_Right_0 (vec_Sub_0 (Prod.fst (gp l (Int.toNat (Int.tmod (Go.IntKind.wrap Go.IntKind.i64 (HAdd.hAdd (Nat.cast i : Int) (1 : Int))) (Nat.cast (List.length l) : Int))))) (Prod.snd (gp l (Int.toNat (Int.tmod (Go.IntKind.wrap Go.IntKind.i64 (HAdd.hAdd (Nat.cast i : Int) (1 : Int))) (Nat.cast (List.length l) : Int))))) (Prod.fst (gp l (Int.toNat (Nat.cast i : Int)))) (Prod.snd (gp l (Int.toNat (Nat.cast i : Int))))) (vec_Sub_1 (Prod.fst (gp l (Int.toNat (Int.tmod (Go.IntKind.wrap Go.IntKind.i64 (HAdd.hAdd (Nat.cast i : Int) (1 : Int))) (Nat.cast (List.length l) : Int))))) (Prod.snd (gp l (Int.toNat (Int.tmod (Go.IntKind.wrap Go.IntKind.i64 (HAdd.hAdd (Nat.cast i : Int) (1 : Int))) (Nat.cast (List.length l) : Int))))) (Prod.fst (gp l (Int.toNat (Nat.cast i : Int)))) (Prod.snd (gp l (Int.toNat (Nat.cast i : Int)))))) (vec_Right_1 (vec_Sub_0 (Prod.fst (gp l (Int.toNat (Int.tmod (Go.IntKind.wrap Go.IntKind.i64 (HAdd.hAdd (Nat.cast i : Int) (1 : Int))) (Nat.cast (List.length l) : Int))))) (Prod.snd (gp l (Int.toNat (Int.tmod (Go.IntKind.wrap Go.IntKind.i64 (HAdd.hAdd (Nat.cast i : Int) (1 : Int))) (Nat.cast (List.length l) : Int))))) (Prod.fst (gp l (Int.toNat (Nat.cast i : Int)))) (Prod.snd (gp l (Int.toNat (Nat.cast i : Int))))) (vec_Sub_1 (Prod.fst (gp l (Int.toNat (Int.tmod (Go.IntKind.wrap Go.IntKind.i64 (HAdd.hAdd (Nat.cast i : Int) (1 : Int))) (Nat.cast (List.length l) : Int))))) (Prod.snd (gp l (Int.toNat (Int.tmod (Go.IntKind.wrap Go.IntKind.i64 (HAdd.hAdd (Nat.cast i : Int) (1 : Int))) (Nat.cast (List.length l) : Int))))) (Prod.fst (gp l (Int.toNat (Nat.cast i : Int)))) (Prod.snd (gp l (Int.toNat (Nat.cast i : Int))))))))))), (.one (.int .i64 ((Nat.cast (List.length l) : Int)))), (.one (.int .i64 (Go.IntKind.wrap Go.IntKind.i64 (HAdd.hAdd (Nat.cast i : Int) (1 : Int)))))] = R) (False)) (False))) (False)) (False))) (AT.tup [(.one (.int .i64 ((Nat.cast (codeX (XE.x (0 : Nat))) : Int)))), (.one (.asl ((14 : Nat)) (List.length l))), (.one (.sl b))] = R)) : xcode (tb 28 [(17, e17), (94, e94)] [] []) b55 (mkS (vl55 .n) [.one (.sl l), .one (.asl 14 l.length), .one (.sl b), .one (.int .i64 l.length), .one (.int .i64 i)]) (fun e σ => obsT vl55 e σ = R) := by_kernel (q := cond (Decidable.decide (LT.lt (Nat.cast i : Int) (Nat.cast (List.length l) : Int))) (cond (Decidable.decide (Eq (Nat.cast (List.length l) : Int) (0 : Int))) (False) (cond (inRange (Int.tmod (Go.IntKind.wrap Go.IntKind.i64 (HAdd.hAdd (Nat.cast i : Int) (1 : Int))) (Nat.cast (List.length l) : Int)) (List.length l)) (cond (inRange ((Nat.cast i : Int)) (List.length l)) (cond (vec_Unit_2 (vec_Right_0 (vec_Sub_0 (Prod.fst (gp l (Int.toNat (Int.tmod (Go.IntKind.wrap Go.IntKind.i64 (HAdd.hAdd (Nat.cast i : Int) (1 : Int))) (Nat.cast (List.length l) : Int))))) (Prod.snd (gp l (Int.toNat (Int.tmod (Go.IntKind.wrap Go.IntKind.i64 (HAdd.hAdd (Nat.cast i : Int) (1 : Int))) (Nat.cast (List.length l) : Int))))) (Prod.fst (gp l (Int.toNat (Nat.cast i : Int)))) (Prod.snd (gp l (Int.toNat (Nat.cast i : Int))))) (vec_Sub_1 (Prod.fst (gp l (Int.toNat (Int.tmod (Go.IntKind.wrap Go.IntKind.i64 (HAdd.hAdd (Nat.cast i : Int) (1 : Int))) (Nat.cast (List.length l) : Int))))) (Prod.snd (gp l (Int.toNat (Int.tmod (Go.IntKind.wrap Go.IntKind.i64 (HAdd.hAdd (Nat.cast i : Int) (1 : Int))) (Nat.cast (List.length l) : Int))))) (Prod.fst (gp l (Int.toNat (Nat.cast i : Int)))) (Prod.snd (gp l (Int.toNat (Nat.cast i : Int)))))) (vec_Right_1 (vec_Sub_0 (Prod.fst (gp l (Int.toNat (Int.tmod (Go.IntKind.wrap Go.IntKind.i64 (HAdd.hAdd (Nat.cast i : Int) (1 : Int))) (Nat.cast (List.length l) : Int))))) (Prod.snd (gp l (Int.toNat (Int.tmod (Go.IntKind.wrap Go.IntKind.i64 (HAdd.hAdd (Nat.cast i : Int) (1 : Int))) (Nat.cast (List.length l) : Int))))) (Prod.fst (gp l (Int.toNat (Nat.cast i : Int)))) (Prod.snd (gp l (Int.toNat (Nat.cast i : Int))))) (vec_Sub_1 (Prod.fst (gp l (Int.toNat (Int.tmod (Go.IntKind.wrap Go.IntKind.i64 (HAdd.hAdd (Nat.cast i : Int) (1 : Int))) (Nat.cast (List.length l) : Int))))) (Prod.snd (gp l (Int.toNat (Int.tmod (Go.IntKind.wrap Go.IntKind.i64 (HAdd.hAdd (Nat.cast i : Int) (1 : Int))) (Nat.cast (List.length l) : Int))))) (Prod.fst (gp l (Int.toNat (Nat.cast i : Int)))) (Prod.snd (gp l (Int.toNat (Nat.cast i : Int))))))) (cond (inRange ((Nat.cast i : Int)) (List.length l)) (cond (Decidable.decide (LT.lt (Int.toNat (Nat.cast i : Int)) (List.length b))) (AT.tup [(.one (.int .i64 ((Nat.cast (codeX XE.n) : Int)))), (.one (.sl l)), (.one (.asl ((14 : Nat)) (List.length l))), (.one (.sl (List.set b (Int.toNat (Nat.cast i : Int)) (Prod.mk (vec_Unit_0 (vec_Right_0 (vec_Sub_0 (Prod.fst (gp l (Int.toNat (Int.tmod (Go.IntKind.wrap Go.IntKind.i64 (HAdd.hAdd (Nat.cast i : Int) (1 : Int))) (Nat.cast (List.length l) : Int))))) (Prod.snd (gp l (Int.toNat (Int.tmod (Go.IntKind.wrap Go.IntKind.i64 (HAdd.hAdd (Nat.cast i : Int) (1 : Int))) (Nat.cast (List.length l) : Int))))) (Prod.fst (gp l (Int.toNat (Nat.cast i : Int)))) (Prod.snd (gp l (Int.toNat (Nat.cast i : Int))))) (vec_Sub_1 (Prod.fst (gp l (Int.toNat (Int.tmod (Go.IntKind.wrap Go.IntKind.i64 (HAdd.hAdd (Nat.cast i : Int) (1 : Int))) (Nat.cast (List.length l) : Int))))) (Prod.snd (gp l (Int.toNat (Int.tmod (Go.IntKind.wrap Go.IntKind.i64 (HAdd.hAdd (Nat.cast i : Int) (1 : Int))) (Nat.cast (List.length l) : Int))))) (Prod.fst (gp l (Int.toNat (Nat.cast i : Int)))) (Prod.snd (gp l (Int.toNat (Nat.cast i : Int)))))) (vec_Right_1 (vec_Sub_0 (Prod.fst (gp l (Int.toNat (Int.tmod (Go.IntKind.wrap Go.IntKind.i64 (HAdd.hAdd (Nat.cast i : Int) (1 : Int))) (Nat.cast (List.length l) : Int))))) (Prod.snd (gp l (Int.toNat (Int.tmod (Go.IntKind.wrap Go.IntKind.i64 (HAdd.hAdd (Nat.cast i : Int) (1 : Int))) (Nat.cast (List.length l) : Int))))) (Prod.fst (gp l (Int.toNat (Nat.cast i : Int)))) (Prod.snd (gp l (Int.toNat (Nat.cast i : Int))))) (vec_Sub_1 (Prod.fst (gp l (Int.toNat (Int.tmod (Go.IntKind.wrap Go.IntKind.i64 (HAdd.hAdd (Nat.cast i : Int) (1 : Int))) (Nat.cast (List.length l) : Int))))) (Prod.snd (gp l (Int.toNat (Int.tmod (Go.IntKind.wrap Go.IntKind.i64 (HAdd.hAdd (Nat.cast i : Int) (1 : Int))) (Nat.cast (List.length l) : Int))))) (Prod.fst (gp l (Int.toNat (Nat.cast i : Int)))) (Prod.snd (gp l (Int.toNat (Nat.cast i : Int))))))) (vec_Unit_1 (vec_Right_0 (vec_Sub_0 (Prod.fst (gp l (Int.toNat (Int.tmod (Go.IntKind.wrap Go.IntKind.i64 (HAdd.hAdd (Nat.cast i : Int) (1 : Int))) (Nat.cast (List.length l) : Int))))) (Prod.snd (gp l (Int.toNat (Int.tmod (Go.IntKind.wrap Go.IntKind.i64 (HAdd.hAdd (Nat.cast i : Int) (1 : Int))) (Nat.cast (List.length l) : Int))))) (Prod.fst (gp l (Int.toNat (Nat.cast i : Int)))) (Prod.snd (gp l (Int.toNat (Nat.cast i : Int))))) (vec_Sub_1 (Prod.fst (gp l (Int.toNat (Int.tmod (Go.IntKind.wrap Go.IntKind.i64 (HAdd.hAdd (Nat.cast i : Int) (1 : Int))) (Nat.cast (List.length l) : Int))))) (Prod.snd (gp l (Int.toNat (Int.tmod (Go.IntKind.wrap Go.IntKind.i64 (HAdd.hAdd (Nat.cast i : Int) (1 : Int))) (Nat.cast (List.length l) : Int))))) (Prod.fst (gp l (Int.toNat (Nat.cast i : Int)))) (Prod.snd (gp l (Int.toNat (Nat.cast i : Int)))))) (vec_Right_1 (vec_Sub_0 (Prod.fst (gp l (Int.toNat (Int.tmod (Go.IntKind.wrap Go.IntKind.i64 (HAdd.hAdd (Nat.cast i : Int) (1 : Int))) (Nat.cast (List.length l) : Int))))) (Prod.snd (gp l (Int.toNat (Int.tmod (Go.IntKind.wrap Go.IntKind.i64 (HAdd.hAdd (Nat.cast i : Int) (1 : Int))) (Nat.cast (List.length l) : Int))))) (Prod.fst (gp l (Int.toNat (Nat.cast i : Int)))) (Prod.snd (gp l (Int.toNat (Nat.cast i : Int))))) (vec_Sub_1 (Prod.fst (gp l (Int.toNat (Int.tmod (Go.IntKind.wrap Go.IntKind.i64 (HAdd.hAdd (Nat.cast i : Int) (1 : Int))) (Nat.cast (List.length l) : Int))))) (Prod.snd (gp l (Int.toNat (Int.tmod (Go.IntKind.wrap Go.IntKind.i64 (HAdd.hAdd (Nat.cast i : Int) (1 : Int))) (Nat.cast (List.length l) : Int))))) (Prod.fst (gp l (Int.toNat (Nat.cast i : Int)))) (Prod.snd (gp l (Int.toNat (Nat.cast i : Int))))))))))), (.one (.int .i64 ((Nat.cast (List.length l) : Int)))), (.one (.int .i64 (Go.IntKind.wrap Go.IntKind.i64 (HAdd.hAdd (Nat.cast i : Int) (1 : Int)))))] = R) (False)) (False)) (cond (inRange ((Nat.cast i : Int)) (List.length l)) (cond (Decidable.decide (LT.lt (Int.toNat (Nat.cast i : Int)) (List.length b))) (AT.tup [(.one (.int .i64 ((Nat.cast (codeX XE.n) : Int)))), (.one (.sl l)), (.one (.asl ((14 : Nat)) (List.length l))), (.one (.sl (List.set b (Int.toNat (Nat.cast i : Int)) (Prod.mk (vec_Unit_0 (vec_Right_0 (vec_Sub_0 (Prod.fst (gp l (Int.toNat (Int.tmod (Go.IntKind.wrap Go.IntKind.i64 (HAdd.hAdd (Nat.cast i : Int) (1 : Int))) (Nat.cast (List.length l) : Int))))) (Prod.snd (gp l (Int.toNat (Int.tmod (Go.IntKind.wrap Go.IntKind.i64 (HAdd.hAdd (Nat.cast i : Int) (1 : Int))) (Nat.cast (List.length l) : Int))))) (Prod.fst (gp l (Int.toNat (Nat.cast i : Int)))) (Prod.snd (gp l (Int.toNat (Nat.cast i : Int))))) (vec_Sub_1 (Prod.fst (gp l (Int.toNat (Int.tmod (Go.IntKind.wrap Go.IntKind.i64 (HAdd.hAdd (Nat.cast i : Int) (1 : Int))) (Nat.cast (List.length l) : Int))))) (Prod.snd (gp l (Int.toNat (Int.tmod (Go.IntKind.wrap Go.IntKind.i64 (HAdd.hAdd (Nat.cast i : Int) (1 : Int))) (Nat.cast (List.length l) : Int))))) (Prod.fst (gp l (Int.toNat (Nat.cast i : Int)))) (Prod.snd (gp l (Int.toNat (Nat.cast i : Int)))))) (vec_Right_1 (vec_Sub_0 (Prod.fst (gp l (Int.toNat (Int.tmod (Go.IntKind.wrap Go.IntKind.i64 (HAdd.hAdd (Nat.cast i : Int) (1 : Int))) (Nat.cast (List.length l) : Int))))) (Prod.snd (gp l (Int.toNat (Int.tmod (Go.IntKind.wrap Go.IntKind.i64 (HAdd.hAdd (Nat.cast i : Int) (1 : Int))) (Nat.cast (List.length l) : Int))))) (Prod.fst (gp l (Int.toNat (Nat.cast i : Int)))) (Prod.snd (gp l (Int.toNat (Nat.cast i : Int))))) (vec_Sub_1 (Prod.fst (gp l (Int.toNat (Int.tmod (Go.IntKind.wrap Go.IntKind.i64 (HAdd.hAdd (Nat.cast i : Int) (1 : Int))) (Nat.cast (List.length l) : Int))))) (Prod.snd (gp l (Int.toNat (Int.tmod (Go.IntKind.wrap Go.IntKind.i64 (HAdd.hAdd (Nat.cast i : Int) (1 : Int))) (Nat.cast (List.length l) : Int))))) (Prod.fst (gp l (Int.toNat (Nat.cast i : Int)))) (Prod.snd (gp l (Int.toNat (Nat.cast i : Int))))))) (vec_Unit_1 (vec_Right_0 (vec_Sub_0 (Prod.fst (gp l (Int.toNat (Int.tmod (Go.IntKind.wrap Go.IntKind.i64 (HAdd.hAdd (Nat.cast i : Int) (1 : Int))) (Nat.cast (List.length l) : Int))))) (Prod.snd (gp l (Int.toNat (Int.tmod (Go.IntKind.wrap Go.IntKind.i64 (HAdd.hAdd (Nat.cast i : Int) (1 : Int))) (Nat.cast (List.length l) : Int))))) (Prod.fst (gp l (Int.toNat (Nat.cast i : Int)))) (Prod.snd (gp l (Int.toNat (Nat.cast i : Int))))) (vec_Sub_1 (Prod.fst (gp l (Int.toNat (Int.tmod (Go.IntKind.wrap Go.IntKind.i64 (HAdd.hAdd (Nat.cast i : Int) (1 : Int))) (Nat.cast (List.length l) : Int))))) (Prod.snd (gp l (Int.toNat (Int.tmod (Go.IntKind.wrap Go.IntKind.i64 (HAdd.hAdd (Nat.cast i : Int) (1 : Int))) (Nat.cast (List.length l) : Int))))) (Prod.fst (gp l (Int.toNat (Nat.cast i : Int)))) (Prod.snd (gp l (Int.toNat (Nat.cast i : Int)))))) (vec_Right_1 (vec_Sub_0 (Prod.fst (gp l (Int.toNat (Int.tmod (Go.IntKind.wrap Go.IntKind.i64 (HAdd.hAdd (Nat.cast i : Int) (1 : Int))) (Nat.cast (List.length l) : Int))))) (Prod.snd (gp l (Int.toNat (Int.tmod (Go.IntKind.wrap Go.IntKind.i64 (HAdd.hAdd (Nat.cast i : Int) (1 : Int))) (Nat.cast (List.length l) : Int))))) (Prod.fst (gp l (Int.toNat (Nat.cast i : Int)))) (Prod.snd (gp l (Int.toNat (Nat.cast i : Int))))) (vec_Sub_1 (Prod.fst (gp l (Int.toNat (Int.tmod (Go.IntKind.wrap Go.IntKind.i64 (HAdd.hAdd (Nat.cast i : Int) (1 : Int))) (Nat.cast (List.length l) : Int))))) (Prod.snd (gp l (Int.toNat (Int.tmod (Go.IntKind.wrap Go.IntKind.i64 (HAdd.hAdd (Nat.cast i : Int) (1 : Int))) (Nat.cast (List.length l) : Int))))) (Prod.fst (gp l (Int.toNat (Nat.cast i : Int)))) (Prod.snd (gp l (Int.toNat (Nat.cast i : Int))))))))))), (.one (.int .i64 ((Nat.cast (List.length l) : Int)))), (.one (.int .i64 (Go.IntKind.wrap Go.IntKind.i64 (HAdd.hAdd (Nat.cast i : Int) (1 : Int)))))] = R) (False)) (False))) (False)) (False))) (AT.tup [(.one (.int .i64 ((Nat.cast (codeX (XE.x (0 : Nat))) : Int)))), (.one (.asl ((14 : Nat)) (List.length l))), (.one (.sl b))] = R)) (by kernel_rfl) h

/-- The outward way of a side. -/
def normalF (l : List (Nat × Nat)) (i : Nat) : Nat × Nat :=
  (vec_Unit_0 (vec_Right_0 (way0 l i) (way1 l i)) (vec_Right_1 (way0 l i) (way1 l i)), vec_Unit_1 (vec_Right_0 (way0 l i) (way1 l i)) (vec_Right_1 (way0 l i) (way1 l i)))
def fillN (l : List (Nat × Nat)) (i : Nat) (b : List (Nat × Nat)) : List (Nat × Nat) := b.set i (normalF l i)
def normalsF (l : List (Nat × Nat)) : List (Nat × Nat) := foldI (fillN l) 0 l.length (List.replicate l.length (0, 0))
theorem fillN_len (l : List (Nat × Nat)) : ∀ n i b, (foldI (fillN l) i n b).length = b.length := by
  intro n
  induction n with
  | zero => intro i b; rfl
  | succ n ih => intro i b; rw [foldI, ih]; simp [fillN]
def s55 (σ : St) (K : XE → St → Prop) : Prop :=
  match getLVs σ (vl55 .n) with
  | some [.one (.sl l), .one (.asl d m), .one (.sl b), .one (.int .i64 n), .one (.int .i64 0)] =>
    (d = 14 ∧ m = l.length ∧ n = l.length ∧ b.length = l.length ∧ l.length ≤ 8796093022208) ∧ K (.x 0) ⟨[(5, .av (.one (.asl 14 l.length)))], [(14, .arr (foldI (fillN l) 0 l.length b))]⟩
  | _ => False
theorem lo55 : LoopOk Pr (tb 28 [(17, e17), (94, e94)] [] []) b55 s55 := by
  refine fold_okP (tb_ok (fnCons c17 (fnCons c94 (fnNil _))) (fnBNil _)) (vl := vl55) (Ctx := List (Nat × Nat)) (B := List (Nat × Nat))
    (enc := fun c i b => [.one (.sl c), .one (.asl 14 c.length), .one (.sl b), .one (.int .i64 c.length), .one (.int .i64 i)])
    (N := fun c => c.length) (f := fun c i b => fillN c i b) (xd := 0) (done := fun c b => [.one (.asl 14 c.length), .one (.sl b)])
    (pre := fun c i b => c.length ≤ 8796093022208 ∧ b.length = c.length) (noLoops (by kernel_rfl)) ?_ ?_ ?_ ?_
  · intro c i b h hi
    exact ⟨h.1, by simp [fillN, h.2]⟩
  · intro σ K h
    unfold s55 at h
    split at h
    · rename_i l d m b n hg
      obtain ⟨⟨rfl, rfl, rfl, hb, hl⟩, h⟩ := h
      refine ⟨l, 0, b, ⟨hl, hb⟩, Nat.zero_le _, hg, ?_⟩
      rw [Nat.sub_zero]; exact h
    · exact h.elim
  · intro c i b h
    exact ⟨rfl, rfl⟩
  · intro l i b hpre hk hb
    obtain ⟨hl, hbl⟩ := hpre
    apply t55
    rw [dlt, inRange_nat, Int.toNat_natCast]
    by_cases hi : i < l.length
    · have hm : (i + 1) % l.length < l.length := Nat.mod_lt _ (by omega)
      have hz : decide ((l.length : Int) = 0) = false := by rw [decide_eq_false_iff_not]; omega
      have hw : IntKind.i64.wrap ((i : Int) + 1) = ((i + 1 : Nat) : Int) := wrap_succ (by omega)
      have hib : i < b.length := by omega
      rw [hz, hw, tmod_nat, inRange_nat, Int.toNat_natCast, decide_eq_true hm, decide_eq_true hi, decide_eq_true hib]
      simp only [fillN, normalF, way0, way1]
      cases vec_Unit_2 (vec_Right_0 (vec_Sub_0 (gp l ((i + 1) % l.length)).1 (gp l ((i + 1) % l.length)).2 (gp l i).1 (gp l i).2) (vec_Sub_1 (gp l ((i + 1) % l.length)).1 (gp l ((i + 1) % l.length)).2 (gp l i).1 (gp l i).2)) (vec_Right_1 (vec_Sub_0 (gp l ((i + 1) % l.length)).1 (gp l ((i + 1) % l.length)).2 (gp l i).1 (gp l i).2) (vec_Sub_1 (gp l ((i + 1) % l.length)).1 (gp l ((i + 1) % l.length)).2 (gp l i).1 (gp l i).2)) <;> rfl
    · rw [decide_eq_false hi]; rfl

theorem fW55 (a : List (Nat × Nat)) (Q : AT → AT → Prop) (h : cond (bne (poly_Check a) (0 : Int)) (Q (AT.tup [(.one (.sl List.nil)), (.one (.int .i64 (poly_Check a)))]) (AT.tup [.und])) (cond (Bool.and (Decidable.decide (Eq (Nat.cast (List.length a) : Int) (Nat.cast (List.length a) : Int))) (Bool.and (Decidable.decide (LE.le (0 : Int) (Nat.cast (List.length a) : Int))) (Decidable.decide (LE.le (Nat.cast (List.length a) : Int) (8796093022208 : Int))))) (And (And (Eq (14 : Nat) (14 : Nat)) (And (Eq (Int.toNat (Nat.cast (List.length a) : Int)) (List.length a)) (And (Eq (Nat.cast (List.length a) : Int) (Nat.cast (List.length a) : Int)) (And (Eq (List.length (List.replicate (Int.toNat (Nat.cast (List.length a) : Int)) (Prod.mk (0 : Nat) (0 : Nat)))) (List.length a)) (LE.le (List.length a) (8796093022208 : Nat)))))) (Q (AT.tup [(.one (.asl ((14 : Nat)) (List.length a))), (.one (.int .i64 ((0 : Int))))]) (AT.tup [(.one (.sl (foldI (fillN a) (0 : Nat) (List.length a) (List.replicate (Int.toNat (Nat.cast (List.length a) : Int)) (Prod.mk (0 : Nat) (0 : Nat))))))]))) (False))) : xfun (tb 28 [(17, e17), (94, e94)] [] [(6, s55)]) (Try.f55.body.getD .skip) Try.f55.results.toList [.av (.one (.sl a))] [] (fun r bx => Q r (obsB [14] bx)) := by_kernel (q := cond (bne (poly_Check a) (0 : Int)) (Q (AT.tup [(.one (.sl List.nil)), (.one (.int .i64 (poly_Check a)))]) (AT.tup [.und])) (cond (Bool.and (Decidable.decide (Eq (Nat.cast (List.length a) : Int) (Nat.cast (List.length a) : Int))) (Bool.and (Decidable.decide (LE.le (0 : Int) (Nat.cast (List.length a) : Int))) (Decidable.decide (LE.le (Nat.cast (List.length a) : Int) (8796093022208 : Int))))) (And (And (Eq (14 : Nat) (14 : Nat)) (And (Eq (Int.toNat (Nat.cast (List.length a) : Int)) (List.length a)) (And (Eq (Nat.cast (List.length a) : Int) (Nat.cast (List.length a) : Int)) (And (Eq (List.length (List.replicate (Int.toNat (Nat.cast (List.length a) : Int)) (Prod.mk (0 : Nat) (0 : Nat)))) (List.length a)) (LE.le (List.length a) (8796093022208 : Nat)))))) (Q (AT.tup [(.one (.asl ((14 : Nat)) (List.length a))), (.one (.int .i64 ((0 : Int))))]) (AT.tup [(.one (.sl (foldI (fillN a) (0 : Nat) (List.length a) (List.replicate (Int.toNat (Nat.cast (List.length a) : Int)) (Prod.mk (0 : Nat) (0 : Nat))))))]))) (False))) (by kernel_rfl) h

def poly_Normals (a : List (Nat × Nat)) : List (Nat × Nat) := bif bne (poly_Check a) (0 : Int) then [] else normalsF a
def d55 : List AT → Option AT
  | [.av (.one (.sl a))] => some (.tup [.one (.sl (poly_Normals a)), .one (.int .i64 (poly_Check a))])
  | _ => none
def e55 : Ent := .of d55
theorem c55 : CallOk Pr 55 e55 := by
  refine callOkV_of (T := tb 28 [(17, e17), (94, e94)] [] [(6, s55)]) (tb_ok (fnCons c17 (fnCons c94 (fnNil _))) (fnBNil _)) Try.func55 rfl (by decide) rfl (loops1 (by kernel_rfl) rfl lo55) (Ent.of_k d55) ?_
  intro l r h hb
  change d55 l = some r at h
  unfold d55 at h
  split at h
  · rename_i a
    cases h
    obtain ⟨Q, hQ⟩ : ∃ Q : AT → AT → Prop, ∀ r' o, Q r' o = (bif bne (poly_Check a) (0 : Int) then r' = .tup [.one (.sl []), .one (.int .i64 (poly_Check a))] else r' = .tup [.one (.asl 14 a.length), .one (.int .i64 0)] ∧ o = .tup [.one (.sl (normalsF a))] : Prop) := ⟨_, fun _ _ => rfl⟩
    refine ⟨rfl, rfl, fun r' bx => Q r' (obsB [14] bx), ?_, fW55 a Q ?_⟩
    · intro r' bx h
      rw [hQ] at h
      unfold poly_Normals
      cases hc : (bne (poly_Check a) (0 : Int)) with
      | true =>
        rw [hc, cond_true] at h
        subst h
        refine ⟨rfl, fun i x y hx hy => .inl ?_⟩
        rw [cond_true] at hy
        rw [hx] at hy; cases hy; rfl
      | false =>
        rw [hc, cond_false] at h
        obtain ⟨rfl, ho⟩ := h
        have h0 : poly_Check a = 0 := by simpa using hc
        refine ⟨rfl, fun i x y hx hy => ?_⟩
        rw [cond_false, h0] at hy
        match i with
        | 0 =>
          simp at hx hy
          subst hx; subst hy
          exact .inr ⟨14, _, _, rfl, rfl, obsB_arr ho, by unfold normalsF; rw [fillN_len]; simp⟩
        | 1 =>
          simp at hx hy
          subst hx; subst hy
          exact .inl rfl
        | i + 2 => simp at hx
    · simp only [hQ]
      have hl : a.length ≤ 8796093022208 := hb (.av (.one (.sl a))) (by simp)
      cases hc : (bne (poly_Check a) (0 : Int)) with
      | true => simp
      | false =>
        have e1 : decide ((a.length : Int) ≤ 8796093022208) = true := by rw [decide_eq_true_iff]; omega
        have e2 : decide ((0 : Int) ≤ (a.length : Int)) = true := by rw [decide_eq_true_iff]; omega
        rw [e1, e2]
        simp [normalsF, hl]
  · cases h

end Go.Proofs.Ythopjahoaljhaaa.X

/-! ## ray.Polygon's loop over the sides. -/
set_option linter.unusedVariables false
set_option linter.unusedSimpArgs false
set_option maxRecDepth 100000
namespace Go.Proofs.Ythopjahoaljhaaa.X
open Go Go.RowKit

noncomputable def b20 : Code := ((loopsOf (Try.f20.body.getD .skip)).getD 0 .skip)
def vl20 : XE → List LV := fun
  | .n => [.t 0, .t 4, .b 4, .t 5, .b 5, .t 6, .b 6, .t 9, .t 14, .t 15, .t 16, .t 49, .t 50, .t 51]
  | .r => [.t 6, .b 6, .t 7, .t 8]
  | _ => [.t 4, .b 4, .t 5, .b 5, .t 6, .b 6, .t 9, .t 14, .t 15, .t 16]

theorem t20 (l : List (Nat × Nat)) (p0 : Nat) (p1 : Nat) (w0 : Nat) (w1 : Nat) (nm : List (Nat × Nat)) (sd : Int) (tt : Nat) (en : Nat) (i : Nat) (R : AT) (h : cond (Decidable.decide (LT.lt (Nat.cast i : Int) (Nat.cast (List.length nm) : Int))) (cond (inRange ((Nat.cast i : Int)) (List.length nm)) (cond (inRange ((Nat.cast i : Int)) (List.length l)) (cond (fEq (vec_Dot (Prod.fst (gp nm (Int.toNat (Nat.cast i : Int)))) (Prod.snd (gp nm (Int.toNat (Nat.cast i : Int)))) w0 w1) (0 : Nat)) (cond (fGt (vec_Dot (Prod.fst (gp nm (Int.toNat (Nat.cast i : Int)))) (Prod.snd (gp nm (Int.toNat (Nat.cast i : Int)))) (vec_Sub_0 p0 p1 (Prod.fst (gp l (Int.toNat (Nat.cast i : Int)))) (Prod.snd (gp l (Int.toNat (Nat.cast i : Int))))) (vec_Sub_1 p0 p1 (Prod.fst (gp l (Int.toNat (Nat.cast i : Int)))) (Prod.snd (gp l (Int.toNat (Nat.cast i : Int)))))) (0 : Nat)) (AT.tup [(.one (.int .i64 ((Nat.cast (codeX XE.r) : Int)))), (.one (.lp ((6 : Nat)) ((0 : Nat)))), (.agg [(.flt ((0 : Nat))), (.flt ((0 : Nat))), (.flt ((0 : Nat))), (.flt ((0 : Nat))), (.flt ((0 : Nat)))]), (.one (.bool Bool.false)), (.one (.int .i64 ((0 : Int))))] = R) (cond (fLt (vec_Dot (Prod.fst (gp nm (Int.toNat (Nat.cast i : Int)))) (Prod.snd (gp nm (Int.toNat (Nat.cast i : Int)))) w0 w1) (0 : Nat)) (cond (fGt (fdiv (fneg (vec_Dot (Prod.fst (gp nm (Int.toNat (Nat.cast i : Int)))) (Prod.snd (gp nm (Int.toNat (Nat.cast i : Int)))) (vec_Sub_0 p0 p1 (Prod.fst (gp l (Int.toNat (Nat.cast i : Int)))) (Prod.snd (gp l (Int.toNat (Nat.cast i : Int))))) (vec_Sub_1 p0 p1 (Prod.fst (gp l (Int.toNat (Nat.cast i : Int)))) (Prod.snd (gp l (Int.toNat (Nat.cast i : Int))))))) (vec_Dot (Prod.fst (gp nm (Int.toNat (Nat.cast i : Int)))) (Prod.snd (gp nm (Int.toNat (Nat.cast i : Int)))) w0 w1)) tt) (AT.tup [(.one (.int .i64 ((Nat.cast (codeX XE.n) : Int)))), (.one (.sl l)), (.one (.lp ((4 : Nat)) ((0 : Nat)))), (.agg [(.flt p0), (.flt p1)]), (.one (.lp ((5 : Nat)) ((0 : Nat)))), (.agg [(.flt w0), (.flt w1)]), (.one (.lp ((6 : Nat)) ((0 : Nat)))), (.agg [(.flt ((0 : Nat))), (.flt ((0 : Nat))), (.flt ((0 : Nat))), (.flt ((0 : Nat))), (.flt ((0 : Nat)))]), (.one (.sl nm)), (.one (.int .i64 ((Nat.cast i : Int)))), (.one (.flt (fdiv (fneg (vec_Dot (Prod.fst (gp nm (Int.toNat (Nat.cast i : Int)))) (Prod.snd (gp nm (Int.toNat (Nat.cast i : Int)))) (vec_Sub_0 p0 p1 (Prod.fst (gp l (Int.toNat (Nat.cast i : Int)))) (Prod.snd (gp l (Int.toNat (Nat.cast i : Int))))) (vec_Sub_1 p0 p1 (Prod.fst (gp l (Int.toNat (Nat.cast i : Int)))) (Prod.snd (gp l (Int.toNat (Nat.cast i : Int))))))) (vec_Dot (Prod.fst (gp nm (Int.toNat (Nat.cast i : Int)))) (Prod.snd (gp nm (Int.toNat (Nat.cast i : Int)))) w0 w1)))), (.one (.flt en)), (.one (.sl nm)), (.one (.int .i64 ((Nat.cast (List.length nm) : Int)))), (.one (.int .i64 (Go.IntKind.wrap Go.IntKind.i64 (HAdd.hAdd (Nat.cast i : Int) (1 : Int)))))] = R) (cond (fGt (vec_Dot (Prod.fst (gp nm (Int.toNat (Nat.cast i : Int)))) (Prod.snd (gp nm (Int.toNat (Nat.cast i : Int)))) w0 w1) (0 : Nat)) (AT.tup [(.one (.int .i64 ((Nat.cast (codeX XE.n) : Int)))), (.one (.sl l)), (.one (.lp ((4 : Nat)) ((0 : Nat)))), (.agg [(.flt p0), (.flt p1)]), (.one (.lp ((5 : Nat)) ((0 : Nat)))), (.agg [(.flt w0), (.flt w1)]), (.one (.lp ((6 : Nat)) ((0 : Nat)))), (.agg [(.flt ((0 : Nat))), (.flt ((0 : Nat))), (.flt ((0 : Nat))), (.flt ((0 : Nat))), (.flt ((0 : Nat)))]), (.one (.sl nm)), (.one (.int .i64 sd)), (.one (.flt tt)), (.one (.flt (fmin en (fdiv (fneg (vec_Dot (Prod.fst (gp nm (Int.toNat (Nat.cast i : Int)))) (Prod.snd (gp nm (Int.toNat (Nat.cast i : Int)))) (vec_Sub_0 p0 p1 (Prod.fst (gp l (Int.toNat (Nat.cast i : Int)))) (Prod.snd (gp l (Int.toNat (Nat.cast i : Int))))) (vec_Sub_1 p0 p1 (Prod.fst (gp l (Int.toNat (Nat.cast i : Int)))) (Prod.snd (gp l (Int.toNat (Nat.cast i : Int))))))) (vec_Dot (Prod.fst (gp nm (Int.toNat (Nat.cast i : Int)))) (Prod.snd (gp nm (Int.toNat (Nat.cast i : Int)))) w0 w1))))), (.one (.sl nm)), (.one (.int .i64 ((Nat.cast (List.length nm) : Int)))), (.one (.int .i64 (Go.IntKind.wrap Go.IntKind.i64 (HAdd.hAdd (Nat.cast i : Int) (1 : Int)))))] = R) (AT.tup [(.one (.int .i64 ((Nat.cast (codeX XE.n) : Int)))), (.one (.sl l)), (.one (.lp ((4 : Nat)) ((0 : Nat)))), (.agg [(.flt p0), (.flt p1)]), (.one (.lp ((5 : Nat)) ((0 : Nat)))), (.agg [(.flt w0), (.flt w1)]), (.one (.lp ((6 : Nat)) ((0 : Nat)))), (.agg [(.flt ((0 : Nat))), (.flt ((0 : Nat))), (.flt ((0 : Nat))), (.flt ((0 : Nat))), (.flt ((0 : Nat)))]), (.one (.sl nm)), (.one (.int .i64 sd)), (.one (.flt tt)), (.one (.flt en)), (.one (.sl nm)), (.one (.int .i64 ((Nat.cast (List.length nm) : Int)))), (.one (.int .i64 (Go.IntKind.wrap Go.IntKind.i64 (HAdd.hAdd (Nat.cast i : Int) (1 : Int)))))] = R))) (cond (fGt (vec_Dot (Prod.fst (gp nm (Int.toNat (Nat.cast i : Int)))) (Prod.snd (gp nm (Int.toNat (Nat.cast i : Int)))) w0 w1) (0 : Nat)) (AT.tup [(.one (.int .i64 ((Nat.cast (codeX XE.n) : Int)))), (.one (.sl l)), (.one (.lp ((4 : Nat)) ((0 : Nat)))), (.agg [(.flt p0), (.flt p1)]), (.one (.lp ((5 : Nat)) ((0 : Nat)))), (.agg [(.flt w0), (.flt w1)]), (.one (.lp ((6 : Nat)) ((0 : Nat)))), (.agg [(.flt ((0 : Nat))), (.flt ((0 : Nat))), (.flt ((0 : Nat))), (.flt ((0 : Nat))), (.flt ((0 : Nat)))]), (.one (.sl nm)), (.one (.int .i64 sd)), (.one (.flt tt)), (.one (.flt (fmin en (fdiv (fneg (vec_Dot (Prod.fst (gp nm (Int.toNat (Nat.cast i : Int)))) (Prod.snd (gp nm (Int.toNat (Nat.cast i : Int)))) (vec_Sub_0 p0 p1 (Prod.fst (gp l (Int.toNat (Nat.cast i : Int)))) (Prod.snd (gp l (Int.toNat (Nat.cast i : Int))))) (vec_Sub_1 p0 p1 (Prod.fst (gp l (Int.toNat (Nat.cast i : Int)))) (Prod.snd (gp l (Int.toNat (Nat.cast i : Int))))))) (vec_Dot (Prod.fst (gp nm (Int.toNat (Nat.cast i : Int)))) (Prod.snd (gp nm (Int.toNat (Nat.cast i : Int)))) w0 w1))))), (.one (.sl nm)), (.one (.int .i64 ((Nat.cast (List.length nm) : Int)))), (.one (.int .i64 (Go.IntKind.wrap Go.IntKind.i64 (HAdd.hAdd (Nat.cast i : Int) (1 : Int)))))] = R) (AT.tup [(.one (.int .i64 ((Nat.cast (codeX XE.n) : Int)))), (.one (.sl l)), (.one (.lp ((4 : Nat)) ((0 : Nat)))), (.agg [(.flt p0), (.flt p1)]), (.one (.lp ((5 : Nat)) ((0 : Nat)))), (.agg [(.flt w0), (.flt w1)]), (.one (.lp ((6 : Nat)) ((0 : Nat)))), (.agg [(.flt ((0 : Nat))), (.flt ((0 : Nat))), (.flt ((0 : Nat))), (.flt ((0 : Nat))), (.flt ((0 : Nat)))]), (.one (.sl nm)), (.one (.int .i64 sd)), (.one (.flt tt)), (.one (.flt en)), (.one (.sl nm)), (.one (.int .i64 ((Nat.cast (List.length nm) : Int)))), (.one (.int .i64 (Go.IntKind.wrap Go.IntKind.i64 (HAdd.hAdd (Nat.cast i : Int) (1 : Int)))))] = R)))) (cond (fLt (vec_Dot (Prod.fst (gp nm (Int.toNat (Nat.cast i : Int)))) (Prod.snd (gp nm (Int.toNat (Nat.cast i : Int)))) w0 w1) (0 : Nat)) (cond (fGt (fdiv (fneg (vec_Dot (Prod.fst (gp nm (Int.toNat (Nat.cast i : Int)))) (Prod.snd (gp nm (Int.toNat (Nat.cast i : Int)))) (vec_Sub_0 p0 p1 (Prod.fst (gp l (Int.toNat (Nat.cast i : Int)))) (Prod.snd (gp l (Int.toNat (Nat.cast i : Int))))) (vec_Sub_1 p0 p1 (Prod.fst (gp l (Int.toNat (Nat.cast i : Int)))) (Prod.snd (gp l (Int.toNat (Nat.cast i : Int))))))) (vec_Dot (Prod.fst (gp nm (Int.toNat (Nat.cast i : Int)))) (Prod.snd (gp nm (Int.toNat (Nat.cast i : Int)))) w0 w1)) tt) (AT.tup [(.one (.int .i64 ((Nat.cast (codeX XE.n) : Int)))), (.one (.sl l)), (.one (.lp ((4 : Nat)) ((0 : Nat)))), (.agg [(.flt p0), (.flt p1)]), (.one (.lp ((5 : Nat)) ((0 : Nat)))), (.agg [(.flt w0), (.flt w1)]), (.one (.lp ((6 : Nat)) ((0 : Nat)))), (.agg [(.flt ((0 : Nat))), (.flt ((0 : Nat))), (.flt ((0 : Nat))), (.flt ((0 : Nat))), (.flt ((0 : Nat)))]), (.one (.sl nm)), (.one (.int .i64 ((Nat.cast i : Int)))), (.one (.flt (fdiv (fneg (vec_Dot (Prod.fst (gp nm (Int.toNat (Nat.cast i : Int)))) (Prod.snd (gp nm (Int.toNat (Nat.cast i : Int)))) (vec_Sub_0 p0 p1 (Prod.fst (gp l (Int.toNat (Nat.cast i : Int)))) (Prod.snd (gp l (Int.toNat (Nat.cast i : Int))))) (vec_Sub_1 p0 p1 (Prod.fst (gp l (Int.toNat (Nat.cast i : Int)))) (Prod.snd (gp l (Int.toNat (Nat.cast i : Int))))))) (vec_Dot (Prod.fst (gp nm (Int.toNat (Nat.cast i : Int)))) (Prod.snd (gp nm (Int.toNat (Nat.cast i : Int)))) w0 w1)))), (.one (.flt en)), (.one (.sl nm)), (.one (.int .i64 ((Nat.cast (List.length nm) : Int)))), (.one (.int .i64 (Go.IntKind.wrap Go.IntKind.i64 (HAdd.hAdd (Nat.cast i : Int) (1 : Int)))))] = R) (cond (fGt (vec_Dot (Prod.fst (gp nm (Int.toNat (Nat.cast i : Int)))) (Prod.snd (gp nm (Int.toNat (Nat.cast i : Int)))) w0 w1) (0 : Nat)) (AT.tup [(.one (.int .i64 ((Nat.cast (codeX XE.n) : Int)))), (.one (.sl l)), (.one (.lp ((4 : Nat)) ((0 : Nat)))), (.agg [(.flt p0), (.flt p1)]), (.one (.lp ((5 : Nat)) ((0 : Nat)))), (.agg [(.flt w0), (.flt w1)]), (.one (.lp ((6 : Nat)) ((0 : Nat)))), (.agg [(.flt ((0 : Nat))), (.flt ((0 : Nat))), (.flt ((0 : Nat))), (.flt ((0 : Nat))), (.flt ((0 : Nat)))]), (.one (.sl nm)), (.one (.int .i64 sd)), (.one (.flt tt)), (.one (.flt (fmin en (fdiv (fneg (vec_Dot (Prod.fst (gp nm (Int.toNat (Nat.cast i : Int)))) (Prod.snd (gp nm (Int.toNat (Nat.cast i : Int)))) (vec_Sub_0 p0 p1 (Prod.fst (gp l (Int.toNat (Nat.cast i : Int)))) (Prod.snd (gp l (Int.toNat (Nat.cast i : Int))))) (vec_Sub_1 p0 p1 (Prod.fst (gp l (Int.toNat (Nat.cast i : Int)))) (Prod.snd (gp l (Int.toNat (Nat.cast i : Int))))))) (vec_Dot (Prod.fst (gp nm (Int.toNat (Nat.cast i : Int)))) (Prod.snd (gp nm (Int.toNat (Nat.cast i : Int)))) w0 w1))))), (.one (.sl nm)), (.one (.int .i64 ((Nat.cast (List.length nm) : Int)))), (.one (.int .i64 (Go.IntKind.wrap Go.IntKind.i64 (HAdd.hAdd (Nat.cast i : Int) (1 : Int)))))] = R) (AT.tup [(.one (.int .i64 ((Nat.cast (codeX XE.n) : Int)))), (.one (.sl l)), (.one (.lp ((4 : Nat)) ((0 : Nat)))), (.agg [(.flt p0), (.flt p1)]), (.one (.lp ((5 : Nat)) ((0 : Nat)))), (.agg [(.flt w0), (.flt w1)]), (.one (.lp ((6 : Nat)) ((0 : Nat)))), (.agg [(.flt ((0 : Nat))), (.flt ((0 : Nat))), (.flt ((0 : Nat))), (.flt ((0 : Nat))), (.flt ((0 : Nat)))]), (.one (.sl nm)), (.one (.int .i64 sd)), (.one (.flt tt)), (.one (.flt en)), (.one (.sl nm)), (.one (.int .i64 ((Nat.cast (List.length nm) : Int)))), (.one (.int .i64 (Go.IntKind.wrap Go.IntKind.i64 (HAdd.hAdd (Nat.cast i : Int) (1 : Int)))))] = R))) (cond (fGt (vec_Dot (Prod.fst (gp nm (Int.toNat (Nat.cast i : Int)))) (Prod.snd (gp nm (Int.toNat (Nat.cast i : Int)))) w0 w1) (0 : Nat)) (AT.tup [(.one (.int .i64 ((Nat.cast (codeX XE.n) : Int)))), (.one (.sl l)), (.one (.lp ((4 : Nat)) ((0 : Nat)))), (.agg [(.flt p0), (.flt p1)]), (.one (.lp ((5 : Nat)) ((0 : Nat)))), (.agg [(.flt w0), (.flt w1)]), (.one (.lp ((6 : Nat)) ((0 : Nat)))), (.agg [(.flt ((0 : Nat))), (.flt ((0 : Nat))), (.flt ((0 : Nat))), (.flt ((0 : Nat))), (.flt ((0 : Nat)))]), (.one (.sl nm)), (.one (.int .i64 sd)), (.one (.flt tt)), (.one (.flt (fmin en (fdiv (fneg (vec_Dot (Prod.fst (gp nm (Int.toNat (Nat.cast i : Int)))) (Prod.snd (gp nm (Int.toNat (Nat.cast i : Int)))) (vec_Sub_0 p0 p1 (Prod.fst (gp l (Int.toNat (Nat.cast i : Int)))) (Prod.snd (gp l (Int.toNat (Nat.cast i : Int))))) (vec_Sub_1 p0 p1 (Prod.fst (gp l (Int.toNat (Nat.cast i : Int)))) (Prod.snd (gp l (Int.toNat (Nat.cast i : Int))))))) (vec_Dot (Prod.fst (gp nm (Int.toNat (Nat.cast i : Int)))) (Prod.snd (gp nm (Int.toNat (Nat.cast i : Int)))) w0 w1))))), (.one (.sl nm)), (.one (.int .i64 ((Nat.cast (List.length nm) : Int)))), (.one (.int .i64 (Go.IntKind.wrap Go.IntKind.i64 (HAdd.hAdd (Nat.cast i : Int) (1 : Int)))))] = R) (AT.tup [(.one (.int .i64 ((Nat.cast (codeX XE.n) : Int)))), (.one (.sl l)), (.one (.lp ((4 : Nat)) ((0 : Nat)))), (.agg [(.flt p0), (.flt p1)]), (.one (.lp ((5 : Nat)) ((0 : Nat)))), (.agg [(.flt w0), (.flt w1)]), (.one (.lp ((6 : Nat)) ((0 : Nat)))), (.agg [(.flt ((0 : Nat))), (.flt ((0 : Nat))), (.flt ((0 : Nat))), (.flt ((0 : Nat))), (.flt ((0 : Nat)))]), (.one (.sl nm)), (.one (.int .i64 sd)), (.one (.flt tt)), (.one (.flt en)), (.one (.sl nm)), (.one (.int .i64 ((Nat.cast (List.length nm) : Int)))), (.one (.int .i64 (Go.IntKind.wrap Go.IntKind.i64 (HAdd.hAdd (Nat.cast i : Int) (1 : Int)))))] = R)))) (False)) (False)) (AT.tup [(.one (.int .i64 ((Nat.cast (codeX (XE.x (0 : Nat))) : Int)))), (.one (.lp ((4 : Nat)) ((0 : Nat)))), (.agg [(.flt p0), (.flt p1)]), (.one (.lp ((5 : Nat)) ((0 : Nat)))), (.agg [(.flt w0), (.flt w1)]), (.one (.lp ((6 : Nat)) ((0 : Nat)))), (.agg [(.flt ((0 : Nat))), (.flt ((0 : Nat))), (.flt ((0 : Nat))), (.flt ((0 : Nat))), (.flt ((0 : Nat)))]), (.one (.sl nm)), (.one (.int .i64 sd)), (.one (.flt tt)), (.one (.flt en))] = R)) : xcode (tb 117 [(13, e13), (19, e19), (55, e55), (56, e56), (57, e57), (58, e58), (59, e59), (60, e60)] [] []) b20 (mkS (vl20 .n) [.one (.sl l), .one (.lp 4 0), .agg [.flt p0, .flt p1], .one (.lp 5 0), .agg [.flt w0, .flt w1], .one (.lp 6 0), .agg [.flt 0, .flt 0, .flt 0, .flt 0, .flt 0], .one (.sl nm), .one (.int .i64 sd), .one (.flt tt), .one (.flt en), .one (.sl nm), .one (.int .i64 nm.length), .one (.int .i64 i)]) (fun e σ => obsT vl20 e σ = R) := by_kernel (q := cond (Decidable.decide (LT.lt (Nat.cast i : Int) (Nat.cast (List.length nm) : Int))) (cond (inRange ((Nat.cast i : Int)) (List.length nm)) (cond (inRange ((Nat.cast i : Int)) (List.length l)) (cond (fEq (vec_Dot (Prod.fst (gp nm (Int.toNat (Nat.cast i : Int)))) (Prod.snd (gp nm (Int.toNat (Nat.cast i : Int)))) w0 w1) (0 : Nat)) (cond (fGt (vec_Dot (Prod.fst (gp nm (Int.toNat (Nat.cast i : Int)))) (Prod.snd (gp nm (Int.toNat (Nat.cast i : Int)))) (vec_Sub_0 p0 p1 (Prod.fst (gp l (Int.toNat (Nat.cast i : Int)))) (Prod.snd (gp l (Int.toNat (Nat.cast i : Int))))) (vec_Sub_1 p0 p1 (Prod.fst (gp l (Int.toNat (Nat.cast i : Int)))) (Prod.snd (gp l (Int.toNat (Nat.cast i : Int)))))) (0 : Nat)) (AT.tup [(.one (.int .i64 ((Nat.cast (codeX XE.r) : Int)))), (.one (.lp ((6 : Nat)) ((0 : Nat)))), (.agg [(.flt ((0 : Nat))), (.flt ((0 : Nat))), (.flt ((0 : Nat))), (.flt ((0 : Nat))), (.flt ((0 : Nat)))]), (.one (.bool Bool.false)), (.one (.int .i64 ((0 : Int))))] = R) (cond (fLt (vec_Dot (Prod.fst (gp nm (Int.toNat (Nat.cast i : Int)))) (Prod.snd (gp nm (Int.toNat (Nat.cast i : Int)))) w0 w1) (0 : Nat)) (cond (fGt (fdiv (fneg (vec_Dot (Prod.fst (gp nm (Int.toNat (Nat.cast i : Int)))) (Prod.snd (gp nm (Int.toNat (Nat.cast i : Int)))) (vec_Sub_0 p0 p1 (Prod.fst (gp l (Int.toNat (Nat.cast i : Int)))) (Prod.snd (gp l (Int.toNat (Nat.cast i : Int))))) (vec_Sub_1 p0 p1 (Prod.fst (gp l (Int.toNat (Nat.cast i : Int)))) (Prod.snd (gp l (Int.toNat (Nat.cast i : Int))))))) (vec_Dot (Prod.fst (gp nm (Int.toNat (Nat.cast i : Int)))) (Prod.snd (gp nm (Int.toNat (Nat.cast i : Int)))) w0 w1)) tt) (AT.tup [(.one (.int .i64 ((Nat.cast (codeX XE.n) : Int)))), (.one (.sl l)), (.one (.lp ((4 : Nat)) ((0 : Nat)))), (.agg [(.flt p0), (.flt p1)]), (.one (.lp ((5 : Nat)) ((0 : Nat)))), (.agg [(.flt w0), (.flt w1)]), (.one (.lp ((6 : Nat)) ((0 : Nat)))), (.agg [(.flt ((0 : Nat))), (.flt ((0 : Nat))), (.flt ((0 : Nat))), (.flt ((0 : Nat))), (.flt ((0 : Nat)))]), (.one (.sl nm)), (.one (.int .i64 ((Nat.cast i : Int)))), (.one (.flt (fdiv (fneg (vec_Dot (Prod.fst (gp nm (Int.toNat (Nat.cast i : Int)))) (Prod.snd (gp nm (Int.toNat (Nat.cast i : Int)))) (vec_Sub_0 p0 p1 (Prod.fst (gp l (Int.toNat (Nat.cast i : Int)))) (Prod.snd (gp l (Int.toNat (Nat.cast i : Int))))) (vec_Sub_1 p0 p1 (Prod.fst (gp l (Int.toNat (Nat.cast i : Int)))) (Prod.snd (gp l (Int.toNat (Nat.cast i : Int))))))) (vec_Dot (Prod.fst (gp nm (Int.toNat (Nat.cast i : Int)))) (Prod.snd (gp nm (Int.toNat (Nat.cast i : Int)))) w0 w1)))), (.one (.flt en)), (.one (.sl nm)), (.one (.int .i64 ((Nat.cast (List.length nm) : Int)))), (.one (.int .i64 (Go.IntKind.wrap Go.IntKind.i64 (HAdd.hAdd (Nat.cast i : Int) (1 : Int)))))] = R) (cond (fGt (vec_Dot (Prod.fst (gp nm (Int.toNat (Nat.cast i : Int)))) (Prod.snd (gp nm (Int.toNat (Nat.cast i : Int)))) w0 w1) (0 : Nat)) (AT.tup [(.one (.int .i64 ((Nat.cast (codeX XE.n) : Int)))), (.one (.sl l)), (.one (.lp ((4 : Nat)) ((0 : Nat)))), (.agg [(.flt p0), (.flt p1)]), (.one (.lp ((5 : Nat)) ((0 : Nat)))), (.agg [(.flt w0), (.flt w1)]), (.one (.lp ((6 : Nat)) ((0 : Nat)))), (.agg [(.flt ((0 : Nat))), (.flt ((0 : Nat))), (.flt ((0 : Nat))), (.flt ((0 : Nat))), (.flt ((0 : Nat)))]), (.one (.sl nm)), (.one (.int .i64 sd)), (.one (.flt tt)), (.one (.flt (fmin en (fdiv (fneg (vec_Dot (Prod.fst (gp nm (Int.toNat (Nat.cast i : Int)))) (Prod.snd (gp nm (Int.toNat (Nat.cast i : Int)))) (vec_Sub_0 p0 p1 (Prod.fst (gp l (Int.toNat (Nat.cast i : Int)))) (Prod.snd (gp l (Int.toNat (Nat.cast i : Int))))) (vec_Sub_1 p0 p1 (Prod.fst (gp l (Int.toNat (Nat.cast i : Int)))) (Prod.snd (gp l (Int.toNat (Nat.cast i : Int))))))) (vec_Dot (Prod.fst (gp nm (Int.toNat (Nat.cast i : Int)))) (Prod.snd (gp nm (Int.toNat (Nat.cast i : Int)))) w0 w1))))), (.one (.sl nm)), (.one (.int .i64 ((Nat.cast (List.length nm) : Int)))), (.one (.int .i64 (Go.IntKind.wrap Go.IntKind.i64 (HAdd.hAdd (Nat.cast i : Int) (1 : Int)))))] = R) (AT.tup [(.one (.int .i64 ((Nat.cast (codeX XE.n) : Int)))), (.one (.sl l)), (.one (.lp ((4 : Nat)) ((0 : Nat)))), (.agg [(.flt p0), (.flt p1)]), (.one (.lp ((5 : Nat)) ((0 : Nat)))), (.agg [(.flt w0), (.flt w1)]), (.one (.lp ((6 : Nat)) ((0 : Nat)))), (.agg [(.flt ((0 : Nat))), (.flt ((0 : Nat))), (.flt ((0 : Nat))), (.flt ((0 : Nat))), (.flt ((0 : Nat)))]), (.one (.sl nm)), (.one (.int .i64 sd)), (.one (.flt tt)), (.one (.flt en)), (.one (.sl nm)), (.one (.int .i64 ((Nat.cast (List.length nm) : Int)))), (.one (.int .i64 (Go.IntKind.wrap Go.IntKind.i64 (HAdd.hAdd (Nat.cast i : Int) (1 : Int)))))] = R))) (cond (fGt (vec_Dot (Prod.fst (gp nm (Int.toNat (Nat.cast i : Int)))) (Prod.snd (gp nm (Int.toNat (Nat.cast i : Int)))) w0 w1) (0 : Nat)) (AT.tup [(.one (.int .i64 ((Nat.cast (codeX XE.n) : Int)))), (.one (.sl l)), (.one (.lp ((4 : Nat)) ((0 : Nat)))), (.agg [(.flt p0), (.flt p1)]), (.one (.lp ((5 : Nat)) ((0 : Nat)))), (.agg [(.flt w0), (.flt w1)]), (.one (.lp ((6 : Nat)) ((0 : Nat)))), (.agg [(.flt ((0 : Nat))), (.flt ((0 : Nat))), (.flt ((0 : Nat))), (.flt ((0 : Nat))), (.flt ((0 : Nat)))]), (.one (.sl nm)), (.one (.int .i64 sd)), (.one (.flt tt)), (.one (.flt (fmin en (fdiv (fneg (vec_Dot (Prod.fst (gp nm (Int.toNat (Nat.cast i : Int)))) (Prod.snd (gp nm (Int.toNat (Nat.cast i : Int)))) (vec_Sub_0 p0 p1 (Prod.fst (gp l (Int.toNat (Nat.cast i : Int)))) (Prod.snd (gp l (Int.toNat (Nat.cast i : Int))))) (vec_Sub_1 p0 p1 (Prod.fst (gp l (Int.toNat (Nat.cast i : Int)))) (Prod.snd (gp l (Int.toNat (Nat.cast i : Int))))))) (vec_Dot (Prod.fst (gp nm (Int.toNat (Nat.cast i : Int)))) (Prod.snd (gp nm (Int.toNat (Nat.cast i : Int)))) w0 w1))))), (.one (.sl nm)), (.one (.int .i64 ((Nat.cast (List.length nm) : Int)))), (.one (.int .i64 (Go.IntKind.wrap Go.IntKind.i64 (HAdd.hAdd (Nat.cast i : Int) (1 : Int)))))] = R) (AT.tup [(.one (.int .i64 ((Nat.cast (codeX XE.n) : Int)))), (.one (.sl l)), (.one (.lp ((4 : Nat)) ((0 : Nat)))), (.agg [(.flt p0), (.flt p1)]), (.one (.lp ((5 : Nat)) ((0 : Nat)))), (.agg [(.flt w0), (.flt w1)]), (.one (.lp ((6 : Nat)) ((0 : Nat)))), (.agg [(.flt ((0 : Nat))), (.flt ((0 : Nat))), (.flt ((0 : Nat))), (.flt ((0 : Nat))), (.flt ((0 : Nat)))]), (.one (.sl nm)), (.one (.int .i64 sd)), (.one (.flt tt)), (.one (.flt en)), (.one (.sl nm)), (.one (.int .i64 ((Nat.cast (List.length nm) : Int)))), (.one (.int .i64 (Go.IntKind.wrap Go.IntKind.i64 (HAdd.hAdd (Nat.cast i : Int) (1 : Int)))))] = R)))) (cond (fLt (vec_Dot (Prod.fst (gp nm (Int.toNat (Nat.cast i : Int)))) (Prod.snd (gp nm (Int.toNat (Nat.cast i : Int)))) w0 w1) (0 : Nat)) (cond (fGt (fdiv (fneg (vec_Dot (Prod.fst (gp nm (Int.toNat (Nat.cast i : Int)))) (Prod.snd (gp nm (Int.toNat (Nat.cast i : Int)))) (vec_Sub_0 p0 p1 (Prod.fst (gp l (Int.toNat (Nat.cast i : Int)))) (Prod.snd (gp l (Int.toNat (Nat.cast i : Int))))) (vec_Sub_1 p0 p1 (Prod.fst (gp l (Int.toNat (Nat.cast i : Int)))) (Prod.snd (gp l (Int.toNat (Nat.cast i : Int))))))) (vec_Dot (Prod.fst (gp nm (Int.toNat (Nat.cast i : Int)))) (Prod.snd (gp nm (Int.toNat (Nat.cast i : Int)))) w0 w1)) tt) (AT.tup [(.one (.int .i64 ((Nat.cast (codeX XE.n) : Int)))), (.one (.sl l)), (.one (.lp ((4 : Nat)) ((0 : Nat)))), (.agg [(.flt p0), (.flt p1)]), (.one (.lp ((5 : Nat)) ((0 : Nat)))), (.agg [(.flt w0), (.flt w1)]), (.one (.lp ((6 : Nat)) ((0 : Nat)))), (.agg [(.flt ((0 : Nat))), (.flt ((0 : Nat))), (.flt ((0 : Nat))), (.flt ((0 : Nat))), (.flt ((0 : Nat)))]), (.one (.sl nm)), (.one (.int .i64 ((Nat.cast i : Int)))), (.one (.flt (fdiv (fneg (vec_Dot (Prod.fst (gp nm (Int.toNat (Nat.cast i : Int)))) (Prod.snd (gp nm (Int.toNat (Nat.cast i : Int)))) (vec_Sub_0 p0 p1 (Prod.fst (gp l (Int.toNat (Nat.cast i : Int)))) (Prod.snd (gp l (Int.toNat (Nat.cast i : Int))))) (vec_Sub_1 p0 p1 (Prod.fst (gp l (Int.toNat (Nat.cast i : Int)))) (Prod.snd (gp l (Int.toNat (Nat.cast i : Int))))))) (vec_Dot (Prod.fst (gp nm (Int.toNat (Nat.cast i : Int)))) (Prod.snd (gp nm (Int.toNat (Nat.cast i : Int)))) w0 w1)))), (.one (.flt en)), (.one (.sl nm)), (.one (.int .i64 ((Nat.cast (List.length nm) : Int)))), (.one (.int .i64 (Go.IntKind.wrap Go.IntKind.i64 (HAdd.hAdd (Nat.cast i : Int) (1 : Int)))))] = R) (cond (fGt (vec_Dot (Prod.fst (gp nm (Int.toNat (Nat.cast i : Int)))) (Prod.snd (gp nm (Int.toNat (Nat.cast i : Int)))) w0 w1) (0 : Nat)) (AT.tup [(.one (.int .i64 ((Nat.cast (codeX XE.n) : Int)))), (.one (.sl l)), (.one (.lp ((4 : Nat)) ((0 : Nat)))), (.agg [(.flt p0), (.flt p1)]), (.one (.lp ((5 : Nat)) ((0 : Nat)))), (.agg [(.flt w0), (.flt w1)]), (.one (.lp ((6 : Nat)) ((0 : Nat)))), (.agg [(.flt ((0 : Nat))), (.flt ((0 : Nat))), (.flt ((0 : Nat))), (.flt ((0 : Nat))), (.flt ((0 : Nat)))]), (.one (.sl nm)), (.one (.int .i64 sd)), (.one (.flt tt)), (.one (.flt (fmin en (fdiv (fneg (vec_Dot (Prod.fst (gp nm (Int.toNat (Nat.cast i : Int)))) (Prod.snd (gp nm (Int.toNat (Nat.cast i : Int)))) (vec_Sub_0 p0 p1 (Prod.fst (gp l (Int.toNat (Nat.cast i : Int)))) (Prod.snd (gp l (Int.toNat (Nat.cast i : Int))))) (vec_Sub_1 p0 p1 (Prod.fst (gp l (Int.toNat (Nat.cast i : Int)))) (Prod.snd (gp l (Int.toNat (Nat.cast i : Int))))))) (vec_Dot (Prod.fst (gp nm (Int.toNat (Nat.cast i : Int)))) (Prod.snd (gp nm (Int.toNat (Nat.cast i : Int)))) w0 w1))))), (.one (.sl nm)), (.one (.int .i64 ((Nat.cast (List.length nm) : Int)))), (.one (.int .i64 (Go.IntKind.wrap Go.IntKind.i64 (HAdd.hAdd (Nat.cast i : Int) (1 : Int)))))] = R) (AT.tup [(.one (.int .i64 ((Nat.cast (codeX XE.n) : Int)))), (.one (.sl l)), (.one (.lp ((4 : Nat)) ((0 : Nat)))), (.agg [(.flt p0), (.flt p1)]), (.one (.lp ((5 : Nat)) ((0 : Nat)))), (.agg [(.flt w0), (.flt w1)]), (.one (.lp ((6 : Nat)) ((0 : Nat)))), (.agg [(.flt ((0 : Nat))), (.flt ((0 : Nat))), (.flt ((0 : Nat))), (.flt ((0 : Nat))), (.flt ((0 : Nat)))]), (.one (.sl nm)), (.one (.int .i64 sd)), (.one (.flt tt)), (.one (.flt en)), (.one (.sl nm)), (.one (.int .i64 ((Nat.cast (List.length nm) : Int)))), (.one (.int .i64 (Go.IntKind.wrap Go.IntKind.i64 (HAdd.hAdd (Nat.cast i : Int) (1 : Int)))))] = R))) (cond (fGt (vec_Dot (Prod.fst (gp nm (Int.toNat (Nat.cast i : Int)))) (Prod.snd (gp nm (Int.toNat (Nat.cast i : Int)))) w0 w1) (0 : Nat)) (AT.tup [(.one (.int .i64 ((Nat.cast (codeX XE.n) : Int)))), (.one (.sl l)), (.one (.lp ((4 : Nat)) ((0 : Nat)))), (.agg [(.flt p0), (.flt p1)]), (.one (.lp ((5 : Nat)) ((0 : Nat)))), (.agg [(.flt w0), (.flt w1)]), (.one (.lp ((6 : Nat)) ((0 : Nat)))), (.agg [(.flt ((0 : Nat))), (.flt ((0 : Nat))), (.flt ((0 : Nat))), (.flt ((0 : Nat))), (.flt ((0 : Nat)))]), (.one (.sl nm)), (.one (.int .i64 sd)), (.one (.flt tt)), (.one (.flt (fmin en (fdiv (fneg (vec_Dot (Prod.fst (gp nm (Int.toNat (Nat.cast i : Int)))) (Prod.snd (gp nm (Int.toNat (Nat.cast i : Int)))) (vec_Sub_0 p0 p1 (Prod.fst (gp l (Int.toNat (Nat.cast i : Int)))) (Prod.snd (gp l (Int.toNat (Nat.cast i : Int))))) (vec_Sub_1 p0 p1 (Prod.fst (gp l (Int.toNat (Nat.cast i : Int)))) (Prod.snd (gp l (Int.toNat (Nat.cast i : Int))))))) (vec_Dot (Prod.fst (gp nm (Int.toNat (Nat.cast i : Int)))) (Prod.snd (gp nm (Int.toNat (Nat.cast i : Int)))) w0 w1))))), (.one (.sl nm)), (.one (.int .i64 ((Nat.cast (List.length nm) : Int)))), (.one (.int .i64 (Go.IntKind.wrap Go.IntKind.i64 (HAdd.hAdd (Nat.cast i : Int) (1 : Int)))))] = R) (AT.tup [(.one (.int .i64 ((Nat.cast (codeX XE.n) : Int)))), (.one (.sl l)), (.one (.lp ((4 : Nat)) ((0 : Nat)))), (.agg [(.flt p0), (.flt p1)]), (.one (.lp ((5 : Nat)) ((0 : Nat)))), (.agg [(.flt w0), (.flt w1)]), (.one (.lp ((6 : Nat)) ((0 : Nat)))), (.agg [(.flt ((0 : Nat))), (.flt ((0 : Nat))), (.flt ((0 : Nat))), (.flt ((0 : Nat))), (.flt ((0 : Nat)))]), (.one (.sl nm)), (.one (.int .i64 sd)), (.one (.flt tt)), (.one (.flt en)), (.one (.sl nm)), (.one (.int .i64 ((Nat.cast (List.length nm) : Int)))), (.one (.int .i64 (Go.IntKind.wrap Go.IntKind.i64 (HAdd.hAdd (Nat.cast i : Int) (1 : Int)))))] = R)))) (False)) (False)) (AT.tup [(.one (.int .i64 ((Nat.cast (codeX (XE.x (0 : Nat))) : Int)))), (.one (.lp ((4 : Nat)) ((0 : Nat)))), (.agg [(.flt p0), (.flt p1)]), (.one (.lp ((5 : Nat)) ((0 : Nat)))), (.agg [(.flt w0), (.flt w1)]), (.one (.lp ((6 : Nat)) ((0 : Nat)))), (.agg [(.flt ((0 : Nat))), (.flt ((0 : Nat))), (.flt ((0 : Nat))), (.flt ((0 : Nat))), (.flt ((0 : Nat)))]), (.one (.sl nm)), (.one (.int .i64 sd)), (.one (.flt tt)), (.one (.flt en))] = R)) (by kernel_rfl) h

/-- One side: which side is met last, where; and where the ray is out again. -/
def polyStep (l nm : List (Nat × Nat)) (p0 p1 w0 w1 : Nat) (i : Nat) (b : Int × Nat × Nat) : Option (Int × Nat × Nat) :=
  bif fEq (vec_Dot (gp nm i).1 (gp nm i).2 w0 w1) 0 && fGt (vec_Dot (gp nm i).1 (gp nm i).2 (vec_Sub_0 p0 p1 (gp l i).1 (gp l i).2) (vec_Sub_1 p0 p1 (gp l i).1 (gp l i).2)) 0 then none
  else bif fLt (vec_Dot (gp nm i).1 (gp nm i).2 w0 w1) 0 && fGt (fdiv (fneg (vec_Dot (gp nm i).1 (gp nm i).2 (vec_Sub_0 p0 p1 (gp l i).1 (gp l i).2) (vec_Sub_1 p0 p1 (gp l i).1 (gp l i).2))) (vec_Dot (gp nm i).1 (gp nm i).2 w0 w1)) b.2.1 then
    some ((i : Int), fdiv (fneg (vec_Dot (gp nm i).1 (gp nm i).2 (vec_Sub_0 p0 p1 (gp l i).1 (gp l i).2) (vec_Sub_1 p0 p1 (gp l i).1 (gp l i).2))) (vec_Dot (gp nm i).1 (gp nm i).2 w0 w1), b.2.2)
  else bif fGt (vec_Dot (gp nm i).1 (gp nm i).2 w0 w1) 0 then
    some (b.1, b.2.1, fmin b.2.2 (fdiv (fneg (vec_Dot (gp nm i).1 (gp nm i).2 (vec_Sub_0 p0 p1 (gp l i).1 (gp l i).2) (vec_Sub_1 p0 p1 (gp l i).1 (gp l i).2))) (vec_Dot (gp nm i).1 (gp nm i).2 w0 w1)))
  else some b
def polyLoop (l nm : List (Nat × Nat)) (p0 p1 w0 w1 : Nat) (b : Int × Nat × Nat) : Option (Int × Nat × Nat) := foldO (polyStep l nm p0 p1 w0 w1) 0 nm.length b
structure Cx20 where
  (l nm : List (Nat × Nat)) (p0 p1 w0 w1 : Nat)
def dn20 (c : Cx20) (b : Int × Nat × Nat) : List AV := [.one (.lp 4 0), .agg [.flt c.p0, .flt c.p1], .one (.lp 5 0), .agg [.flt c.w0, .flt c.w1], .one (.lp 6 0), .agg [.flt 0, .flt 0, .flt 0, .flt 0, .flt 0], .one (.sl c.nm), .one (.int .i64 b.1), .one (.flt b.2.1), .one (.flt b.2.2)]
def s20 (σ : St) (K : XE → St → Prop) : Prop :=
  match getLVs σ (vl20 .n) with
  | some [.one (.sl l), .one (.lp 4 0), .agg [.flt p0, .flt p1], .one (.lp 5 0), .agg [.flt w0, .flt w1], .one (.lp 6 0), .agg [.flt h0, .flt h1, .flt h2, .flt h3, .flt h4], .one (.sl nm), .one (.int .i64 sd), .one (.flt tt), .one (.flt en), .one (.sl nm'), .one (.int .i64 n), .one (.int .i64 0)] =>
    ((h0 = 0 ∧ h1 = 0 ∧ h2 = 0 ∧ h3 = 0 ∧ h4 = 0) ∧ nm' = nm ∧ n = nm.length ∧ nm.length ≤ l.length ∧ l.length ≤ 8796093022208) ∧
    (bif (polyLoop l nm p0 p1 w0 w1 (sd, tt, en)).isNone then K .r ⟨[(6, .av (.one (.lp 6 0))), (7, .av (.one (.bool false))), (8, .av (.one (.int .i64 0)))], [(6, .cells [.flt 0, .flt 0, .flt 0, .flt 0, .flt 0])]⟩
      else K (.x 0) ⟨[(4, .av (.one (.lp 4 0))), (5, .av (.one (.lp 5 0))), (6, .av (.one (.lp 6 0))), (9, .av (.one (.sl nm))), (14, .av (.one (.int .i64 ((polyLoop l nm p0 p1 w0 w1 (sd, tt, en)).getD (0, 0, 0)).1))), (15, .av (.one (.flt ((polyLoop l nm p0 p1 w0 w1 (sd, tt, en)).getD (0, 0, 0)).2.1))), (16, .av (.one (.flt ((polyLoop l nm p0 p1 w0 w1 (sd, tt, en)).getD (0, 0, 0)).2.2)))],
        [(4, .cells [.flt p0, .flt p1]), (5, .cells [.flt w0, .flt w1]), (6, .cells [.flt 0, .flt 0, .flt 0, .flt 0, .flt 0])]⟩)
  | _ => False
theorem lo20 : LoopOk Pr (tb 117 [(13, e13), (19, e19), (55, e55), (56, e56), (57, e57), (58, e58), (59, e59), (60, e60)] [] []) b20 s20 := by
  refine foldO_ok (tb_ok (fnCons c13 (fnCons c19 (fnCons c55 (fnCons c56 (fnCons c57 (fnCons c58 (fnCons c59 (fnCons c60 (fnNil _))))))))) (fnBNil _)) (vl := vl20) (Ctx := Cx20) (B := Int × Nat × Nat)
    (enc := fun c i b => [.one (.sl c.l), .one (.lp 4 0), .agg [.flt c.p0, .flt c.p1], .one (.lp 5 0), .agg [.flt c.w0, .flt c.w1], .one (.lp 6 0), .agg [.flt 0, .flt 0, .flt 0, .flt 0, .flt 0], .one (.sl c.nm), .one (.int .i64 b.1), .one (.flt b.2.1), .one (.flt b.2.2), .one (.sl c.nm), .one (.int .i64 c.nm.length), .one (.int .i64 i)])
    (N := fun c => c.nm.length) (f := fun c i b => polyStep c.l c.nm c.p0 c.p1 c.w0 c.w1 i b) (xd := 0) (done := dn20) (bad := fun _ => [.one (.lp 6 0), .agg [.flt 0, .flt 0, .flt 0, .flt 0, .flt 0], .one (.bool false), .one (.int .i64 0)])
    (pre := fun c => c.nm.length ≤ c.l.length ∧ c.l.length ≤ 8796093022208) (noLoops (by kernel_rfl)) ?_ ?_ ?_
  · intro σ K h
    unfold s20 at h
    split at h
    · rename_i l p0 p1 w0 w1 h0 h1 h2 h3 h4 nm sd tt en nm' n hg
      obtain ⟨⟨⟨rfl, rfl, rfl, rfl, rfl⟩, rfl, rfl, hn, hl⟩, h⟩ := h
      refine ⟨⟨l, nm', p0, p1, w0, w1⟩, 0, (sd, tt, en), ⟨hn, hl⟩, Nat.zero_le _, hg, ?_⟩
      unfold endO
      rw [Nat.sub_zero]
      change (bif (foldO (polyStep l nm' p0 p1 w0 w1) 0 nm'.length (sd, tt, en)).isNone then _ else _ : Prop) at h
      unfold polyLoop at h
      cases hf : foldO (polyStep l nm' p0 p1 w0 w1) 0 nm'.length (sd, tt, en) with
      | none => rw [hf] at h; exact h
      | some b => rw [hf] at h; exact h
    · exact h.elim
  · intro c i b h
    exact ⟨rfl, rfl, rfl⟩
  · rintro ⟨l, nm, p0, p1, w0, w1⟩ i ⟨sd, tt, en⟩ hpre hk hb
    obtain ⟨hn, hl⟩ := hpre
    dsimp only at hn hl hk
    apply t20
    rw [dlt, inRange_nat, inRange_nat, Int.toNat_natCast]
    by_cases hi : i < nm.length
    · have hw : IntKind.i64.wrap ((i : Int) + 1) = ((i + 1 : Nat) : Int) := wrap_succ (by omega)
      have hil : i < l.length := by omega
      rw [hw, decide_eq_true hi, decide_eq_true hil]
      simp only [polyStep]
      generalize vec_Dot (gp nm i).1 (gp nm i).2 (vec_Sub_0 p0 p1 (gp l i).1 (gp l i).2) (vec_Sub_1 p0 p1 (gp l i).1 (gp l i).2) = F
      generalize vec_Dot (gp nm i).1 (gp nm i).2 w0 w1 = G
      cases fEq G 0 <;> cases fGt F 0 <;> cases fLt G 0 <;> cases fGt (fdiv (fneg F) G) tt <;> cases fGt G 0 <;> rfl
    · rw [decide_eq_false hi]; rfl
theorem poly_Normals_len (a : List (Nat × Nat)) : (poly_Normals a).length ≤ a.length := by
  unfold poly_Normals
  cases bne (poly_Check a) (0 : Int)
  · rw [cond_false]; unfold normalsF; rw [fillN_len]; simp
  · simp

end Go.Proofs.Ythopjahoaljhaaa.X

/-! ## Contracts of functions of the program, laid out by a program of mine (gen.py): what each gives, as a function of its arguments; floats up to the bits of a NaN. -/
set_option linter.unusedVariables false
set_option linter.unusedSimpArgs false
set_option maxRecDepth 100000
namespace Go.Proofs.Ythopjahoaljhaaa.X
open Go Go.RowKit
noncomputable section

theorem polyStep_side {l nm : List (Nat × Nat)} {p0 p1 w0 w1 i : Nat} {b b' : Int × Nat × Nat} (h : polyStep l nm p0 p1 w0 w1 i b = some b') : b'.1 = b.1 ∨ b'.1 = (i : Int) := by
  unfold polyStep at h
  revert h
  generalize (fEq (vec_Dot (gp nm i).1 (gp nm i).2 w0 w1) 0 && fGt (vec_Dot (gp nm i).1 (gp nm i).2 (vec_Sub_0 p0 p1 (gp l i).1 (gp l i).2) (vec_Sub_1 p0 p1 (gp l i).1 (gp l i).2)) 0) = A
  generalize (fLt (vec_Dot (gp nm i).1 (gp nm i).2 w0 w1) 0 && fGt (fdiv (fneg (vec_Dot (gp nm i).1 (gp nm i).2 (vec_Sub_0 p0 p1 (gp l i).1 (gp l i).2) (vec_Sub_1 p0 p1 (gp l i).1 (gp l i).2))) (vec_Dot (gp nm i).1 (gp nm i).2 w0 w1)) b.2.1) = B
  generalize fGt (vec_Dot (gp nm i).1 (gp nm i).2 w0 w1) 0 = C
  intro h
  cases A
  · cases B
    · cases C
      · cases h; exact .inl rfl
      · cases h; exact .inl rfl
    · cases h; exact .inr rfl
  · cases h
theorem polyFold_side {l nm : List (Nat × Nat)} {p0 p1 w0 w1 : Nat} : ∀ (n i : Nat) (b b' : Int × Nat × Nat), i + n = nm.length → (b.1 = -1 ∨ (0 ≤ b.1 ∧ b.1 < (i : Int))) → foldO (polyStep l nm p0 p1 w0 w1) i n b = some b' → b'.1 = -1 ∨ (0 ≤ b'.1 ∧ b'.1 < (nm.length : Int)) := by
  intro n
  induction n with
  | zero =>
    intro i b b' hi hb h
    cases h
    rcases hb with hb | hb
    · exact .inl hb
    · exact .inr (by omega)
  | succ n ih =>
    intro i b b' hi hb h
    unfold foldO at h
    cases hs : polyStep l nm p0 p1 w0 w1 i b with
    | none => rw [hs] at h; cases h
    | some c =>
      rw [hs] at h
      refine ih (i + 1) c b' (by omega) ?_ h
      rcases polyStep_side hs with h1 | h1
      · rcases hb with hb | hb
        · exact .inl (by omega)
        · exact .inr (by omega)
      · exact .inr (by omega)
theorem polyClose {l nm : List (Nat × Nat)} {p0 p1 w0 w1 t e : Nat} (h4 : (polyLoop l nm p0 p1 w0 w1 (-1, t, e)).isNone = false) (h5 : decide (((polyLoop l nm p0 p1 w0 w1 (-1, t, e)).getD (0, 0, 0)).1 < 0) = false) (h8 : inRange ((polyLoop l nm p0 p1 w0 w1 (-1, t, e)).getD (0, 0, 0)).1 nm.length = false) : False := by
  cases hp : polyLoop l nm p0 p1 w0 w1 (-1, t, e) with
  | none => rw [hp] at h4; cases h4
  | some b =>
    rw [hp] at h5 h8
    have := polyFold_side nm.length 0 (-1, t, e) b (by omega) (.inl rfl) hp
    simp only [Option.getD_some, decide_eq_false_iff_not] at h5
    have hr : inRange b.1 nm.length = true := by
      unfold inRange
      rw [Bool.and_eq_true, decide_eq_true_iff, decide_eq_true_iff]
      omega
    simp only [Option.getD_some] at h8
    rw [hr] at h8; cases h8
/-- tumble/ray.Polygon -/
def ray_Polygon_0 (a : List (Nat × Nat)) (b0 : Nat) (b1 : Nat) (c0 : Nat) (c1 : Nat) : Nat := cond (bne (poly_Check a) (0 : Int)) ((0 : Nat)) (cond (bne (ray_asked b0 b1 c0 c1) (0 : Int)) ((0 : Nat)) (cond (poly_Has_0 a b0 b1) (b0) (cond (Option.isNone (polyLoop a (poly_Normals a) b0 b1 c0 c1 (Prod.mk (-1 : Int) (Prod.mk (math_Inf (-1 : Int)) (math_Inf (1 : Int)))))) ((0 : Nat)) (cond (Decidable.decide (LT.lt (Prod.fst (Option.getD (polyLoop a (poly_Normals a) b0 b1 c0 c1 (Prod.mk (-1 : Int) (Prod.mk (math_Inf (-1 : Int)) (math_Inf (1 : Int))))) (Prod.mk (0 : Int) (Prod.mk (0 : Nat) (0 : Nat))))) (0 : Int))) ((0 : Nat)) (cond (ray_part (Prod.fst (Prod.snd (Option.getD (polyLoop a (poly_Normals a) b0 b1 c0 c1 (Prod.mk (-1 : Int) (Prod.mk (math_Inf (-1 : Int)) (math_Inf (1 : Int))))) (Prod.mk (0 : Int) (Prod.mk (0 : Nat) (0 : Nat))))))) (cond (fGt (Prod.fst (Prod.snd (Option.getD (polyLoop a (poly_Normals a) b0 b1 c0 c1 (Prod.mk (-1 : Int) (Prod.mk (math_Inf (-1 : Int)) (math_Inf (1 : Int))))) (Prod.mk (0 : Int) (Prod.mk (0 : Nat) (0 : Nat)))))) (Prod.snd (Prod.snd (Option.getD (polyLoop a (poly_Normals a) b0 b1 c0 c1 (Prod.mk (-1 : Int) (Prod.mk (math_Inf (-1 : Int)) (math_Inf (1 : Int))))) (Prod.mk (0 : Int) (Prod.mk (0 : Nat) (0 : Nat))))))) ((0 : Nat)) (ray_hit_0 b0 b1 c0 c1 (Prod.fst (Prod.snd (Option.getD (polyLoop a (poly_Normals a) b0 b1 c0 c1 (Prod.mk (-1 : Int) (Prod.mk (math_Inf (-1 : Int)) (math_Inf (1 : Int))))) (Prod.mk (0 : Int) (Prod.mk (0 : Nat) (0 : Nat)))))) (Prod.fst (gp (poly_Normals a) (Int.toNat (Prod.fst (Option.getD (polyLoop a (poly_Normals a) b0 b1 c0 c1 (Prod.mk (-1 : Int) (Prod.mk (math_Inf (-1 : Int)) (math_Inf (1 : Int))))) (Prod.mk (0 : Int) (Prod.mk (0 : Nat) (0 : Nat)))))))) (Prod.snd (gp (poly_Normals a) (Int.toNat (Prod.fst (Option.getD (polyLoop a (poly_Normals a) b0 b1 c0 c1 (Prod.mk (-1 : Int) (Prod.mk (math_Inf (-1 : Int)) (math_Inf (1 : Int))))) (Prod.mk (0 : Int) (Prod.mk (0 : Nat) (0 : Nat)))))))))) ((0 : Nat)))))))
def ray_Polygon_1 (a : List (Nat × Nat)) (b0 : Nat) (b1 : Nat) (c0 : Nat) (c1 : Nat) : Nat := cond (bne (poly_Check a) (0 : Int)) ((0 : Nat)) (cond (bne (ray_asked b0 b1 c0 c1) (0 : Int)) ((0 : Nat)) (cond (poly_Has_0 a b0 b1) (b1) (cond (Option.isNone (polyLoop a (poly_Normals a) b0 b1 c0 c1 (Prod.mk (-1 : Int) (Prod.mk (math_Inf (-1 : Int)) (math_Inf (1 : Int)))))) ((0 : Nat)) (cond (Decidable.decide (LT.lt (Prod.fst (Option.getD (polyLoop a (poly_Normals a) b0 b1 c0 c1 (Prod.mk (-1 : Int) (Prod.mk (math_Inf (-1 : Int)) (math_Inf (1 : Int))))) (Prod.mk (0 : Int) (Prod.mk (0 : Nat) (0 : Nat))))) (0 : Int))) ((0 : Nat)) (cond (ray_part (Prod.fst (Prod.snd (Option.getD (polyLoop a (poly_Normals a) b0 b1 c0 c1 (Prod.mk (-1 : Int) (Prod.mk (math_Inf (-1 : Int)) (math_Inf (1 : Int))))) (Prod.mk (0 : Int) (Prod.mk (0 : Nat) (0 : Nat))))))) (cond (fGt (Prod.fst (Prod.snd (Option.getD (polyLoop a (poly_Normals a) b0 b1 c0 c1 (Prod.mk (-1 : Int) (Prod.mk (math_Inf (-1 : Int)) (math_Inf (1 : Int))))) (Prod.mk (0 : Int) (Prod.mk (0 : Nat) (0 : Nat)))))) (Prod.snd (Prod.snd (Option.getD (polyLoop a (poly_Normals a) b0 b1 c0 c1 (Prod.mk (-1 : Int) (Prod.mk (math_Inf (-1 : Int)) (math_Inf (1 : Int))))) (Prod.mk (0 : Int) (Prod.mk (0 : Nat) (0 : Nat))))))) ((0 : Nat)) (ray_hit_1 b0 b1 c0 c1 (Prod.fst (Prod.snd (Option.getD (polyLoop a (poly_Normals a) b0 b1 c0 c1 (Prod.mk (-1 : Int) (Prod.mk (math_Inf (-1 : Int)) (math_Inf (1 : Int))))) (Prod.mk (0 : Int) (Prod.mk (0 : Nat) (0 : Nat)))))) (Prod.fst (gp (poly_Normals a) (Int.toNat (Prod.fst (Option.getD (polyLoop a (poly_Normals a) b0 b1 c0 c1 (Prod.mk (-1 : Int) (Prod.mk (math_Inf (-1 : Int)) (math_Inf (1 : Int))))) (Prod.mk (0 : Int) (Prod.mk (0 : Nat) (0 : Nat)))))))) (Prod.snd (gp (poly_Normals a) (Int.toNat (Prod.fst (Option.getD (polyLoop a (poly_Normals a) b0 b1 c0 c1 (Prod.mk (-1 : Int) (Prod.mk (math_Inf (-1 : Int)) (math_Inf (1 : Int))))) (Prod.mk (0 : Int) (Prod.mk (0 : Nat) (0 : Nat)))))))))) ((0 : Nat)))))))
def ray_Polygon_2 (a : List (Nat × Nat)) (b0 : Nat) (b1 : Nat) (c0 : Nat) (c1 : Nat) : Nat := cond (bne (poly_Check a) (0 : Int)) ((0 : Nat)) (cond (bne (ray_asked b0 b1 c0 c1) (0 : Int)) ((0 : Nat)) (cond (poly_Has_0 a b0 b1) ((0 : Nat)) (cond (Option.isNone (polyLoop a (poly_Normals a) b0 b1 c0 c1 (Prod.mk (-1 : Int) (Prod.mk (math_Inf (-1 : Int)) (math_Inf (1 : Int)))))) ((0 : Nat)) (cond (Decidable.decide (LT.lt (Prod.fst (Option.getD (polyLoop a (poly_Normals a) b0 b1 c0 c1 (Prod.mk (-1 : Int) (Prod.mk (math_Inf (-1 : Int)) (math_Inf (1 : Int))))) (Prod.mk (0 : Int) (Prod.mk (0 : Nat) (0 : Nat))))) (0 : Int))) ((0 : Nat)) (cond (ray_part (Prod.fst (Prod.snd (Option.getD (polyLoop a (poly_Normals a) b0 b1 c0 c1 (Prod.mk (-1 : Int) (Prod.mk (math_Inf (-1 : Int)) (math_Inf (1 : Int))))) (Prod.mk (0 : Int) (Prod.mk (0 : Nat) (0 : Nat))))))) (cond (fGt (Prod.fst (Prod.snd (Option.getD (polyLoop a (poly_Normals a) b0 b1 c0 c1 (Prod.mk (-1 : Int) (Prod.mk (math_Inf (-1 : Int)) (math_Inf (1 : Int))))) (Prod.mk (0 : Int) (Prod.mk (0 : Nat) (0 : Nat)))))) (Prod.snd (Prod.snd (Option.getD (polyLoop a (poly_Normals a) b0 b1 c0 c1 (Prod.mk (-1 : Int) (Prod.mk (math_Inf (-1 : Int)) (math_Inf (1 : Int))))) (Prod.mk (0 : Int) (Prod.mk (0 : Nat) (0 : Nat))))))) ((0 : Nat)) (Prod.fst (gp (poly_Normals a) (Int.toNat (Prod.fst (Option.getD (polyLoop a (poly_Normals a) b0 b1 c0 c1 (Prod.mk (-1 : Int) (Prod.mk (math_Inf (-1 : Int)) (math_Inf (1 : Int))))) (Prod.mk (0 : Int) (Prod.mk (0 : Nat) (0 : Nat))))))))) ((0 : Nat)))))))
def ray_Polygon_3 (a : List (Nat × Nat)) (b0 : Nat) (b1 : Nat) (c0 : Nat) (c1 : Nat) : Nat := cond (bne (poly_Check a) (0 : Int)) ((0 : Nat)) (cond (bne (ray_asked b0 b1 c0 c1) (0 : Int)) ((0 : Nat)) (cond (poly_Has_0 a b0 b1) ((0 : Nat)) (cond (Option.isNone (polyLoop a (poly_Normals a) b0 b1 c0 c1 (Prod.mk (-1 : Int) (Prod.mk (math_Inf (-1 : Int)) (math_Inf (1 : Int)))))) ((0 : Nat)) (cond (Decidable.decide (LT.lt (Prod.fst (Option.getD (polyLoop a (poly_Normals a) b0 b1 c0 c1 (Prod.mk (-1 : Int) (Prod.mk (math_Inf (-1 : Int)) (math_Inf (1 : Int))))) (Prod.mk (0 : Int) (Prod.mk (0 : Nat) (0 : Nat))))) (0 : Int))) ((0 : Nat)) (cond (ray_part (Prod.fst (Prod.snd (Option.getD (polyLoop a (poly_Normals a) b0 b1 c0 c1 (Prod.mk (-1 : Int) (Prod.mk (math_Inf (-1 : Int)) (math_Inf (1 : Int))))) (Prod.mk (0 : Int) (Prod.mk (0 : Nat) (0 : Nat))))))) (cond (fGt (Prod.fst (Prod.snd (Option.getD (polyLoop a (poly_Normals a) b0 b1 c0 c1 (Prod.mk (-1 : Int) (Prod.mk (math_Inf (-1 : Int)) (math_Inf (1 : Int))))) (Prod.mk (0 : Int) (Prod.mk (0 : Nat) (0 : Nat)))))) (Prod.snd (Prod.snd (Option.getD (polyLoop a (poly_Normals a) b0 b1 c0 c1 (Prod.mk (-1 : Int) (Prod.mk (math_Inf (-1 : Int)) (math_Inf (1 : Int))))) (Prod.mk (0 : Int) (Prod.mk (0 : Nat) (0 : Nat))))))) ((0 : Nat)) (Prod.snd (gp (poly_Normals a) (Int.toNat (Prod.fst (Option.getD (polyLoop a (poly_Normals a) b0 b1 c0 c1 (Prod.mk (-1 : Int) (Prod.mk (math_Inf (-1 : Int)) (math_Inf (1 : Int))))) (Prod.mk (0 : Int) (Prod.mk (0 : Nat) (0 : Nat))))))))) ((0 : Nat)))))))
def ray_Polygon_4 (a : List (Nat × Nat)) (b0 : Nat) (b1 : Nat) (c0 : Nat) (c1 : Nat) : Nat := cond (bne (poly_Check a) (0 : Int)) ((0 : Nat)) (cond (bne (ray_asked b0 b1 c0 c1) (0 : Int)) ((0 : Nat)) (cond (poly_Has_0 a b0 b1) ((0 : Nat)) (cond (Option.isNone (polyLoop a (poly_Normals a) b0 b1 c0 c1 (Prod.mk (-1 : Int) (Prod.mk (math_Inf (-1 : Int)) (math_Inf (1 : Int)))))) ((0 : Nat)) (cond (Decidable.decide (LT.lt (Prod.fst (Option.getD (polyLoop a (poly_Normals a) b0 b1 c0 c1 (Prod.mk (-1 : Int) (Prod.mk (math_Inf (-1 : Int)) (math_Inf (1 : Int))))) (Prod.mk (0 : Int) (Prod.mk (0 : Nat) (0 : Nat))))) (0 : Int))) ((0 : Nat)) (cond (ray_part (Prod.fst (Prod.snd (Option.getD (polyLoop a (poly_Normals a) b0 b1 c0 c1 (Prod.mk (-1 : Int) (Prod.mk (math_Inf (-1 : Int)) (math_Inf (1 : Int))))) (Prod.mk (0 : Int) (Prod.mk (0 : Nat) (0 : Nat))))))) (cond (fGt (Prod.fst (Prod.snd (Option.getD (polyLoop a (poly_Normals a) b0 b1 c0 c1 (Prod.mk (-1 : Int) (Prod.mk (math_Inf (-1 : Int)) (math_Inf (1 : Int))))) (Prod.mk (0 : Int) (Prod.mk (0 : Nat) (0 : Nat)))))) (Prod.snd (Prod.snd (Option.getD (polyLoop a (poly_Normals a) b0 b1 c0 c1 (Prod.mk (-1 : Int) (Prod.mk (math_Inf (-1 : Int)) (math_Inf (1 : Int))))) (Prod.mk (0 : Int) (Prod.mk (0 : Nat) (0 : Nat))))))) ((0 : Nat)) (Prod.fst (Prod.snd (Option.getD (polyLoop a (poly_Normals a) b0 b1 c0 c1 (Prod.mk (-1 : Int) (Prod.mk (math_Inf (-1 : Int)) (math_Inf (1 : Int))))) (Prod.mk (0 : Int) (Prod.mk (0 : Nat) (0 : Nat))))))) ((0 : Nat)))))))
def ray_Polygon_5 (a : List (Nat × Nat)) (b0 : Nat) (b1 : Nat) (c0 : Nat) (c1 : Nat) : Bool := cond (bne (poly_Check a) (0 : Int)) (Bool.false) (cond (bne (ray_asked b0 b1 c0 c1) (0 : Int)) (Bool.false) (((poly_Has_0 a b0 b1) || cond (Option.isNone (polyLoop a (poly_Normals a) b0 b1 c0 c1 (Prod.mk (-1 : Int) (Prod.mk (math_Inf (-1 : Int)) (math_Inf (1 : Int)))))) (Bool.false) (cond (Decidable.decide (LT.lt (Prod.fst (Option.getD (polyLoop a (poly_Normals a) b0 b1 c0 c1 (Prod.mk (-1 : Int) (Prod.mk (math_Inf (-1 : Int)) (math_Inf (1 : Int))))) (Prod.mk (0 : Int) (Prod.mk (0 : Nat) (0 : Nat))))) (0 : Int))) (Bool.false) (((ray_part (Prod.fst (Prod.snd (Option.getD (polyLoop a (poly_Normals a) b0 b1 c0 c1 (Prod.mk (-1 : Int) (Prod.mk (math_Inf (-1 : Int)) (math_Inf (1 : Int))))) (Prod.mk (0 : Int) (Prod.mk (0 : Nat) (0 : Nat))))))) && (!(fGt (Prod.fst (Prod.snd (Option.getD (polyLoop a (poly_Normals a) b0 b1 c0 c1 (Prod.mk (-1 : Int) (Prod.mk (math_Inf (-1 : Int)) (math_Inf (1 : Int))))) (Prod.mk (0 : Int) (Prod.mk (0 : Nat) (0 : Nat)))))) (Prod.snd (Prod.snd (Option.getD (polyLoop a (poly_Normals a) b0 b1 c0 c1 (Prod.mk (-1 : Int) (Prod.mk (math_Inf (-1 : Int)) (math_Inf (1 : Int))))) (Prod.mk (0 : Int) (Prod.mk (0 : Nat) (0 : Nat))))))))))))))
def ray_Polygon_6 (a : List (Nat × Nat)) (b0 : Nat) (b1 : Nat) (c0 : Nat) (c1 : Nat) : Int := cond (bne (poly_Check a) (0 : Int)) (poly_Check a) (cond (bne (ray_asked b0 b1 c0 c1) (0 : Int)) (ray_asked b0 b1 c0 c1) ((0 : Int)))
def d20 : List AT → Option AT
  | [.av (.one (.sl a)), .av (.agg [.flt b0, .flt b1]), .av (.agg [.flt c0, .flt c1])] => some (.tup [(.agg [(.flt (ray_Polygon_0 a b0 b1 c0 c1)), (.flt (ray_Polygon_1 a b0 b1 c0 c1)), (.flt (ray_Polygon_2 a b0 b1 c0 c1)), (.flt (ray_Polygon_3 a b0 b1 c0 c1)), (.flt (ray_Polygon_4 a b0 b1 c0 c1))]), (.one (.bool (ray_Polygon_5 a b0 b1 c0 c1))), (.one (.int .i64 (ray_Polygon_6 a b0 b1 c0 c1)))])
  | _ => none
def e20 : Ent := .of d20
theorem c20 : CallOk Pr 20 e20 := by
  refine callOk_autoL (T := tb 117 [(13, e13), (19, e19), (55, e55), (56, e56), (57, e57), (58, e58), (59, e59), (60, e60)] [] [(12, s20)]) (tb_ok (fnCons c13 (fnCons c19 (fnCons c55 (fnCons c56 (fnCons c57 (fnCons c58 (fnCons c59 (fnCons c60 (fnNil _))))))))) (fnBNil _)) Try.func20 rfl (by decide) rfl (loops1 (by kernel_rfl) rfl lo20) (Ent.of_k d20) ?_
  intro l r h hb
  change d20 l = some r at h
  unfold d20 at h
  split at h
  · rename_i a b0 b1 c0 c1
    cases h
    refine ⟨rfl, rfl, by_kernel (q := cond (bne (poly_Check a) (0 : Int)) (AT.tup [(.agg [(.flt ((0 : Nat))), (.flt ((0 : Nat))), (.flt ((0 : Nat))), (.flt ((0 : Nat))), (.flt ((0 : Nat)))]), (.one (.bool Bool.false)), (.one (.int .i64 (poly_Check a)))] = (.tup [(.agg [(.flt (ray_Polygon_0 a b0 b1 c0 c1)), (.flt (ray_Polygon_1 a b0 b1 c0 c1)), (.flt (ray_Polygon_2 a b0 b1 c0 c1)), (.flt (ray_Polygon_3 a b0 b1 c0 c1)), (.flt (ray_Polygon_4 a b0 b1 c0 c1))]), (.one (.bool (ray_Polygon_5 a b0 b1 c0 c1))), (.one (.int .i64 (ray_Polygon_6 a b0 b1 c0 c1)))])) (cond (bne (ray_asked b0 b1 c0 c1) (0 : Int)) (AT.tup [(.agg [(.flt ((0 : Nat))), (.flt ((0 : Nat))), (.flt ((0 : Nat))), (.flt ((0 : Nat))), (.flt ((0 : Nat)))]), (.one (.bool Bool.false)), (.one (.int .i64 (ray_asked b0 b1 c0 c1)))] = (.tup [(.agg [(.flt (ray_Polygon_0 a b0 b1 c0 c1)), (.flt (ray_Polygon_1 a b0 b1 c0 c1)), (.flt (ray_Polygon_2 a b0 b1 c0 c1)), (.flt (ray_Polygon_3 a b0 b1 c0 c1)), (.flt (ray_Polygon_4 a b0 b1 c0 c1))]), (.one (.bool (ray_Polygon_5 a b0 b1 c0 c1))), (.one (.int .i64 (ray_Polygon_6 a b0 b1 c0 c1)))])) (cond (poly_Has_0 a b0 b1) (AT.tup [(.agg [(.flt b0), (.flt b1), (.flt ((0 : Nat))), (.flt ((0 : Nat))), (.flt ((0 : Nat)))]), (.one (.bool Bool.true)), (.one (.int .i64 ((0 : Int))))] = (.tup [(.agg [(.flt (ray_Polygon_0 a b0 b1 c0 c1)), (.flt (ray_Polygon_1 a b0 b1 c0 c1)), (.flt (ray_Polygon_2 a b0 b1 c0 c1)), (.flt (ray_Polygon_3 a b0 b1 c0 c1)), (.flt (ray_Polygon_4 a b0 b1 c0 c1))]), (.one (.bool (ray_Polygon_5 a b0 b1 c0 c1))), (.one (.int .i64 (ray_Polygon_6 a b0 b1 c0 c1)))])) (And (And (And (Eq (0 : Nat) (0 : Nat)) (And (Eq (0 : Nat) (0 : Nat)) (And (Eq (0 : Nat) (0 : Nat)) (And (Eq (0 : Nat) (0 : Nat)) (Eq (0 : Nat) (0 : Nat)))))) (And (Eq (poly_Normals a) (poly_Normals a)) (And (Eq (Nat.cast (List.length (poly_Normals a)) : Int) (Nat.cast (List.length (poly_Normals a)) : Int)) (And (LE.le (List.length (poly_Normals a)) (List.length a)) (LE.le (List.length a) (8796093022208 : Nat)))))) (cond (Option.isNone (polyLoop a (poly_Normals a) b0 b1 c0 c1 (Prod.mk (-1 : Int) (Prod.mk (math_Inf (-1 : Int)) (math_Inf (1 : Int)))))) (AT.tup [(.agg [(.flt ((0 : Nat))), (.flt ((0 : Nat))), (.flt ((0 : Nat))), (.flt ((0 : Nat))), (.flt ((0 : Nat)))]), (.one (.bool Bool.false)), (.one (.int .i64 ((0 : Int))))] = (.tup [(.agg [(.flt (ray_Polygon_0 a b0 b1 c0 c1)), (.flt (ray_Polygon_1 a b0 b1 c0 c1)), (.flt (ray_Polygon_2 a b0 b1 c0 c1)), (.flt (ray_Polygon_3 a b0 b1 c0 c1)), (.flt (ray_Polygon_4 a b0 b1 c0 c1))]), (.one (.bool (ray_Polygon_5 a b0 b1 c0 c1))), (.one (.int .i64 (ray_Polygon_6 a b0 b1 c0 c1)))])) (cond (Decidable.decide (LT.lt (Prod.fst (Option.getD (polyLoop a (poly_Normals a) b0 b1 c0 c1 (Prod.mk (-1 : Int) (Prod.mk (math_Inf (-1 : Int)) (math_Inf (1 : Int))))) (Prod.mk (0 : Int) (Prod.mk (0 : Nat) (0 : Nat))))) (0 : Int))) (AT.tup [(.agg [(.flt ((0 : Nat))), (.flt ((0 : Nat))), (.flt ((0 : Nat))), (.flt ((0 : Nat))), (.flt ((0 : Nat)))]), (.one (.bool Bool.false)), (.one (.int .i64 ((0 : Int))))] = (.tup [(.agg [(.flt (ray_Polygon_0 a b0 b1 c0 c1)), (.flt (ray_Polygon_1 a b0 b1 c0 c1)), (.flt (ray_Polygon_2 a b0 b1 c0 c1)), (.flt (ray_Polygon_3 a b0 b1 c0 c1)), (.flt (ray_Polygon_4 a b0 b1 c0 c1))]), (.one (.bool (ray_Polygon_5 a b0 b1 c0 c1))), (.one (.int .i64 (ray_Polygon_6 a b0 b1 c0 c1)))])) (cond (ray_part (Prod.fst (Prod.snd (Option.getD (polyLoop a (poly_Normals a) b0 b1 c0 c1 (Prod.mk (-1 : Int) (Prod.mk (math_Inf (-1 : Int)) (math_Inf (1 : Int))))) (Prod.mk (0 : Int) (Prod.mk (0 : Nat) (0 : Nat))))))) (cond (fGt (Prod.fst (Prod.snd (Option.getD (polyLoop a (poly_Normals a) b0 b1 c0 c1 (Prod.mk (-1 : Int) (Prod.mk (math_Inf (-1 : Int)) (math_Inf (1 : Int))))) (Prod.mk (0 : Int) (Prod.mk (0 : Nat) (0 : Nat)))))) (Prod.snd (Prod.snd (Option.getD (polyLoop a (poly_Normals a) b0 b1 c0 c1 (Prod.mk (-1 : Int) (Prod.mk (math_Inf (-1 : Int)) (math_Inf (1 : Int))))) (Prod.mk (0 : Int) (Prod.mk (0 : Nat) (0 : Nat))))))) (AT.tup [(.agg [(.flt ((0 : Nat))), (.flt ((0 : Nat))), (.flt ((0 : Nat))), (.flt ((0 : Nat))), (.flt ((0 : Nat)))]), (.one (.bool Bool.false)), (.one (.int .i64 ((0 : Int))))] = (.tup [(.agg [(.flt (ray_Polygon_0 a b0 b1 c0 c1)), (.flt (ray_Polygon_1 a b0 b1 c0 c1)), (.flt (ray_Polygon_2 a b0 b1 c0 c1)), (.flt (ray_Polygon_3 a b0 b1 c0 c1)), (.flt (ray_Polygon_4 a b0 b1 c0 c1))]), (.one (.bool (ray_Polygon_5 a b0 b1 c0 c1))), (.one (.int .i64 (ray_Polygon_6 a b0 b1 c0 c1)))])) (cond (inRange (Prod.fst (Option.getD (polyLoop a (poly_Normals a) b0 b1 c0 c1 (Prod.mk (-1 : Int) (Prod.mk (math_Inf (-1 : Int)) (math_Inf (1 : Int))))) (Prod.mk (0 : Int) (Prod.mk (0 : Nat) (0 : Nat))))) (List.length (poly_Normals a))) (AT.tup [(.agg [(.flt (ray_hit_0 b0 b1 c0 c1 (Prod.fst (Prod.snd (Option.getD (polyLoop a (poly_Normals a) b0 b1 c0 c1 (Prod.mk (-1 : Int) (Prod.mk (math_Inf (-1 : Int)) (math_Inf (1 : Int))))) (Prod.mk (0 : Int) (Prod.mk (0 : Nat) (0 : Nat)))))) (Prod.fst (gp (poly_Normals a) (Int.toNat (Prod.fst (Option.getD (polyLoop a (poly_Normals a) b0 b1 c0 c1 (Prod.mk (-1 : Int) (Prod.mk (math_Inf (-1 : Int)) (math_Inf (1 : Int))))) (Prod.mk (0 : Int) (Prod.mk (0 : Nat) (0 : Nat)))))))) (Prod.snd (gp (poly_Normals a) (Int.toNat (Prod.fst (Option.getD (polyLoop a (poly_Normals a) b0 b1 c0 c1 (Prod.mk (-1 : Int) (Prod.mk (math_Inf (-1 : Int)) (math_Inf (1 : Int))))) (Prod.mk (0 : Int) (Prod.mk (0 : Nat) (0 : Nat)))))))))), (.flt (ray_hit_1 b0 b1 c0 c1 (Prod.fst (Prod.snd (Option.getD (polyLoop a (poly_Normals a) b0 b1 c0 c1 (Prod.mk (-1 : Int) (Prod.mk (math_Inf (-1 : Int)) (math_Inf (1 : Int))))) (Prod.mk (0 : Int) (Prod.mk (0 : Nat) (0 : Nat)))))) (Prod.fst (gp (poly_Normals a) (Int.toNat (Prod.fst (Option.getD (polyLoop a (poly_Normals a) b0 b1 c0 c1 (Prod.mk (-1 : Int) (Prod.mk (math_Inf (-1 : Int)) (math_Inf (1 : Int))))) (Prod.mk (0 : Int) (Prod.mk (0 : Nat) (0 : Nat)))))))) (Prod.snd (gp (poly_Normals a) (Int.toNat (Prod.fst (Option.getD (polyLoop a (poly_Normals a) b0 b1 c0 c1 (Prod.mk (-1 : Int) (Prod.mk (math_Inf (-1 : Int)) (math_Inf (1 : Int))))) (Prod.mk (0 : Int) (Prod.mk (0 : Nat) (0 : Nat)))))))))), (.flt (Prod.fst (gp (poly_Normals a) (Int.toNat (Prod.fst (Option.getD (polyLoop a (poly_Normals a) b0 b1 c0 c1 (Prod.mk (-1 : Int) (Prod.mk (math_Inf (-1 : Int)) (math_Inf (1 : Int))))) (Prod.mk (0 : Int) (Prod.mk (0 : Nat) (0 : Nat))))))))), (.flt (Prod.snd (gp (poly_Normals a) (Int.toNat (Prod.fst (Option.getD (polyLoop a (poly_Normals a) b0 b1 c0 c1 (Prod.mk (-1 : Int) (Prod.mk (math_Inf (-1 : Int)) (math_Inf (1 : Int))))) (Prod.mk (0 : Int) (Prod.mk (0 : Nat) (0 : Nat))))))))), (.flt (Prod.fst (Prod.snd (Option.getD (polyLoop a (poly_Normals a) b0 b1 c0 c1 (Prod.mk (-1 : Int) (Prod.mk (math_Inf (-1 : Int)) (math_Inf (1 : Int))))) (Prod.mk (0 : Int) (Prod.mk (0 : Nat) (0 : Nat)))))))]), (.one (.bool Bool.true)), (.one (.int .i64 ((0 : Int))))] = (.tup [(.agg [(.flt (ray_Polygon_0 a b0 b1 c0 c1)), (.flt (ray_Polygon_1 a b0 b1 c0 c1)), (.flt (ray_Polygon_2 a b0 b1 c0 c1)), (.flt (ray_Polygon_3 a b0 b1 c0 c1)), (.flt (ray_Polygon_4 a b0 b1 c0 c1))]), (.one (.bool (ray_Polygon_5 a b0 b1 c0 c1))), (.one (.int .i64 (ray_Polygon_6 a b0 b1 c0 c1)))])) (False))) (AT.tup [(.agg [(.flt ((0 : Nat))), (.flt ((0 : Nat))), (.flt ((0 : Nat))), (.flt ((0 : Nat))), (.flt ((0 : Nat)))]), (.one (.bool Bool.false)), (.one (.int .i64 ((0 : Int))))] = (.tup [(.agg [(.flt (ray_Polygon_0 a b0 b1 c0 c1)), (.flt (ray_Polygon_1 a b0 b1 c0 c1)), (.flt (ray_Polygon_2 a b0 b1 c0 c1)), (.flt (ray_Polygon_3 a b0 b1 c0 c1)), (.flt (ray_Polygon_4 a b0 b1 c0 c1))]), (.one (.bool (ray_Polygon_5 a b0 b1 c0 c1))), (.one (.int .i64 (ray_Polygon_6 a b0 b1 c0 c1)))]))))))))) (by kernel_rfl) ?_⟩
    unfold ray_Polygon_0 ray_Polygon_1 ray_Polygon_2 ray_Polygon_3 ray_Polygon_4 ray_Polygon_5 ray_Polygon_6
    cases hc1 : (bne (poly_Check a) (0 : Int)) with
    | true =>
        rfl
    | false =>
        cases hc2 : (bne (ray_asked b0 b1 c0 c1) (0 : Int)) with
        | true =>
            rfl
        | false =>
            cases hc3 : (poly_Has_0 a b0 b1) with
            | true =>
                rfl
            | false =>
                refine ⟨?_, ?_⟩
                · exact ⟨⟨rfl, rfl, rfl, rfl, rfl⟩, rfl, rfl, poly_Normals_len _, hb (.av (.one (.sl a))) (by simp)⟩
                cases hc4 : (Option.isNone (polyLoop a (poly_Normals a) b0 b1 c0 c1 (Prod.mk (-1 : Int) (Prod.mk (math_Inf (-1 : Int)) (math_Inf (1 : Int)))))) with
                | true =>
                    rfl
                | false =>
                    cases hc5 : (Decidable.decide (LT.lt (Prod.fst (Option.getD (polyLoop a (poly_Normals a) b0 b1 c0 c1 (Prod.mk (-1 : Int) (Prod.mk (math_Inf (-1 : Int)) (math_Inf (1 : Int))))) (Prod.mk (0 : Int) (Prod.mk (0 : Nat) (0 : Nat))))) (0 : Int))) with
                    | true =>
                        rfl
                    | false =>
                        cases hc6 : (ray_part (Prod.fst (Prod.snd (Option.getD (polyLoop a (poly_Normals a) b0 b1 c0 c1 (Prod.mk (-1 : Int) (Prod.mk (math_Inf (-1 : Int)) (math_Inf (1 : Int))))) (Prod.mk (0 : Int) (Prod.mk (0 : Nat) (0 : Nat))))))) with
                        | true =>
                            cases hc7 : (fGt (Prod.fst (Prod.snd (Option.getD (polyLoop a (poly_Normals a) b0 b1 c0 c1 (Prod.mk (-1 : Int) (Prod.mk (math_Inf (-1 : Int)) (math_Inf (1 : Int))))) (Prod.mk (0 : Int) (Prod.mk (0 : Nat) (0 : Nat)))))) (Prod.snd (Prod.snd (Option.getD (polyLoop a (poly_Normals a) b0 b1 c0 c1 (Prod.mk (-1 : Int) (Prod.mk (math_Inf (-1 : Int)) (math_Inf (1 : Int))))) (Prod.mk (0 : Int) (Prod.mk (0 : Nat) (0 : Nat))))))) with
                            | true =>
                                rfl
                            | false =>
                                cases hc8 : (inRange (Prod.fst (Option.getD (polyLoop a (poly_Normals a) b0 b1 c0 c1 (Prod.mk (-1 : Int) (Prod.mk (math_Inf (-1 : Int)) (math_Inf (1 : Int))))) (Prod.mk (0 : Int) (Prod.mk (0 : Nat) (0 : Nat))))) (List.length (poly_Normals a))) with
                                | true =>
                                    rfl
                                | false =>
                                    exact polyClose hc4 hc5 hc8
                        | false =>
                            rfl
  · cases h

end
end Go.Proofs.Ythopjahoaljhaaa.X
