/- Contracts of functions of the program, laid out by a program of mine (gen.py): what each gives, as a function of its arguments; floats up to the bits of a NaN. (and what goes with it: 6 parts.) -/
import Derived.Test.YthopjahoaljhaaaMd
/-! ## Contracts of functions of the program, laid out by a program of mine (gen.py): what each gives, as a function of its arguments; floats up to the bits of a NaN. -/
set_option linter.unusedVariables false
set_option linter.unusedSimpArgs false
set_option maxRecDepth 100000
namespace Go.Proofs.Ythopjahoaljhaaa.X
open Go Go.RowKit
noncomputable section

/-- math.Abs -/
def d14 : List AT → Option AT
  | [.av (.one (.flt a))] => cond (isN a) (none) (some (AT.av (.one (.flt (nz (Int.toNat (Go.IntKind.wrap Go.IntKind.u64 (Nat.cast (BitVec.toNat (HAnd.hAnd (BitVec.ofInt (Go.IntKind.bits Go.IntKind.u64) (Nat.cast a : Int)) (Complement.complement (BitVec.ofInt (Go.IntKind.bits Go.IntKind.u64) (9223372036854775808 : Int))))) : Int))))))))
  | _ => none
def e14 : Ent := ⟨d14, fun l K => match l with
  | [.av (.one (.flt a))] => cond (isN a) (False) (K (AT.av (.one (.flt (nz (Int.toNat (Go.IntKind.wrap Go.IntKind.u64 (Nat.cast (BitVec.toNat (HAnd.hAnd (BitVec.ofInt (Go.IntKind.bits Go.IntKind.u64) (Nat.cast a : Int)) (Complement.complement (BitVec.ofInt (Go.IntKind.bits Go.IntKind.u64) (9223372036854775808 : Int))))) : Int))))))))
  | _ => False⟩
theorem k14 (l : List AT) (K : AT → Prop) (h : e14.k l K) : ∃ r, e14.d l = some r ∧ K r := by
  simp only [e14] at h ⊢
  unfold d14
  split at h
  · rename_i a
    revert h
    cases (isN a) with
    | true =>
        intro h; exact h.elim
    | false =>
        intro h; exact ⟨_, rfl, h⟩
  · exact h.elim
theorem c14 : CallOk Pr 14 e14 := by
  refine callOk_auto (T := tb 7 [(48, e48o), (49, e49)] [] []) (tb_ok (fnCons c48o (fnCons c49 (fnNil _))) (fnBNil _)) Try.func14 rfl (by decide) rfl rfl k14 ?_
  intro l r h hb
  change d14 l = some r at h
  unfold d14 at h
  split at h
  · rename_i a
    have key : (Nat.ble 1 Try.f14.ntmps = true ∧ noNmT [r] = true ∧ (cond (isN a) (False) (cond (okU (Go.IntKind.wrap Go.IntKind.u64 (Nat.cast (BitVec.toNat (HAnd.hAnd (BitVec.ofInt (Go.IntKind.bits Go.IntKind.u64) (Nat.cast a : Int)) (Complement.complement (BitVec.ofInt (Go.IntKind.bits Go.IntKind.u64) (9223372036854775808 : Int))))) : Int))) (AT.av (.one (.flt (nz (Int.toNat (Go.IntKind.wrap Go.IntKind.u64 (Nat.cast (BitVec.toNat (HAnd.hAnd (BitVec.ofInt (Go.IntKind.bits Go.IntKind.u64) (Nat.cast a : Int)) (Complement.complement (BitVec.ofInt (Go.IntKind.bits Go.IntKind.u64) (9223372036854775808 : Int))))) : Int)))))) = r) (False)))) := by
      revert h
      cases hc1 : (isN a) with
      | true =>
          intro h; cases h
      | false =>
          cases hc2 : (okU (Go.IntKind.wrap Go.IntKind.u64 (Nat.cast (BitVec.toNat (HAnd.hAnd (BitVec.ofInt (Go.IntKind.bits Go.IntKind.u64) (Nat.cast a : Int)) (Complement.complement (BitVec.ofInt (Go.IntKind.bits Go.IntKind.u64) (9223372036854775808 : Int))))) : Int))) with
          | true =>
              intro h; cases h; exact ⟨rfl, rfl, rfl⟩
          | false =>
              rw [okU_wrap] at hc2; cases hc2
    exact ⟨key.1, key.2.1, by_kernel (by kernel_rfl) key.2.2⟩
  · cases h

end
end Go.Proofs.Ythopjahoaljhaaa.X

/-! ## The law's calm: a loop over points. -/
set_option linter.unusedVariables false
set_option linter.unusedSimpArgs false
set_option maxRecDepth 100000
namespace Go.Proofs.Ythopjahoaljhaaa.X
open Go Go.RowKit

noncomputable def b10 : Code := ((loopsOf (Try.f10.body.getD .skip)).getD 0 .skip)
def vl10 : XE → List LV := fun
  | .n => [.t 1, .b 1, .t 3]
  | .r => [.t 2]
  | _ => [.t 1, .b 1]

theorem t10 (kd : Int) (rd : Nat) (l : List (Nat × Nat)) (i : Nat) (R : AT) (h : cond (Decidable.decide (LT.lt (Nat.cast i : Int) (Nat.cast (List.length l) : Int))) (cond (inRange ((Nat.cast i : Int)) (List.length l)) (cond (vec_Within (Prod.fst (gp l (Int.toNat (Nat.cast i : Int)))) (Prod.snd (gp l (Int.toNat (Nat.cast i : Int)))) (4697254411347427328 : Nat)) (AT.tup [(.one (.int .i64 ((Nat.cast (codeX XE.n) : Int)))), (.one (.lp ((1 : Nat)) ((0 : Nat)))), (.agg [(.int .u8 kd), (.flt rd), (.sl l)]), (.one (.int .i64 (Go.IntKind.wrap Go.IntKind.i64 (HAdd.hAdd (Nat.cast i : Int) (1 : Int)))))] = R) (AT.tup [(.one (.int .i64 ((Nat.cast (codeX XE.r) : Int)))), (.one (.bool Bool.false))] = R)) (False)) (AT.tup [(.one (.int .i64 ((Nat.cast (codeX (XE.x (0 : Nat))) : Int)))), (.one (.lp ((1 : Nat)) ((0 : Nat)))), (.agg [(.int .u8 kd), (.flt rd), (.sl l)])] = R)) : xcode (tb 26 [(8, e8), (28, e28)] [] []) b10 (mkS (vl10 .n) [.one (.lp 1 0), .agg [.int .u8 kd, .flt rd, .sl l], .one (.int .i64 i)]) (fun e σ => obsT vl10 e σ = R) := by_kernel (q := cond (Decidable.decide (LT.lt (Nat.cast i : Int) (Nat.cast (List.length l) : Int))) (cond (inRange ((Nat.cast i : Int)) (List.length l)) (cond (vec_Within (Prod.fst (gp l (Int.toNat (Nat.cast i : Int)))) (Prod.snd (gp l (Int.toNat (Nat.cast i : Int)))) (4697254411347427328 : Nat)) (AT.tup [(.one (.int .i64 ((Nat.cast (codeX XE.n) : Int)))), (.one (.lp ((1 : Nat)) ((0 : Nat)))), (.agg [(.int .u8 kd), (.flt rd), (.sl l)]), (.one (.int .i64 (Go.IntKind.wrap Go.IntKind.i64 (HAdd.hAdd (Nat.cast i : Int) (1 : Int)))))] = R) (AT.tup [(.one (.int .i64 ((Nat.cast (codeX XE.r) : Int)))), (.one (.bool Bool.false))] = R)) (False)) (AT.tup [(.one (.int .i64 ((Nat.cast (codeX (XE.x (0 : Nat))) : Int)))), (.one (.lp ((1 : Nat)) ((0 : Nat)))), (.agg [(.int .u8 kd), (.flt rd), (.sl l)])] = R)) (by kernel_rfl) h

/-- Is a point within 2^20? -/
def calmF (l : List (Nat × Nat)) (i : Nat) : Bool := vec_Within (gp l i).1 (gp l i).2 4697254411347427328
def s10 (σ : St) (K : XE → St → Prop) : Prop :=
  match getLVs σ (vl10 .n) with
  | some [.one (.lp 1 0), .agg [.int .u8 kd, .flt rd, .sl l], .one (.int .i64 0)] =>
    l.length ≤ 8796093022208 ∧ (bif allF (calmF l) 0 l.length then K (.x 0) ⟨[(1, .av (.one (.lp 1 0)))], [(1, .cells [.int .u8 kd, .flt rd, .sl l])]⟩ else K .r ⟨[(2, .av (.one (.bool false)))], []⟩)
  | _ => False
structure Cx10 where
  (kd : Int) (rd : Nat) (l : List (Nat × Nat))
theorem lo10 : LoopOk Pr (tb 26 [(8, e8), (28, e28)] [] []) b10 s10 := by
  refine all_ok (tb_ok (fnCons c8 (fnCons c28 (fnNil _))) (fnBNil _)) (vl := vl10) (Ctx := Cx10)
    (enc := fun c i => [.one (.lp 1 0), .agg [.int .u8 c.kd, .flt c.rd, .sl c.l], .one (.int .i64 i)])
    (N := fun c => c.l.length) (f := fun c => calmF c.l) (xd := 0) (done := fun c => [.one (.lp 1 0), .agg [.int .u8 c.kd, .flt c.rd, .sl c.l]]) (bad := fun _ _ => [.one (.bool false)])
    (pre := fun c => c.l.length ≤ 8796093022208) (noLoops (by kernel_rfl)) ?_ ?_ ?_
  · intro σ K h
    unfold s10 at h
    split at h
    · rename_i kd rd l hg
      obtain ⟨hl, h⟩ := h
      refine ⟨⟨kd, rd, l⟩, 0, hl, Nat.zero_le _, hg, ?_⟩
      cases ha : allF (calmF l) 0 l.length with
      | true => rw [ha] at h; rw [Nat.sub_zero, fstF_none ha]; exact h
      | false => rw [ha] at h; obtain ⟨j, hj⟩ := fstF_some ha; rw [Nat.sub_zero, hj]; exact h
    · exact h.elim
  · intro c i h
    exact ⟨rfl, rfl, rfl⟩
  · rintro ⟨kd, rd, l⟩ i hl hk hb
    dsimp only at hl hk ⊢
    apply t10
    rw [dlt, inRange_nat, Int.toNat_natCast]
    by_cases hi : i < l.length
    · have hw : IntKind.i64.wrap ((i : Int) + 1) = ((i + 1 : Nat) : Int) := wrap_succ (by omega)
      rw [hw, decide_eq_true hi]
      unfold calmF
      cases vec_Within (gp l i).1 (gp l i).2 4697254411347427328 <;> rfl
    · rw [decide_eq_false hi]; rfl

end Go.Proofs.Ythopjahoaljhaaa.X

/-! ## Contracts of functions of the program, laid out by a program of mine (gen.py): what each gives, as a function of its arguments; floats up to the bits of a NaN. -/
set_option linter.unusedVariables false
set_option linter.unusedSimpArgs false
set_option maxRecDepth 100000
namespace Go.Proofs.Ythopjahoaljhaaa.X
open Go Go.RowKit
noncomputable section

/-- tumble/tumblelaw10.calm -/
def law10_calm (a0 : Int) (a1 : Nat) (a2 : List (Nat × Nat)) : Bool := ((allF (calmF a2) (0 : Nat) (List.length a2)) && ((BEq.beq (shape_Check a0 a1 a2) (0 : Int)) && (fLe a1 (4697254411347427328 : Nat))))
def d10 : List AT → Option AT
  | [.av (.agg [.int .u8 a0, .flt a1, .sl a2])] => some (.av (.one (.bool (law10_calm a0 a1 a2))))
  | _ => none
def e10 : Ent := .of d10
theorem c10 : CallOk Pr 10 e10 := by
  refine callOk_autoL (T := tb 26 [(8, e8), (28, e28)] [] [(2, s10)]) (tb_ok (fnCons c8 (fnCons c28 (fnNil _))) (fnBNil _)) Try.func10 rfl (by decide) rfl (loops1 (by kernel_rfl) rfl lo10) (Ent.of_k d10) ?_
  intro l r h hb
  change d10 l = some r at h
  unfold d10 at h
  split at h
  · rename_i a0 a1 a2
    cases h
    refine ⟨rfl, rfl, by_kernel (q := And (LE.le (List.length a2) (8796093022208 : Nat)) (cond (allF (calmF a2) (0 : Nat) (List.length a2)) (cond (BEq.beq (shape_Check a0 a1 a2) (0 : Int)) (cond (fLe a1 (4697254411347427328 : Nat)) (AT.av (.one (.bool Bool.true)) = (.av (.one (.bool (law10_calm a0 a1 a2))))) (AT.av (.one (.bool Bool.false)) = (.av (.one (.bool (law10_calm a0 a1 a2)))))) (AT.av (.one (.bool Bool.false)) = (.av (.one (.bool (law10_calm a0 a1 a2)))))) (AT.av (.one (.bool Bool.false)) = (.av (.one (.bool (law10_calm a0 a1 a2))))))) (by kernel_rfl) ?_⟩
    unfold law10_calm
    refine ⟨?_, ?_⟩
    · exact hb (.av (.agg [.int .u8 a0, .flt a1, .sl a2])) (by simp) (.sl a2) (by simp)
    cases (allF (calmF a2) (0 : Nat) (List.length a2)) with
    | true =>
        cases (BEq.beq (shape_Check a0 a1 a2) (0 : Int)) with
        | true =>
            cases (fLe a1 (4697254411347427328 : Nat)) with
            | true =>
                rfl
            | false =>
                rfl
        | false =>
            rfl
    | false =>
        rfl
  · cases h

end
end Go.Proofs.Ythopjahoaljhaaa.X

/-! ## Contracts of functions of the program, laid out by a program of mine (gen.py): what each gives, as a function of its arguments; floats up to the bits of a NaN. -/
set_option linter.unusedVariables false
set_option linter.unusedSimpArgs false
set_option maxRecDepth 100000
namespace Go.Proofs.Ythopjahoaljhaaa.X
open Go Go.RowKit
noncomputable section

/-- tumble/tumblelaw10.alive -/
def d6 : List AT → Option AT
  | [] => some (.av (.one (.bool Bool.true)))
  | _ => none
def e6 : Ent := .of d6
theorem c6 : CallOk Pr 6 e6 := by
  refine callOk_auto (T := tb 66 [(7, e7), (35, e35), (36, e36), (37, e37), (38, e38), (39, e39), (40, e40)] [] []) (tb_ok (fnCons c7 (fnCons c35 (fnCons c36 (fnCons c37 (fnCons c38 (fnCons c39 (fnCons c40 (fnNil _)))))))) (fnBNil _)) Try.func6 rfl (by decide) rfl rfl (Ent.of_k d6) ?_
  intro l r h hb
  change d6 l = some r at h
  unfold d6 at h
  split at h
  · cases h
    refine ⟨rfl, rfl, by_kernel (q := AT.av (.one (.bool Bool.true)) = (.av (.one (.bool Bool.true)))) (by kernel_rfl) ?_⟩
    rfl
  · cases h

end
end Go.Proofs.Ythopjahoaljhaaa.X

/-! ## The two loops of the law NearBoth. -/
set_option linter.unusedVariables false
set_option linter.unusedSimpArgs false
set_option maxRecDepth 100000
namespace Go.Proofs.Ythopjahoaljhaaa.X
open Go Go.RowKit

noncomputable def b3i : Code := ((loopsOf ((loopsOf (Try.f3.body.getD .skip)).getD 0 .skip)).getD 0 .skip)
def vl3i : XE → List LV := fun
  | .n => [.t 2, .b 2, .t 3, .b 3, .t 6, .b 6, .t 14, .t 15, .t 5]
  | .r => [.t 4]
  | _ => [.t 2, .b 2, .t 3, .b 3, .t 6, .b 6, .t 14, .t 5]

theorem t3i (ka : Int) (ra : Nat) (la : List (Nat × Nat)) (kb : Int) (rb : Nat) (lb : List (Nat × Nat)) (far : Nat) (ax : Nat) (ay : Nat) (bx : Nat) (by_ : Nat) (ok : Bool) (i : Nat) (k : Nat) (R : AT) (h : cond (Decidable.decide (LT.lt (Nat.cast k : Int) (Nat.cast (List.length lb) : Int))) (cond (inRange ((Nat.cast k : Int)) (List.length lb)) (cond (inRange ((Nat.cast i : Int)) (List.length la)) (cond (fGt far (fadd (math_Max (0 : Nat) (fsub (fsub (vec_Length (vec_Sub_0 (Prod.fst (gp lb (Int.toNat (Nat.cast k : Int)))) (Prod.snd (gp lb (Int.toNat (Nat.cast k : Int)))) (Prod.fst (gp la (Int.toNat (Nat.cast i : Int)))) (Prod.snd (gp la (Int.toNat (Nat.cast i : Int))))) (vec_Sub_1 (Prod.fst (gp lb (Int.toNat (Nat.cast k : Int)))) (Prod.snd (gp lb (Int.toNat (Nat.cast k : Int)))) (Prod.fst (gp la (Int.toNat (Nat.cast i : Int)))) (Prod.snd (gp la (Int.toNat (Nat.cast i : Int)))))) ra) rb)) (4517110426252607488 : Nat))) (AT.tup [(.one (.int .i64 ((Nat.cast (codeX XE.r) : Int)))), (.one (.bool Bool.false))] = R) (AT.tup [(.one (.int .i64 ((Nat.cast (codeX XE.n) : Int)))), (.one (.lp ((2 : Nat)) ((0 : Nat)))), (.agg [(.int .u8 ka), (.flt ra), (.sl la)]), (.one (.lp ((3 : Nat)) ((0 : Nat)))), (.agg [(.int .u8 kb), (.flt rb), (.sl lb)]), (.one (.lp ((6 : Nat)) ((0 : Nat)))), (.agg [(.flt far), (.flt ax), (.flt ay), (.flt bx), (.flt by_)]), (.one (.int .i64 ((Nat.cast i : Int)))), (.one (.int .i64 (Go.IntKind.wrap Go.IntKind.i64 (HAdd.hAdd (Nat.cast k : Int) (1 : Int))))), (.one (.bool ok))] = R)) (False)) (False)) (AT.tup [(.one (.int .i64 ((Nat.cast (codeX (XE.x (2 : Nat))) : Int)))), (.one (.lp ((2 : Nat)) ((0 : Nat)))), (.agg [(.int .u8 ka), (.flt ra), (.sl la)]), (.one (.lp ((3 : Nat)) ((0 : Nat)))), (.agg [(.int .u8 kb), (.flt rb), (.sl lb)]), (.one (.lp ((6 : Nat)) ((0 : Nat)))), (.agg [(.flt far), (.flt ax), (.flt ay), (.flt bx), (.flt by_)]), (.one (.int .i64 ((Nat.cast i : Int)))), (.one (.bool ok))] = R)) : xcode (tb 174 [(6, e6), (7, e7), (8, e8), (9, e9), (10, e10), (11, e11), (12, e12), (13, e13), (14, e14)] [] []) b3i (mkS (vl3i .n) [.one (.lp 2 0), .agg [.int .u8 ka, .flt ra, .sl la], .one (.lp 3 0), .agg [.int .u8 kb, .flt rb, .sl lb], .one (.lp 6 0), .agg [.flt far, .flt ax, .flt ay, .flt bx, .flt by_], .one (.int .i64 i), .one (.int .i64 k), .one (.bool ok)]) (fun e σ => obsT vl3i e σ = R) := by_kernel (q := cond (Decidable.decide (LT.lt (Nat.cast k : Int) (Nat.cast (List.length lb) : Int))) (cond (inRange ((Nat.cast k : Int)) (List.length lb)) (cond (inRange ((Nat.cast i : Int)) (List.length la)) (cond (fGt far (fadd (math_Max (0 : Nat) (fsub (fsub (vec_Length (vec_Sub_0 (Prod.fst (gp lb (Int.toNat (Nat.cast k : Int)))) (Prod.snd (gp lb (Int.toNat (Nat.cast k : Int)))) (Prod.fst (gp la (Int.toNat (Nat.cast i : Int)))) (Prod.snd (gp la (Int.toNat (Nat.cast i : Int))))) (vec_Sub_1 (Prod.fst (gp lb (Int.toNat (Nat.cast k : Int)))) (Prod.snd (gp lb (Int.toNat (Nat.cast k : Int)))) (Prod.fst (gp la (Int.toNat (Nat.cast i : Int)))) (Prod.snd (gp la (Int.toNat (Nat.cast i : Int)))))) ra) rb)) (4517110426252607488 : Nat))) (AT.tup [(.one (.int .i64 ((Nat.cast (codeX XE.r) : Int)))), (.one (.bool Bool.false))] = R) (AT.tup [(.one (.int .i64 ((Nat.cast (codeX XE.n) : Int)))), (.one (.lp ((2 : Nat)) ((0 : Nat)))), (.agg [(.int .u8 ka), (.flt ra), (.sl la)]), (.one (.lp ((3 : Nat)) ((0 : Nat)))), (.agg [(.int .u8 kb), (.flt rb), (.sl lb)]), (.one (.lp ((6 : Nat)) ((0 : Nat)))), (.agg [(.flt far), (.flt ax), (.flt ay), (.flt bx), (.flt by_)]), (.one (.int .i64 ((Nat.cast i : Int)))), (.one (.int .i64 (Go.IntKind.wrap Go.IntKind.i64 (HAdd.hAdd (Nat.cast k : Int) (1 : Int))))), (.one (.bool ok))] = R)) (False)) (False)) (AT.tup [(.one (.int .i64 ((Nat.cast (codeX (XE.x (2 : Nat))) : Int)))), (.one (.lp ((2 : Nat)) ((0 : Nat)))), (.agg [(.int .u8 ka), (.flt ra), (.sl la)]), (.one (.lp ((3 : Nat)) ((0 : Nat)))), (.agg [(.int .u8 kb), (.flt rb), (.sl lb)]), (.one (.lp ((6 : Nat)) ((0 : Nat)))), (.agg [(.flt far), (.flt ax), (.flt ay), (.flt bx), (.flt by_)]), (.one (.int .i64 ((Nat.cast i : Int)))), (.one (.bool ok))] = R)) (by kernel_rfl) h

/-- Is the one no farther than two points are? -/
def pairOk (far ra rb : Nat) (p q : Nat × Nat) : Bool :=
  !(fGt far (fadd (math_Max 0 (fsub (fsub (vec_Length (vec_Sub_0 q.1 q.2 p.1 p.2) (vec_Sub_1 q.1 q.2 p.1 p.2)) ra) rb)) 4517110426252607488))
def s3i (σ : St) (K : XE → St → Prop) : Prop :=
  match getLVs σ (vl3i .n) with
  | some [.one (.lp 2 0), .agg [.int .u8 ka, .flt ra, .sl la], .one (.lp 3 0), .agg [.int .u8 kb, .flt rb, .sl lb], .one (.lp 6 0), .agg [.flt far, .flt ax, .flt ay, .flt bx, .flt by_], .one (.int .i64 i), .one (.int .i64 0), .one (.bool ok)] =>
    (i = i.toNat ∧ i.toNat < la.length ∧ la.length ≤ 8796093022208 ∧ lb.length ≤ 8796093022208) ∧ (bif allF (fun k => pairOk far ra rb (gp la i.toNat) (gp lb k)) 0 lb.length then K (.x 2) ⟨[(2, .av (.one (.lp 2 0))), (3, .av (.one (.lp 3 0))), (6, .av (.one (.lp 6 0))), (14, .av (.one (.int .i64 i))), (5, .av (.one (.bool ok)))], [(2, .cells [.int .u8 ka, .flt ra, .sl la]), (3, .cells [.int .u8 kb, .flt rb, .sl lb]), (6, .cells [.flt far, .flt ax, .flt ay, .flt bx, .flt by_])]⟩ else K .r ⟨[(4, .av (.one (.bool false)))], []⟩)
  | _ => False

structure Cx3 where
  (ka : Int) (ra : Nat) (la : List (Nat × Nat)) (kb : Int) (rb : Nat) (lb : List (Nat × Nat)) (far ax ay bx by_ : Nat) (ok : Bool) (i : Nat)
theorem lo3i : LoopOk Pr (tb 174 [(6, e6), (7, e7), (8, e8), (9, e9), (10, e10), (11, e11), (12, e12), (13, e13), (14, e14)] [] []) b3i s3i := by
  refine all_ok (tb_ok (fnCons c6 (fnCons c7 (fnCons c8 (fnCons c9 (fnCons c10 (fnCons c11 (fnCons c12 (fnCons c13 (fnCons c14 (fnNil _)))))))))) (fnBNil _)) (vl := vl3i) (Ctx := Cx3)
    (enc := fun c k => [.one (.lp 2 0), .agg [.int .u8 c.ka, .flt c.ra, .sl c.la], .one (.lp 3 0), .agg [.int .u8 c.kb, .flt c.rb, .sl c.lb], .one (.lp 6 0), .agg [.flt c.far, .flt c.ax, .flt c.ay, .flt c.bx, .flt c.by_], .one (.int .i64 c.i), .one (.int .i64 k), .one (.bool c.ok)]) (N := fun c => c.lb.length) (f := fun c k => pairOk c.far c.ra c.rb (gp c.la c.i) (gp c.lb k)) (xd := 2) (done := fun c => [.one (.lp 2 0), .agg [.int .u8 c.ka, .flt c.ra, .sl c.la], .one (.lp 3 0), .agg [.int .u8 c.kb, .flt c.rb, .sl c.lb], .one (.lp 6 0), .agg [.flt c.far, .flt c.ax, .flt c.ay, .flt c.bx, .flt c.by_], .one (.int .i64 c.i), .one (.bool c.ok)]) (bad := fun _ _ => [.one (.bool false)])
    (pre := fun c => c.i < c.la.length ∧ c.la.length ≤ 8796093022208 ∧ c.lb.length ≤ 8796093022208) (noLoops (by kernel_rfl)) ?_ ?_ ?_
  · intro σ K h
    unfold s3i at h
    split at h
    · rename_i ka ra la kb rb lb far ax ay bx by_ i ok hg
      obtain ⟨⟨hi, h1, h2, h3⟩, h⟩ := h
      refine ⟨⟨ka, ra, la, kb, rb, lb, far, ax, ay, bx, by_, ok, i.toNat⟩, 0, ⟨h1, h2, h3⟩, Nat.zero_le _, by rw [hg]; dsimp only; rw [← hi]; rfl, ?_⟩
      cases ha : allF (fun k => pairOk far ra rb (gp la i.toNat) (gp lb k)) 0 lb.length with
      | true => rw [ha] at h; rw [Nat.sub_zero, fstF_none ha]; simp only [vl3i, mkS, mkE, mkB, ← hi]; exact h
      | false => rw [ha] at h; obtain ⟨j, hj⟩ := fstF_some ha; rw [Nat.sub_zero, hj]; exact h
    · exact h.elim
  · intro c i h
    exact ⟨rfl, rfl, rfl⟩
  · rintro ⟨ka, ra, la, kb, rb, lb, far, ax, ay, bx, by_, ok, i⟩ k ⟨h1, h2, h3⟩ hk hb
    dsimp only at h1 h2 h3 hk ⊢
    apply t3i
    rw [dlt, inRange_nat, inRange_nat, Int.toNat_natCast, Int.toNat_natCast, decide_eq_true h1]
    by_cases hi : k < lb.length
    · have hw : IntKind.i64.wrap ((k : Int) + 1) = ((k + 1 : Nat) : Int) := wrap_succ (by omega)
      rw [hw, decide_eq_true hi]
      unfold pairOk
      cases fGt far (fadd (math_Max 0 (fsub (fsub (vec_Length (vec_Sub_0 (gp lb k).1 (gp lb k).2 (gp la i).1 (gp la i).2) (vec_Sub_1 (gp lb k).1 (gp lb k).2 (gp la i).1 (gp la i).2)) ra) rb)) 4517110426252607488) <;> rfl
    · rw [decide_eq_false hi]; rfl
noncomputable def b3 : Code := ((loopsOf (Try.f3.body.getD .skip)).getD 0 .skip)
def vl3 : XE → List LV := fun
  | .n => [.t 2, .b 2, .t 3, .b 3, .t 6, .b 6, .t 14, .t 5]
  | .r => [.t 4]
  | _ => [.t 6, .b 6, .t 5]

theorem t3 (ka : Int) (ra : Nat) (la : List (Nat × Nat)) (kb : Int) (rb : Nat) (lb : List (Nat × Nat)) (far : Nat) (ax : Nat) (ay : Nat) (bx : Nat) (by_ : Nat) (ok : Bool) (i : Nat) (R : AT) (h : cond (Decidable.decide (LT.lt (Nat.cast i : Int) (Nat.cast (List.length la) : Int))) (And (And (Eq (Nat.cast i : Int) (Nat.cast (Int.toNat (Nat.cast i : Int)) : Int)) (And (LT.lt (Int.toNat (Nat.cast i : Int)) (List.length la)) (And (LE.le (List.length la) (8796093022208 : Nat)) (LE.le (List.length lb) (8796093022208 : Nat))))) (cond (allF (fun (k : Nat) ↦ pairOk far ra rb (gp la (Int.toNat (Nat.cast i : Int))) (gp lb k)) (0 : Nat) (List.length lb)) (AT.tup [(.one (.int .i64 ((Nat.cast (codeX XE.n) : Int)))), (.one (.lp ((2 : Nat)) ((0 : Nat)))), (.agg [(.int .u8 ka), (.flt ra), (.sl la)]), (.one (.lp ((3 : Nat)) ((0 : Nat)))), (.agg [(.int .u8 kb), (.flt rb), (.sl lb)]), (.one (.lp ((6 : Nat)) ((0 : Nat)))), (.agg [(.flt far), (.flt ax), (.flt ay), (.flt bx), (.flt by_)]), (.one (.int .i64 (Go.IntKind.wrap Go.IntKind.i64 (HAdd.hAdd (Nat.cast i : Int) (1 : Int))))), (.one (.bool ok))] = R) (AT.tup [(.one (.int .i64 ((Nat.cast (codeX XE.r) : Int)))), (.one (.bool Bool.false))] = R))) (AT.tup [(.one (.int .i64 ((Nat.cast (codeX (XE.x (0 : Nat))) : Int)))), (.one (.lp ((6 : Nat)) ((0 : Nat)))), (.agg [(.flt far), (.flt ax), (.flt ay), (.flt bx), (.flt by_)]), (.one (.bool ok))] = R)) : xcode (tb 174 [(6, e6), (7, e7), (8, e8), (9, e9), (10, e10), (11, e11), (12, e12), (13, e13), (14, e14)] [] [(16, s3i)]) b3 (mkS (vl3 .n) [.one (.lp 2 0), .agg [.int .u8 ka, .flt ra, .sl la], .one (.lp 3 0), .agg [.int .u8 kb, .flt rb, .sl lb], .one (.lp 6 0), .agg [.flt far, .flt ax, .flt ay, .flt bx, .flt by_], .one (.int .i64 i), .one (.bool ok)]) (fun e σ => obsT vl3 e σ = R) := by_kernel (q := cond (Decidable.decide (LT.lt (Nat.cast i : Int) (Nat.cast (List.length la) : Int))) (And (And (Eq (Nat.cast i : Int) (Nat.cast (Int.toNat (Nat.cast i : Int)) : Int)) (And (LT.lt (Int.toNat (Nat.cast i : Int)) (List.length la)) (And (LE.le (List.length la) (8796093022208 : Nat)) (LE.le (List.length lb) (8796093022208 : Nat))))) (cond (allF (fun (k : Nat) ↦ pairOk far ra rb (gp la (Int.toNat (Nat.cast i : Int))) (gp lb k)) (0 : Nat) (List.length lb)) (AT.tup [(.one (.int .i64 ((Nat.cast (codeX XE.n) : Int)))), (.one (.lp ((2 : Nat)) ((0 : Nat)))), (.agg [(.int .u8 ka), (.flt ra), (.sl la)]), (.one (.lp ((3 : Nat)) ((0 : Nat)))), (.agg [(.int .u8 kb), (.flt rb), (.sl lb)]), (.one (.lp ((6 : Nat)) ((0 : Nat)))), (.agg [(.flt far), (.flt ax), (.flt ay), (.flt bx), (.flt by_)]), (.one (.int .i64 (Go.IntKind.wrap Go.IntKind.i64 (HAdd.hAdd (Nat.cast i : Int) (1 : Int))))), (.one (.bool ok))] = R) (AT.tup [(.one (.int .i64 ((Nat.cast (codeX XE.r) : Int)))), (.one (.bool Bool.false))] = R))) (AT.tup [(.one (.int .i64 ((Nat.cast (codeX (XE.x (0 : Nat))) : Int)))), (.one (.lp ((6 : Nat)) ((0 : Nat)))), (.agg [(.flt far), (.flt ax), (.flt ay), (.flt bx), (.flt by_)]), (.one (.bool ok))] = R)) (by kernel_rfl) h

def rowOk (far ra rb : Nat) (la lb : List (Nat × Nat)) (i : Nat) : Bool := allF (fun k => pairOk far ra rb (gp la i) (gp lb k)) 0 lb.length
def s3 (σ : St) (K : XE → St → Prop) : Prop :=
  match getLVs σ (vl3 .n) with
  | some [.one (.lp 2 0), .agg [.int .u8 ka, .flt ra, .sl la], .one (.lp 3 0), .agg [.int .u8 kb, .flt rb, .sl lb], .one (.lp 6 0), .agg [.flt far, .flt ax, .flt ay, .flt bx, .flt by_], .one (.int .i64 0), .one (.bool ok)] =>
    (la.length ≤ 8796093022208 ∧ lb.length ≤ 8796093022208) ∧ (bif allF (rowOk far ra rb la lb) 0 la.length then K (.x 0) ⟨[(6, .av (.one (.lp 6 0))), (5, .av (.one (.bool ok)))], [(6, .cells [.flt far, .flt ax, .flt ay, .flt bx, .flt by_])]⟩ else K .r ⟨[(4, .av (.one (.bool false)))], []⟩)
  | _ => False
structure Cx3o where
  (ka : Int) (ra : Nat) (la : List (Nat × Nat)) (kb : Int) (rb : Nat) (lb : List (Nat × Nat)) (far ax ay bx by_ : Nat) (ok : Bool)
theorem lo3 : LoopOk Pr (tb 174 [(6, e6), (7, e7), (8, e8), (9, e9), (10, e10), (11, e11), (12, e12), (13, e13), (14, e14)] [] [(16, s3i)]) b3 s3 := by
  refine all_ok (tb_ok (fnCons c6 (fnCons c7 (fnCons c8 (fnCons c9 (fnCons c10 (fnCons c11 (fnCons c12 (fnCons c13 (fnCons c14 (fnNil _)))))))))) (fnBNil _)) (vl := vl3) (Ctx := Cx3o)
    (enc := fun c i => [.one (.lp 2 0), .agg [.int .u8 c.ka, .flt c.ra, .sl c.la], .one (.lp 3 0), .agg [.int .u8 c.kb, .flt c.rb, .sl c.lb], .one (.lp 6 0), .agg [.flt c.far, .flt c.ax, .flt c.ay, .flt c.bx, .flt c.by_], .one (.int .i64 i), .one (.bool c.ok)]) (N := fun c => c.la.length) (f := fun c i => rowOk c.far c.ra c.rb c.la c.lb i) (xd := 0) (done := fun c => [.one (.lp 6 0), .agg [.flt c.far, .flt c.ax, .flt c.ay, .flt c.bx, .flt c.by_], .one (.bool c.ok)]) (bad := fun _ _ => [.one (.bool false)])
    (pre := fun c => c.la.length ≤ 8796093022208 ∧ c.lb.length ≤ 8796093022208) (loops1 (b := b3i) (by kernel_rfl) rfl lo3i) ?_ ?_ ?_
  · intro σ K h
    unfold s3 at h
    split at h
    · rename_i ka ra la kb rb lb far ax ay bx by_ ok hg
      obtain ⟨⟨h2, h3⟩, h⟩ := h
      refine ⟨⟨ka, ra, la, kb, rb, lb, far, ax, ay, bx, by_, ok⟩, 0, ⟨h2, h3⟩, Nat.zero_le _, hg, ?_⟩
      cases ha : allF (rowOk far ra rb la lb) 0 la.length with
      | true => rw [ha] at h; rw [Nat.sub_zero, fstF_none ha]; exact h
      | false => rw [ha] at h; obtain ⟨j, hj⟩ := fstF_some ha; rw [Nat.sub_zero, hj]; exact h
    · exact h.elim
  · intro c i h
    exact ⟨rfl, rfl, rfl⟩
  · rintro ⟨ka, ra, la, kb, rb, lb, far, ax, ay, bx, by_, ok⟩ i ⟨h2, h3⟩ hk hb
    dsimp only at h2 h3 hk ⊢
    apply t3
    rw [dlt, Int.toNat_natCast]
    by_cases hi : i < la.length
    · have hw : IntKind.i64.wrap ((i : Int) + 1) = ((i + 1 : Nat) : Int) := wrap_succ (by omega)
      rw [hw, decide_eq_true hi]
      unfold rowOk
      cases allF (fun k => pairOk far ra rb (gp la i) (gp lb k)) 0 lb.length <;> exact ⟨⟨rfl, hi, h2, h3⟩, rfl⟩
    · rw [decide_eq_false hi]; rfl

end Go.Proofs.Ythopjahoaljhaaa.X

/-! ## Contracts of functions of the program, laid out by a program of mine (gen.py): what each gives, as a function of its arguments; floats up to the bits of a NaN. -/
set_option linter.unusedVariables false
set_option linter.unusedSimpArgs false
set_option maxRecDepth 100000
namespace Go.Proofs.Ythopjahoaljhaaa.X
open Go Go.RowKit
noncomputable section

/-- tumble/tumblelaw10.NearBoth -/
def d3 : List AT → Option AT
  | [.av (.agg [.int .u8 a0, .flt a1, .sl a2]), .av (.agg [.int .u8 b0, .flt b1, .sl b2])] => cond (bne (shape_Check a0 a1 a2) (0 : Int)) (cond (bne (near_Shapes_5 a0 a1 a2 b0 b1 b2) (0 : Int)) (cond (bne (near_Shapes_5 b0 b1 b2 a0 a1 a2) (0 : Int)) (cond (Bool.and (fEq (near_Shapes_0 a0 a1 a2 b0 b1 b2) (0 : Nat)) (Bool.and (fEq (near_Shapes_1 a0 a1 a2 b0 b1 b2) (0 : Nat)) (Bool.and (fEq (near_Shapes_2 a0 a1 a2 b0 b1 b2) (0 : Nat)) (Bool.and (fEq (near_Shapes_3 a0 a1 a2 b0 b1 b2) (0 : Nat)) (Bool.and (fEq (near_Shapes_4 a0 a1 a2 b0 b1 b2) (0 : Nat)) Bool.true))))) (cond (Bool.and (fEq (near_Shapes_0 b0 b1 b2 a0 a1 a2) (0 : Nat)) (Bool.and (fEq (near_Shapes_1 b0 b1 b2 a0 a1 a2) (0 : Nat)) (Bool.and (fEq (near_Shapes_2 b0 b1 b2 a0 a1 a2) (0 : Nat)) (Bool.and (fEq (near_Shapes_3 b0 b1 b2 a0 a1 a2) (0 : Nat)) (Bool.and (fEq (near_Shapes_4 b0 b1 b2 a0 a1 a2) (0 : Nat)) Bool.true))))) (some (AT.av (.one (.bool Bool.true)))) (some (AT.av (.one (.bool Bool.false))))) (some (AT.av (.one (.bool Bool.false))))) (some (AT.av (.one (.bool Bool.false))))) (some (AT.av (.one (.bool Bool.false))))) (cond (bne (shape_Check b0 b1 b2) (0 : Int)) (cond (bne (near_Shapes_5 a0 a1 a2 b0 b1 b2) (0 : Int)) (cond (bne (near_Shapes_5 b0 b1 b2 a0 a1 a2) (0 : Int)) (cond (Bool.and (fEq (near_Shapes_0 a0 a1 a2 b0 b1 b2) (0 : Nat)) (Bool.and (fEq (near_Shapes_1 a0 a1 a2 b0 b1 b2) (0 : Nat)) (Bool.and (fEq (near_Shapes_2 a0 a1 a2 b0 b1 b2) (0 : Nat)) (Bool.and (fEq (near_Shapes_3 a0 a1 a2 b0 b1 b2) (0 : Nat)) (Bool.and (fEq (near_Shapes_4 a0 a1 a2 b0 b1 b2) (0 : Nat)) Bool.true))))) (cond (Bool.and (fEq (near_Shapes_0 b0 b1 b2 a0 a1 a2) (0 : Nat)) (Bool.and (fEq (near_Shapes_1 b0 b1 b2 a0 a1 a2) (0 : Nat)) (Bool.and (fEq (near_Shapes_2 b0 b1 b2 a0 a1 a2) (0 : Nat)) (Bool.and (fEq (near_Shapes_3 b0 b1 b2 a0 a1 a2) (0 : Nat)) (Bool.and (fEq (near_Shapes_4 b0 b1 b2 a0 a1 a2) (0 : Nat)) Bool.true))))) (some (AT.av (.one (.bool Bool.true)))) (some (AT.av (.one (.bool Bool.false))))) (some (AT.av (.one (.bool Bool.false))))) (some (AT.av (.one (.bool Bool.false))))) (some (AT.av (.one (.bool Bool.false))))) (cond (near_Over_0 b0 b1 b2 a0 a1 a2) (cond (bne (near_Shapes_5 a0 a1 a2 b0 b1 b2) (0 : Int)) (some (AT.av (.one (.bool Bool.false)))) (cond (bne (near_Shapes_5 b0 b1 b2 a0 a1 a2) (0 : Int)) (some (AT.av (.one (.bool Bool.false)))) (cond (bne (near_Shapes_5 a0 a1 a2 a0 a1 a2) (0 : Int)) (some (AT.av (.one (.bool Bool.false)))) (cond (bne (near_Over_1 b0 b1 b2 a0 a1 a2) (0 : Int)) (some (AT.av (.one (.bool Bool.false)))) (cond (fNe (near_Shapes_0 a0 a1 a2 b0 b1 b2) (near_Shapes_0 b0 b1 b2 a0 a1 a2)) (some (AT.av (.one (.bool Bool.false)))) (cond (fNe (near_Shapes_0 a0 a1 a2 a0 a1 a2) (0 : Nat)) (some (AT.av (.one (.bool Bool.false)))) (cond (fEq (near_Shapes_0 a0 a1 a2 b0 b1 b2) (0 : Nat)) (cond (fGe (near_Shapes_0 a0 a1 a2 b0 b1 b2) (0 : Nat)) (cond (law10_calm a0 a1 a2) (cond (law10_calm b0 b1 b2) (cond (allF (rowOk (near_Shapes_0 a0 a1 a2 b0 b1 b2) a1 b1 a2 b2) (0 : Nat) (List.length a2)) (cond (fLe (near_Shapes_0 a0 a1 a2 b0 b1 b2) (4562146422526312448 : Nat)) (some (AT.av (.one (.bool Bool.true)))) (cond (isN (fsub (vec_Length (vec_Sub_0 (near_Shapes_3 a0 a1 a2 b0 b1 b2) (near_Shapes_4 a0 a1 a2 b0 b1 b2) (near_Shapes_1 a0 a1 a2 b0 b1 b2) (near_Shapes_2 a0 a1 a2 b0 b1 b2)) (vec_Sub_1 (near_Shapes_3 a0 a1 a2 b0 b1 b2) (near_Shapes_4 a0 a1 a2 b0 b1 b2) (near_Shapes_1 a0 a1 a2 b0 b1 b2) (near_Shapes_2 a0 a1 a2 b0 b1 b2))) (near_Shapes_0 a0 a1 a2 b0 b1 b2))) (none) (cond (fLe (nz (Int.toNat (Go.IntKind.wrap Go.IntKind.u64 (Nat.cast (BitVec.toNat (HAnd.hAnd (BitVec.ofInt (Go.IntKind.bits Go.IntKind.u64) (Nat.cast (fsub (vec_Length (vec_Sub_0 (near_Shapes_3 a0 a1 a2 b0 b1 b2) (near_Shapes_4 a0 a1 a2 b0 b1 b2) (near_Shapes_1 a0 a1 a2 b0 b1 b2) (near_Shapes_2 a0 a1 a2 b0 b1 b2)) (vec_Sub_1 (near_Shapes_3 a0 a1 a2 b0 b1 b2) (near_Shapes_4 a0 a1 a2 b0 b1 b2) (near_Shapes_1 a0 a1 a2 b0 b1 b2) (near_Shapes_2 a0 a1 a2 b0 b1 b2))) (near_Shapes_0 a0 a1 a2 b0 b1 b2)) : Int)) (Complement.complement (BitVec.ofInt (Go.IntKind.bits Go.IntKind.u64) (9223372036854775808 : Int))))) : Int)))) (4517110426252607488 : Nat)) (some (AT.av (.one (.bool Bool.true)))) (some (AT.av (.one (.bool Bool.false))))))) (some (AT.av (.one (.bool Bool.false))))) (some (AT.av (.one (.bool Bool.true))))) (some (AT.av (.one (.bool Bool.true))))) (some (AT.av (.one (.bool Bool.false))))) (some (AT.av (.one (.bool Bool.false))))))))))) (cond (bne (near_Shapes_5 a0 a1 a2 b0 b1 b2) (0 : Int)) (some (AT.av (.one (.bool Bool.false)))) (cond (bne (near_Shapes_5 b0 b1 b2 a0 a1 a2) (0 : Int)) (some (AT.av (.one (.bool Bool.false)))) (cond (bne (near_Shapes_5 a0 a1 a2 a0 a1 a2) (0 : Int)) (some (AT.av (.one (.bool Bool.false)))) (cond (bne (near_Over_1 b0 b1 b2 a0 a1 a2) (0 : Int)) (some (AT.av (.one (.bool Bool.false)))) (cond (fNe (near_Shapes_0 a0 a1 a2 b0 b1 b2) (near_Shapes_0 b0 b1 b2 a0 a1 a2)) (some (AT.av (.one (.bool Bool.false)))) (cond (fNe (near_Shapes_0 a0 a1 a2 a0 a1 a2) (0 : Nat)) (some (AT.av (.one (.bool Bool.false)))) (cond (fEq (near_Shapes_0 a0 a1 a2 b0 b1 b2) (0 : Nat)) (some (AT.av (.one (.bool Bool.false)))) (cond (fGe (near_Shapes_0 a0 a1 a2 b0 b1 b2) (0 : Nat)) (cond (law10_calm a0 a1 a2) (cond (law10_calm b0 b1 b2) (cond (allF (rowOk (near_Shapes_0 a0 a1 a2 b0 b1 b2) a1 b1 a2 b2) (0 : Nat) (List.length a2)) (cond (fLe (near_Shapes_0 a0 a1 a2 b0 b1 b2) (4562146422526312448 : Nat)) (some (AT.av (.one (.bool Bool.true)))) (cond (isN (fsub (vec_Length (vec_Sub_0 (near_Shapes_3 a0 a1 a2 b0 b1 b2) (near_Shapes_4 a0 a1 a2 b0 b1 b2) (near_Shapes_1 a0 a1 a2 b0 b1 b2) (near_Shapes_2 a0 a1 a2 b0 b1 b2)) (vec_Sub_1 (near_Shapes_3 a0 a1 a2 b0 b1 b2) (near_Shapes_4 a0 a1 a2 b0 b1 b2) (near_Shapes_1 a0 a1 a2 b0 b1 b2) (near_Shapes_2 a0 a1 a2 b0 b1 b2))) (near_Shapes_0 a0 a1 a2 b0 b1 b2))) (none) (cond (fLe (nz (Int.toNat (Go.IntKind.wrap Go.IntKind.u64 (Nat.cast (BitVec.toNat (HAnd.hAnd (BitVec.ofInt (Go.IntKind.bits Go.IntKind.u64) (Nat.cast (fsub (vec_Length (vec_Sub_0 (near_Shapes_3 a0 a1 a2 b0 b1 b2) (near_Shapes_4 a0 a1 a2 b0 b1 b2) (near_Shapes_1 a0 a1 a2 b0 b1 b2) (near_Shapes_2 a0 a1 a2 b0 b1 b2)) (vec_Sub_1 (near_Shapes_3 a0 a1 a2 b0 b1 b2) (near_Shapes_4 a0 a1 a2 b0 b1 b2) (near_Shapes_1 a0 a1 a2 b0 b1 b2) (near_Shapes_2 a0 a1 a2 b0 b1 b2))) (near_Shapes_0 a0 a1 a2 b0 b1 b2)) : Int)) (Complement.complement (BitVec.ofInt (Go.IntKind.bits Go.IntKind.u64) (9223372036854775808 : Int))))) : Int)))) (4517110426252607488 : Nat)) (some (AT.av (.one (.bool Bool.true)))) (some (AT.av (.one (.bool Bool.false))))))) (some (AT.av (.one (.bool Bool.false))))) (some (AT.av (.one (.bool Bool.true))))) (some (AT.av (.one (.bool Bool.true))))) (some (AT.av (.one (.bool Bool.false))))))))))))))
  | _ => none
def e3 : Ent := ⟨d3, fun l K => match l with
  | [.av (.agg [.int .u8 a0, .flt a1, .sl a2]), .av (.agg [.int .u8 b0, .flt b1, .sl b2])] => cond (bne (shape_Check a0 a1 a2) (0 : Int)) (cond (bne (near_Shapes_5 a0 a1 a2 b0 b1 b2) (0 : Int)) (cond (bne (near_Shapes_5 b0 b1 b2 a0 a1 a2) (0 : Int)) (cond (Bool.and (fEq (near_Shapes_0 a0 a1 a2 b0 b1 b2) (0 : Nat)) (Bool.and (fEq (near_Shapes_1 a0 a1 a2 b0 b1 b2) (0 : Nat)) (Bool.and (fEq (near_Shapes_2 a0 a1 a2 b0 b1 b2) (0 : Nat)) (Bool.and (fEq (near_Shapes_3 a0 a1 a2 b0 b1 b2) (0 : Nat)) (Bool.and (fEq (near_Shapes_4 a0 a1 a2 b0 b1 b2) (0 : Nat)) Bool.true))))) (cond (Bool.and (fEq (near_Shapes_0 b0 b1 b2 a0 a1 a2) (0 : Nat)) (Bool.and (fEq (near_Shapes_1 b0 b1 b2 a0 a1 a2) (0 : Nat)) (Bool.and (fEq (near_Shapes_2 b0 b1 b2 a0 a1 a2) (0 : Nat)) (Bool.and (fEq (near_Shapes_3 b0 b1 b2 a0 a1 a2) (0 : Nat)) (Bool.and (fEq (near_Shapes_4 b0 b1 b2 a0 a1 a2) (0 : Nat)) Bool.true))))) (K (AT.av (.one (.bool Bool.true)))) (K (AT.av (.one (.bool Bool.false))))) (K (AT.av (.one (.bool Bool.false))))) (K (AT.av (.one (.bool Bool.false))))) (K (AT.av (.one (.bool Bool.false))))) (cond (bne (shape_Check b0 b1 b2) (0 : Int)) (cond (bne (near_Shapes_5 a0 a1 a2 b0 b1 b2) (0 : Int)) (cond (bne (near_Shapes_5 b0 b1 b2 a0 a1 a2) (0 : Int)) (cond (Bool.and (fEq (near_Shapes_0 a0 a1 a2 b0 b1 b2) (0 : Nat)) (Bool.and (fEq (near_Shapes_1 a0 a1 a2 b0 b1 b2) (0 : Nat)) (Bool.and (fEq (near_Shapes_2 a0 a1 a2 b0 b1 b2) (0 : Nat)) (Bool.and (fEq (near_Shapes_3 a0 a1 a2 b0 b1 b2) (0 : Nat)) (Bool.and (fEq (near_Shapes_4 a0 a1 a2 b0 b1 b2) (0 : Nat)) Bool.true))))) (cond (Bool.and (fEq (near_Shapes_0 b0 b1 b2 a0 a1 a2) (0 : Nat)) (Bool.and (fEq (near_Shapes_1 b0 b1 b2 a0 a1 a2) (0 : Nat)) (Bool.and (fEq (near_Shapes_2 b0 b1 b2 a0 a1 a2) (0 : Nat)) (Bool.and (fEq (near_Shapes_3 b0 b1 b2 a0 a1 a2) (0 : Nat)) (Bool.and (fEq (near_Shapes_4 b0 b1 b2 a0 a1 a2) (0 : Nat)) Bool.true))))) (K (AT.av (.one (.bool Bool.true)))) (K (AT.av (.one (.bool Bool.false))))) (K (AT.av (.one (.bool Bool.false))))) (K (AT.av (.one (.bool Bool.false))))) (K (AT.av (.one (.bool Bool.false))))) (cond (near_Over_0 b0 b1 b2 a0 a1 a2) (cond (bne (near_Shapes_5 a0 a1 a2 b0 b1 b2) (0 : Int)) (K (AT.av (.one (.bool Bool.false)))) (cond (bne (near_Shapes_5 b0 b1 b2 a0 a1 a2) (0 : Int)) (K (AT.av (.one (.bool Bool.false)))) (cond (bne (near_Shapes_5 a0 a1 a2 a0 a1 a2) (0 : Int)) (K (AT.av (.one (.bool Bool.false)))) (cond (bne (near_Over_1 b0 b1 b2 a0 a1 a2) (0 : Int)) (K (AT.av (.one (.bool Bool.false)))) (cond (fNe (near_Shapes_0 a0 a1 a2 b0 b1 b2) (near_Shapes_0 b0 b1 b2 a0 a1 a2)) (K (AT.av (.one (.bool Bool.false)))) (cond (fNe (near_Shapes_0 a0 a1 a2 a0 a1 a2) (0 : Nat)) (K (AT.av (.one (.bool Bool.false)))) (cond (fEq (near_Shapes_0 a0 a1 a2 b0 b1 b2) (0 : Nat)) (cond (fGe (near_Shapes_0 a0 a1 a2 b0 b1 b2) (0 : Nat)) (cond (law10_calm a0 a1 a2) (cond (law10_calm b0 b1 b2) (cond (allF (rowOk (near_Shapes_0 a0 a1 a2 b0 b1 b2) a1 b1 a2 b2) (0 : Nat) (List.length a2)) (cond (fLe (near_Shapes_0 a0 a1 a2 b0 b1 b2) (4562146422526312448 : Nat)) (K (AT.av (.one (.bool Bool.true)))) (cond (isN (fsub (vec_Length (vec_Sub_0 (near_Shapes_3 a0 a1 a2 b0 b1 b2) (near_Shapes_4 a0 a1 a2 b0 b1 b2) (near_Shapes_1 a0 a1 a2 b0 b1 b2) (near_Shapes_2 a0 a1 a2 b0 b1 b2)) (vec_Sub_1 (near_Shapes_3 a0 a1 a2 b0 b1 b2) (near_Shapes_4 a0 a1 a2 b0 b1 b2) (near_Shapes_1 a0 a1 a2 b0 b1 b2) (near_Shapes_2 a0 a1 a2 b0 b1 b2))) (near_Shapes_0 a0 a1 a2 b0 b1 b2))) (False) (cond (fLe (nz (Int.toNat (Go.IntKind.wrap Go.IntKind.u64 (Nat.cast (BitVec.toNat (HAnd.hAnd (BitVec.ofInt (Go.IntKind.bits Go.IntKind.u64) (Nat.cast (fsub (vec_Length (vec_Sub_0 (near_Shapes_3 a0 a1 a2 b0 b1 b2) (near_Shapes_4 a0 a1 a2 b0 b1 b2) (near_Shapes_1 a0 a1 a2 b0 b1 b2) (near_Shapes_2 a0 a1 a2 b0 b1 b2)) (vec_Sub_1 (near_Shapes_3 a0 a1 a2 b0 b1 b2) (near_Shapes_4 a0 a1 a2 b0 b1 b2) (near_Shapes_1 a0 a1 a2 b0 b1 b2) (near_Shapes_2 a0 a1 a2 b0 b1 b2))) (near_Shapes_0 a0 a1 a2 b0 b1 b2)) : Int)) (Complement.complement (BitVec.ofInt (Go.IntKind.bits Go.IntKind.u64) (9223372036854775808 : Int))))) : Int)))) (4517110426252607488 : Nat)) (K (AT.av (.one (.bool Bool.true)))) (K (AT.av (.one (.bool Bool.false))))))) (K (AT.av (.one (.bool Bool.false))))) (K (AT.av (.one (.bool Bool.true))))) (K (AT.av (.one (.bool Bool.true))))) (K (AT.av (.one (.bool Bool.false))))) (K (AT.av (.one (.bool Bool.false))))))))))) (cond (bne (near_Shapes_5 a0 a1 a2 b0 b1 b2) (0 : Int)) (K (AT.av (.one (.bool Bool.false)))) (cond (bne (near_Shapes_5 b0 b1 b2 a0 a1 a2) (0 : Int)) (K (AT.av (.one (.bool Bool.false)))) (cond (bne (near_Shapes_5 a0 a1 a2 a0 a1 a2) (0 : Int)) (K (AT.av (.one (.bool Bool.false)))) (cond (bne (near_Over_1 b0 b1 b2 a0 a1 a2) (0 : Int)) (K (AT.av (.one (.bool Bool.false)))) (cond (fNe (near_Shapes_0 a0 a1 a2 b0 b1 b2) (near_Shapes_0 b0 b1 b2 a0 a1 a2)) (K (AT.av (.one (.bool Bool.false)))) (cond (fNe (near_Shapes_0 a0 a1 a2 a0 a1 a2) (0 : Nat)) (K (AT.av (.one (.bool Bool.false)))) (cond (fEq (near_Shapes_0 a0 a1 a2 b0 b1 b2) (0 : Nat)) (K (AT.av (.one (.bool Bool.false)))) (cond (fGe (near_Shapes_0 a0 a1 a2 b0 b1 b2) (0 : Nat)) (cond (law10_calm a0 a1 a2) (cond (law10_calm b0 b1 b2) (cond (allF (rowOk (near_Shapes_0 a0 a1 a2 b0 b1 b2) a1 b1 a2 b2) (0 : Nat) (List.length a2)) (cond (fLe (near_Shapes_0 a0 a1 a2 b0 b1 b2) (4562146422526312448 : Nat)) (K (AT.av (.one (.bool Bool.true)))) (cond (isN (fsub (vec_Length (vec_Sub_0 (near_Shapes_3 a0 a1 a2 b0 b1 b2) (near_Shapes_4 a0 a1 a2 b0 b1 b2) (near_Shapes_1 a0 a1 a2 b0 b1 b2) (near_Shapes_2 a0 a1 a2 b0 b1 b2)) (vec_Sub_1 (near_Shapes_3 a0 a1 a2 b0 b1 b2) (near_Shapes_4 a0 a1 a2 b0 b1 b2) (near_Shapes_1 a0 a1 a2 b0 b1 b2) (near_Shapes_2 a0 a1 a2 b0 b1 b2))) (near_Shapes_0 a0 a1 a2 b0 b1 b2))) (False) (cond (fLe (nz (Int.toNat (Go.IntKind.wrap Go.IntKind.u64 (Nat.cast (BitVec.toNat (HAnd.hAnd (BitVec.ofInt (Go.IntKind.bits Go.IntKind.u64) (Nat.cast (fsub (vec_Length (vec_Sub_0 (near_Shapes_3 a0 a1 a2 b0 b1 b2) (near_Shapes_4 a0 a1 a2 b0 b1 b2) (near_Shapes_1 a0 a1 a2 b0 b1 b2) (near_Shapes_2 a0 a1 a2 b0 b1 b2)) (vec_Sub_1 (near_Shapes_3 a0 a1 a2 b0 b1 b2) (near_Shapes_4 a0 a1 a2 b0 b1 b2) (near_Shapes_1 a0 a1 a2 b0 b1 b2) (near_Shapes_2 a0 a1 a2 b0 b1 b2))) (near_Shapes_0 a0 a1 a2 b0 b1 b2)) : Int)) (Complement.complement (BitVec.ofInt (Go.IntKind.bits Go.IntKind.u64) (9223372036854775808 : Int))))) : Int)))) (4517110426252607488 : Nat)) (K (AT.av (.one (.bool Bool.true)))) (K (AT.av (.one (.bool Bool.false))))))) (K (AT.av (.one (.bool Bool.false))))) (K (AT.av (.one (.bool Bool.true))))) (K (AT.av (.one (.bool Bool.true))))) (K (AT.av (.one (.bool Bool.false))))))))))))))
  | _ => False⟩
theorem k3 (l : List AT) (K : AT → Prop) (h : e3.k l K) : ∃ r, e3.d l = some r ∧ K r := by
  simp only [e3] at h ⊢
  unfold d3
  split at h
  · rename_i a0 a1 a2 b0 b1 b2
    revert h
    cases (bne (shape_Check a0 a1 a2) (0 : Int)) with
    | true =>
        cases (bne (near_Shapes_5 a0 a1 a2 b0 b1 b2) (0 : Int)) with
        | true =>
            cases (bne (near_Shapes_5 b0 b1 b2 a0 a1 a2) (0 : Int)) with
            | true =>
                cases (Bool.and (fEq (near_Shapes_0 a0 a1 a2 b0 b1 b2) (0 : Nat)) (Bool.and (fEq (near_Shapes_1 a0 a1 a2 b0 b1 b2) (0 : Nat)) (Bool.and (fEq (near_Shapes_2 a0 a1 a2 b0 b1 b2) (0 : Nat)) (Bool.and (fEq (near_Shapes_3 a0 a1 a2 b0 b1 b2) (0 : Nat)) (Bool.and (fEq (near_Shapes_4 a0 a1 a2 b0 b1 b2) (0 : Nat)) Bool.true))))) with
                | true =>
                    cases (Bool.and (fEq (near_Shapes_0 b0 b1 b2 a0 a1 a2) (0 : Nat)) (Bool.and (fEq (near_Shapes_1 b0 b1 b2 a0 a1 a2) (0 : Nat)) (Bool.and (fEq (near_Shapes_2 b0 b1 b2 a0 a1 a2) (0 : Nat)) (Bool.and (fEq (near_Shapes_3 b0 b1 b2 a0 a1 a2) (0 : Nat)) (Bool.and (fEq (near_Shapes_4 b0 b1 b2 a0 a1 a2) (0 : Nat)) Bool.true))))) with
                    | true =>
                        intro h; exact ⟨_, rfl, h⟩
                    | false =>
                        intro h; exact ⟨_, rfl, h⟩
                | false =>
                    intro h; exact ⟨_, rfl, h⟩
            | false =>
                intro h; exact ⟨_, rfl, h⟩
        | false =>
            intro h; exact ⟨_, rfl, h⟩
    | false =>
        cases (bne (shape_Check b0 b1 b2) (0 : Int)) with
        | true =>
            cases (bne (near_Shapes_5 a0 a1 a2 b0 b1 b2) (0 : Int)) with
            | true =>
                cases (bne (near_Shapes_5 b0 b1 b2 a0 a1 a2) (0 : Int)) with
                | true =>
                    cases (Bool.and (fEq (near_Shapes_0 a0 a1 a2 b0 b1 b2) (0 : Nat)) (Bool.and (fEq (near_Shapes_1 a0 a1 a2 b0 b1 b2) (0 : Nat)) (Bool.and (fEq (near_Shapes_2 a0 a1 a2 b0 b1 b2) (0 : Nat)) (Bool.and (fEq (near_Shapes_3 a0 a1 a2 b0 b1 b2) (0 : Nat)) (Bool.and (fEq (near_Shapes_4 a0 a1 a2 b0 b1 b2) (0 : Nat)) Bool.true))))) with
                    | true =>
                        cases (Bool.and (fEq (near_Shapes_0 b0 b1 b2 a0 a1 a2) (0 : Nat)) (Bool.and (fEq (near_Shapes_1 b0 b1 b2 a0 a1 a2) (0 : Nat)) (Bool.and (fEq (near_Shapes_2 b0 b1 b2 a0 a1 a2) (0 : Nat)) (Bool.and (fEq (near_Shapes_3 b0 b1 b2 a0 a1 a2) (0 : Nat)) (Bool.and (fEq (near_Shapes_4 b0 b1 b2 a0 a1 a2) (0 : Nat)) Bool.true))))) with
                        | true =>
                            intro h; exact ⟨_, rfl, h⟩
                        | false =>
                            intro h; exact ⟨_, rfl, h⟩
                    | false =>
                        intro h; exact ⟨_, rfl, h⟩
                | false =>
                    intro h; exact ⟨_, rfl, h⟩
            | false =>
                intro h; exact ⟨_, rfl, h⟩
        | false =>
            cases (near_Over_0 b0 b1 b2 a0 a1 a2) with
            | true =>
                cases (bne (near_Shapes_5 a0 a1 a2 b0 b1 b2) (0 : Int)) with
                | true =>
                    intro h; exact ⟨_, rfl, h⟩
                | false =>
                    cases (bne (near_Shapes_5 b0 b1 b2 a0 a1 a2) (0 : Int)) with
                    | true =>
                        intro h; exact ⟨_, rfl, h⟩
                    | false =>
                        cases (bne (near_Shapes_5 a0 a1 a2 a0 a1 a2) (0 : Int)) with
                        | true =>
                            intro h; exact ⟨_, rfl, h⟩
                        | false =>
                            cases (bne (near_Over_1 b0 b1 b2 a0 a1 a2) (0 : Int)) with
                            | true =>
                                intro h; exact ⟨_, rfl, h⟩
                            | false =>
                                cases (fNe (near_Shapes_0 a0 a1 a2 b0 b1 b2) (near_Shapes_0 b0 b1 b2 a0 a1 a2)) with
                                | true =>
                                    intro h; exact ⟨_, rfl, h⟩
                                | false =>
                                    cases (fNe (near_Shapes_0 a0 a1 a2 a0 a1 a2) (0 : Nat)) with
                                    | true =>
                                        intro h; exact ⟨_, rfl, h⟩
                                    | false =>
                                        cases (fEq (near_Shapes_0 a0 a1 a2 b0 b1 b2) (0 : Nat)) with
                                        | true =>
                                            cases (fGe (near_Shapes_0 a0 a1 a2 b0 b1 b2) (0 : Nat)) with
                                            | true =>
                                                cases (law10_calm a0 a1 a2) with
                                                | true =>
                                                    cases (law10_calm b0 b1 b2) with
                                                    | true =>
                                                        cases (allF (rowOk (near_Shapes_0 a0 a1 a2 b0 b1 b2) a1 b1 a2 b2) (0 : Nat) (List.length a2)) with
                                                        | true =>
                                                            cases (fLe (near_Shapes_0 a0 a1 a2 b0 b1 b2) (4562146422526312448 : Nat)) with
                                                            | true =>
                                                                intro h; exact ⟨_, rfl, h⟩
                                                            | false =>
                                                                cases (isN (fsub (vec_Length (vec_Sub_0 (near_Shapes_3 a0 a1 a2 b0 b1 b2) (near_Shapes_4 a0 a1 a2 b0 b1 b2) (near_Shapes_1 a0 a1 a2 b0 b1 b2) (near_Shapes_2 a0 a1 a2 b0 b1 b2)) (vec_Sub_1 (near_Shapes_3 a0 a1 a2 b0 b1 b2) (near_Shapes_4 a0 a1 a2 b0 b1 b2) (near_Shapes_1 a0 a1 a2 b0 b1 b2) (near_Shapes_2 a0 a1 a2 b0 b1 b2))) (near_Shapes_0 a0 a1 a2 b0 b1 b2))) with
                                                                | true =>
                                                                    intro h; exact h.elim
                                                                | false =>
                                                                    cases (fLe (nz (Int.toNat (Go.IntKind.wrap Go.IntKind.u64 (Nat.cast (BitVec.toNat (HAnd.hAnd (BitVec.ofInt (Go.IntKind.bits Go.IntKind.u64) (Nat.cast (fsub (vec_Length (vec_Sub_0 (near_Shapes_3 a0 a1 a2 b0 b1 b2) (near_Shapes_4 a0 a1 a2 b0 b1 b2) (near_Shapes_1 a0 a1 a2 b0 b1 b2) (near_Shapes_2 a0 a1 a2 b0 b1 b2)) (vec_Sub_1 (near_Shapes_3 a0 a1 a2 b0 b1 b2) (near_Shapes_4 a0 a1 a2 b0 b1 b2) (near_Shapes_1 a0 a1 a2 b0 b1 b2) (near_Shapes_2 a0 a1 a2 b0 b1 b2))) (near_Shapes_0 a0 a1 a2 b0 b1 b2)) : Int)) (Complement.complement (BitVec.ofInt (Go.IntKind.bits Go.IntKind.u64) (9223372036854775808 : Int))))) : Int)))) (4517110426252607488 : Nat)) with
                                                                    | true =>
                                                                        intro h; exact ⟨_, rfl, h⟩
                                                                    | false =>
                                                                        intro h; exact ⟨_, rfl, h⟩
                                                        | false =>
                                                            intro h; exact ⟨_, rfl, h⟩
                                                    | false =>
                                                        intro h; exact ⟨_, rfl, h⟩
                                                | false =>
                                                    intro h; exact ⟨_, rfl, h⟩
                                            | false =>
                                                intro h; exact ⟨_, rfl, h⟩
                                        | false =>
                                            intro h; exact ⟨_, rfl, h⟩
            | false =>
                cases (bne (near_Shapes_5 a0 a1 a2 b0 b1 b2) (0 : Int)) with
                | true =>
                    intro h; exact ⟨_, rfl, h⟩
                | false =>
                    cases (bne (near_Shapes_5 b0 b1 b2 a0 a1 a2) (0 : Int)) with
                    | true =>
                        intro h; exact ⟨_, rfl, h⟩
                    | false =>
                        cases (bne (near_Shapes_5 a0 a1 a2 a0 a1 a2) (0 : Int)) with
                        | true =>
                            intro h; exact ⟨_, rfl, h⟩
                        | false =>
                            cases (bne (near_Over_1 b0 b1 b2 a0 a1 a2) (0 : Int)) with
                            | true =>
                                intro h; exact ⟨_, rfl, h⟩
                            | false =>
                                cases (fNe (near_Shapes_0 a0 a1 a2 b0 b1 b2) (near_Shapes_0 b0 b1 b2 a0 a1 a2)) with
                                | true =>
                                    intro h; exact ⟨_, rfl, h⟩
                                | false =>
                                    cases (fNe (near_Shapes_0 a0 a1 a2 a0 a1 a2) (0 : Nat)) with
                                    | true =>
                                        intro h; exact ⟨_, rfl, h⟩
                                    | false =>
                                        cases (fEq (near_Shapes_0 a0 a1 a2 b0 b1 b2) (0 : Nat)) with
                                        | true =>
                                            intro h; exact ⟨_, rfl, h⟩
                                        | false =>
                                            cases (fGe (near_Shapes_0 a0 a1 a2 b0 b1 b2) (0 : Nat)) with
                                            | true =>
                                                cases (law10_calm a0 a1 a2) with
                                                | true =>
                                                    cases (law10_calm b0 b1 b2) with
                                                    | true =>
                                                        cases (allF (rowOk (near_Shapes_0 a0 a1 a2 b0 b1 b2) a1 b1 a2 b2) (0 : Nat) (List.length a2)) with
                                                        | true =>
                                                            cases (fLe (near_Shapes_0 a0 a1 a2 b0 b1 b2) (4562146422526312448 : Nat)) with
                                                            | true =>
                                                                intro h; exact ⟨_, rfl, h⟩
                                                            | false =>
                                                                cases (isN (fsub (vec_Length (vec_Sub_0 (near_Shapes_3 a0 a1 a2 b0 b1 b2) (near_Shapes_4 a0 a1 a2 b0 b1 b2) (near_Shapes_1 a0 a1 a2 b0 b1 b2) (near_Shapes_2 a0 a1 a2 b0 b1 b2)) (vec_Sub_1 (near_Shapes_3 a0 a1 a2 b0 b1 b2) (near_Shapes_4 a0 a1 a2 b0 b1 b2) (near_Shapes_1 a0 a1 a2 b0 b1 b2) (near_Shapes_2 a0 a1 a2 b0 b1 b2))) (near_Shapes_0 a0 a1 a2 b0 b1 b2))) with
                                                                | true =>
                                                                    intro h; exact h.elim
                                                                | false =>
                                                                    cases (fLe (nz (Int.toNat (Go.IntKind.wrap Go.IntKind.u64 (Nat.cast (BitVec.toNat (HAnd.hAnd (BitVec.ofInt (Go.IntKind.bits Go.IntKind.u64) (Nat.cast (fsub (vec_Length (vec_Sub_0 (near_Shapes_3 a0 a1 a2 b0 b1 b2) (near_Shapes_4 a0 a1 a2 b0 b1 b2) (near_Shapes_1 a0 a1 a2 b0 b1 b2) (near_Shapes_2 a0 a1 a2 b0 b1 b2)) (vec_Sub_1 (near_Shapes_3 a0 a1 a2 b0 b1 b2) (near_Shapes_4 a0 a1 a2 b0 b1 b2) (near_Shapes_1 a0 a1 a2 b0 b1 b2) (near_Shapes_2 a0 a1 a2 b0 b1 b2))) (near_Shapes_0 a0 a1 a2 b0 b1 b2)) : Int)) (Complement.complement (BitVec.ofInt (Go.IntKind.bits Go.IntKind.u64) (9223372036854775808 : Int))))) : Int)))) (4517110426252607488 : Nat)) with
                                                                    | true =>
                                                                        intro h; exact ⟨_, rfl, h⟩
                                                                    | false =>
                                                                        intro h; exact ⟨_, rfl, h⟩
                                                        | false =>
                                                            intro h; exact ⟨_, rfl, h⟩
                                                    | false =>
                                                        intro h; exact ⟨_, rfl, h⟩
                                                | false =>
                                                    intro h; exact ⟨_, rfl, h⟩
                                            | false =>
                                                intro h; exact ⟨_, rfl, h⟩
  · exact h.elim
theorem c3 : CallOk Pr 3 e3 := by
  refine callOk_autoL (T := tb 174 [(6, e6), (7, e7), (8, e8), (9, e9), (10, e10), (11, e11), (12, e12), (13, e13), (14, e14)] [] [(13, s3)]) (tb_ok (fnCons c6 (fnCons c7 (fnCons c8 (fnCons c9 (fnCons c10 (fnCons c11 (fnCons c12 (fnCons c13 (fnCons c14 (fnNil _)))))))))) (fnBNil _)) Try.func3 rfl (by decide) rfl (loops1 (by kernel_rfl) rfl lo3) k3 ?_
  intro l r h hb
  change d3 l = some r at h
  unfold d3 at h
  split at h
  · rename_i a0 a1 a2 b0 b1 b2
    have key : (Nat.ble 2 Try.f3.ntmps = true ∧ noNmT [r] = true ∧ (cond (bne (shape_Check a0 a1 a2) (0 : Int)) (cond (bne (near_Shapes_5 a0 a1 a2 b0 b1 b2) (0 : Int)) (cond (bne (near_Shapes_5 b0 b1 b2 a0 a1 a2) (0 : Int)) (cond (Bool.and (fEq (near_Shapes_0 a0 a1 a2 b0 b1 b2) (0 : Nat)) (Bool.and (fEq (near_Shapes_1 a0 a1 a2 b0 b1 b2) (0 : Nat)) (Bool.and (fEq (near_Shapes_2 a0 a1 a2 b0 b1 b2) (0 : Nat)) (Bool.and (fEq (near_Shapes_3 a0 a1 a2 b0 b1 b2) (0 : Nat)) (Bool.and (fEq (near_Shapes_4 a0 a1 a2 b0 b1 b2) (0 : Nat)) Bool.true))))) (cond (Bool.and (fEq (near_Shapes_0 b0 b1 b2 a0 a1 a2) (0 : Nat)) (Bool.and (fEq (near_Shapes_1 b0 b1 b2 a0 a1 a2) (0 : Nat)) (Bool.and (fEq (near_Shapes_2 b0 b1 b2 a0 a1 a2) (0 : Nat)) (Bool.and (fEq (near_Shapes_3 b0 b1 b2 a0 a1 a2) (0 : Nat)) (Bool.and (fEq (near_Shapes_4 b0 b1 b2 a0 a1 a2) (0 : Nat)) Bool.true))))) (AT.av (.one (.bool Bool.true)) = r) (AT.av (.one (.bool Bool.false)) = r)) (AT.av (.one (.bool Bool.false)) = r)) (AT.av (.one (.bool Bool.false)) = r)) (AT.av (.one (.bool Bool.false)) = r)) (cond (bne (shape_Check b0 b1 b2) (0 : Int)) (cond (bne (near_Shapes_5 a0 a1 a2 b0 b1 b2) (0 : Int)) (cond (bne (near_Shapes_5 b0 b1 b2 a0 a1 a2) (0 : Int)) (cond (Bool.and (fEq (near_Shapes_0 a0 a1 a2 b0 b1 b2) (0 : Nat)) (Bool.and (fEq (near_Shapes_1 a0 a1 a2 b0 b1 b2) (0 : Nat)) (Bool.and (fEq (near_Shapes_2 a0 a1 a2 b0 b1 b2) (0 : Nat)) (Bool.and (fEq (near_Shapes_3 a0 a1 a2 b0 b1 b2) (0 : Nat)) (Bool.and (fEq (near_Shapes_4 a0 a1 a2 b0 b1 b2) (0 : Nat)) Bool.true))))) (cond (Bool.and (fEq (near_Shapes_0 b0 b1 b2 a0 a1 a2) (0 : Nat)) (Bool.and (fEq (near_Shapes_1 b0 b1 b2 a0 a1 a2) (0 : Nat)) (Bool.and (fEq (near_Shapes_2 b0 b1 b2 a0 a1 a2) (0 : Nat)) (Bool.and (fEq (near_Shapes_3 b0 b1 b2 a0 a1 a2) (0 : Nat)) (Bool.and (fEq (near_Shapes_4 b0 b1 b2 a0 a1 a2) (0 : Nat)) Bool.true))))) (AT.av (.one (.bool Bool.true)) = r) (AT.av (.one (.bool Bool.false)) = r)) (AT.av (.one (.bool Bool.false)) = r)) (AT.av (.one (.bool Bool.false)) = r)) (AT.av (.one (.bool Bool.false)) = r)) (cond (near_Over_0 b0 b1 b2 a0 a1 a2) (cond (bne (near_Shapes_5 a0 a1 a2 b0 b1 b2) (0 : Int)) (AT.av (.one (.bool Bool.false)) = r) (cond (bne (near_Shapes_5 b0 b1 b2 a0 a1 a2) (0 : Int)) (AT.av (.one (.bool Bool.false)) = r) (cond (bne (near_Shapes_5 a0 a1 a2 a0 a1 a2) (0 : Int)) (AT.av (.one (.bool Bool.false)) = r) (cond (bne (near_Over_1 b0 b1 b2 a0 a1 a2) (0 : Int)) (AT.av (.one (.bool Bool.false)) = r) (cond (fNe (near_Shapes_0 a0 a1 a2 b0 b1 b2) (near_Shapes_0 b0 b1 b2 a0 a1 a2)) (AT.av (.one (.bool Bool.false)) = r) (cond (fNe (near_Shapes_0 a0 a1 a2 a0 a1 a2) (0 : Nat)) (AT.av (.one (.bool Bool.false)) = r) (cond (fEq (near_Shapes_0 a0 a1 a2 b0 b1 b2) (0 : Nat)) (cond (fGe (near_Shapes_0 a0 a1 a2 b0 b1 b2) (0 : Nat)) (cond (law10_calm a0 a1 a2) (cond (law10_calm b0 b1 b2) (And (And (LE.le (List.length a2) (8796093022208 : Nat)) (LE.le (List.length b2) (8796093022208 : Nat))) (cond (allF (rowOk (near_Shapes_0 a0 a1 a2 b0 b1 b2) a1 b1 a2 b2) (0 : Nat) (List.length a2)) (cond (fLe (near_Shapes_0 a0 a1 a2 b0 b1 b2) (4562146422526312448 : Nat)) (AT.av (.one (.bool Bool.true)) = r) (cond (isN (fsub (vec_Length (vec_Sub_0 (near_Shapes_3 a0 a1 a2 b0 b1 b2) (near_Shapes_4 a0 a1 a2 b0 b1 b2) (near_Shapes_1 a0 a1 a2 b0 b1 b2) (near_Shapes_2 a0 a1 a2 b0 b1 b2)) (vec_Sub_1 (near_Shapes_3 a0 a1 a2 b0 b1 b2) (near_Shapes_4 a0 a1 a2 b0 b1 b2) (near_Shapes_1 a0 a1 a2 b0 b1 b2) (near_Shapes_2 a0 a1 a2 b0 b1 b2))) (near_Shapes_0 a0 a1 a2 b0 b1 b2))) (False) (cond (fLe (nz (Int.toNat (Go.IntKind.wrap Go.IntKind.u64 (Nat.cast (BitVec.toNat (HAnd.hAnd (BitVec.ofInt (Go.IntKind.bits Go.IntKind.u64) (Nat.cast (fsub (vec_Length (vec_Sub_0 (near_Shapes_3 a0 a1 a2 b0 b1 b2) (near_Shapes_4 a0 a1 a2 b0 b1 b2) (near_Shapes_1 a0 a1 a2 b0 b1 b2) (near_Shapes_2 a0 a1 a2 b0 b1 b2)) (vec_Sub_1 (near_Shapes_3 a0 a1 a2 b0 b1 b2) (near_Shapes_4 a0 a1 a2 b0 b1 b2) (near_Shapes_1 a0 a1 a2 b0 b1 b2) (near_Shapes_2 a0 a1 a2 b0 b1 b2))) (near_Shapes_0 a0 a1 a2 b0 b1 b2)) : Int)) (Complement.complement (BitVec.ofInt (Go.IntKind.bits Go.IntKind.u64) (9223372036854775808 : Int))))) : Int)))) (4517110426252607488 : Nat)) (AT.av (.one (.bool Bool.true)) = r) (AT.av (.one (.bool Bool.false)) = r)))) (AT.av (.one (.bool Bool.false)) = r))) (AT.av (.one (.bool Bool.true)) = r)) (AT.av (.one (.bool Bool.true)) = r)) (AT.av (.one (.bool Bool.false)) = r)) (AT.av (.one (.bool Bool.false)) = r)))))))) (cond (bne (near_Shapes_5 a0 a1 a2 b0 b1 b2) (0 : Int)) (AT.av (.one (.bool Bool.false)) = r) (cond (bne (near_Shapes_5 b0 b1 b2 a0 a1 a2) (0 : Int)) (AT.av (.one (.bool Bool.false)) = r) (cond (bne (near_Shapes_5 a0 a1 a2 a0 a1 a2) (0 : Int)) (AT.av (.one (.bool Bool.false)) = r) (cond (bne (near_Over_1 b0 b1 b2 a0 a1 a2) (0 : Int)) (AT.av (.one (.bool Bool.false)) = r) (cond (fNe (near_Shapes_0 a0 a1 a2 b0 b1 b2) (near_Shapes_0 b0 b1 b2 a0 a1 a2)) (AT.av (.one (.bool Bool.false)) = r) (cond (fNe (near_Shapes_0 a0 a1 a2 a0 a1 a2) (0 : Nat)) (AT.av (.one (.bool Bool.false)) = r) (cond (fEq (near_Shapes_0 a0 a1 a2 b0 b1 b2) (0 : Nat)) (AT.av (.one (.bool Bool.false)) = r) (cond (fGe (near_Shapes_0 a0 a1 a2 b0 b1 b2) (0 : Nat)) (cond (law10_calm a0 a1 a2) (cond (law10_calm b0 b1 b2) (And (And (LE.le (List.length a2) (8796093022208 : Nat)) (LE.le (List.length b2) (8796093022208 : Nat))) (cond (allF (rowOk (near_Shapes_0 a0 a1 a2 b0 b1 b2) a1 b1 a2 b2) (0 : Nat) (List.length a2)) (cond (fLe (near_Shapes_0 a0 a1 a2 b0 b1 b2) (4562146422526312448 : Nat)) (AT.av (.one (.bool Bool.true)) = r) (cond (isN (fsub (vec_Length (vec_Sub_0 (near_Shapes_3 a0 a1 a2 b0 b1 b2) (near_Shapes_4 a0 a1 a2 b0 b1 b2) (near_Shapes_1 a0 a1 a2 b0 b1 b2) (near_Shapes_2 a0 a1 a2 b0 b1 b2)) (vec_Sub_1 (near_Shapes_3 a0 a1 a2 b0 b1 b2) (near_Shapes_4 a0 a1 a2 b0 b1 b2) (near_Shapes_1 a0 a1 a2 b0 b1 b2) (near_Shapes_2 a0 a1 a2 b0 b1 b2))) (near_Shapes_0 a0 a1 a2 b0 b1 b2))) (False) (cond (fLe (nz (Int.toNat (Go.IntKind.wrap Go.IntKind.u64 (Nat.cast (BitVec.toNat (HAnd.hAnd (BitVec.ofInt (Go.IntKind.bits Go.IntKind.u64) (Nat.cast (fsub (vec_Length (vec_Sub_0 (near_Shapes_3 a0 a1 a2 b0 b1 b2) (near_Shapes_4 a0 a1 a2 b0 b1 b2) (near_Shapes_1 a0 a1 a2 b0 b1 b2) (near_Shapes_2 a0 a1 a2 b0 b1 b2)) (vec_Sub_1 (near_Shapes_3 a0 a1 a2 b0 b1 b2) (near_Shapes_4 a0 a1 a2 b0 b1 b2) (near_Shapes_1 a0 a1 a2 b0 b1 b2) (near_Shapes_2 a0 a1 a2 b0 b1 b2))) (near_Shapes_0 a0 a1 a2 b0 b1 b2)) : Int)) (Complement.complement (BitVec.ofInt (Go.IntKind.bits Go.IntKind.u64) (9223372036854775808 : Int))))) : Int)))) (4517110426252607488 : Nat)) (AT.av (.one (.bool Bool.true)) = r) (AT.av (.one (.bool Bool.false)) = r)))) (AT.av (.one (.bool Bool.false)) = r))) (AT.av (.one (.bool Bool.true)) = r)) (AT.av (.one (.bool Bool.true)) = r)) (AT.av (.one (.bool Bool.false)) = r))))))))))))) := by
      revert h
      cases hc1 : (bne (shape_Check a0 a1 a2) (0 : Int)) with
      | true =>
          cases hc2 : (bne (near_Shapes_5 a0 a1 a2 b0 b1 b2) (0 : Int)) with
          | true =>
              cases hc3 : (bne (near_Shapes_5 b0 b1 b2 a0 a1 a2) (0 : Int)) with
              | true =>
                  cases hc4 : (Bool.and (fEq (near_Shapes_0 a0 a1 a2 b0 b1 b2) (0 : Nat)) (Bool.and (fEq (near_Shapes_1 a0 a1 a2 b0 b1 b2) (0 : Nat)) (Bool.and (fEq (near_Shapes_2 a0 a1 a2 b0 b1 b2) (0 : Nat)) (Bool.and (fEq (near_Shapes_3 a0 a1 a2 b0 b1 b2) (0 : Nat)) (Bool.and (fEq (near_Shapes_4 a0 a1 a2 b0 b1 b2) (0 : Nat)) Bool.true))))) with
                  | true =>
                      cases hc5 : (Bool.and (fEq (near_Shapes_0 b0 b1 b2 a0 a1 a2) (0 : Nat)) (Bool.and (fEq (near_Shapes_1 b0 b1 b2 a0 a1 a2) (0 : Nat)) (Bool.and (fEq (near_Shapes_2 b0 b1 b2 a0 a1 a2) (0 : Nat)) (Bool.and (fEq (near_Shapes_3 b0 b1 b2 a0 a1 a2) (0 : Nat)) (Bool.and (fEq (near_Shapes_4 b0 b1 b2 a0 a1 a2) (0 : Nat)) Bool.true))))) with
                      | true =>
                          intro h; cases h; exact ⟨rfl, rfl, rfl⟩
                      | false =>
                          intro h; cases h; exact ⟨rfl, rfl, rfl⟩
                  | false =>
                      intro h; cases h; exact ⟨rfl, rfl, rfl⟩
              | false =>
                  intro h; cases h; exact ⟨rfl, rfl, rfl⟩
          | false =>
              intro h; cases h; exact ⟨rfl, rfl, rfl⟩
      | false =>
          cases hc6 : (bne (shape_Check b0 b1 b2) (0 : Int)) with
          | true =>
              cases hc7 : (bne (near_Shapes_5 a0 a1 a2 b0 b1 b2) (0 : Int)) with
              | true =>
                  cases hc8 : (bne (near_Shapes_5 b0 b1 b2 a0 a1 a2) (0 : Int)) with
                  | true =>
                      cases hc9 : (Bool.and (fEq (near_Shapes_0 a0 a1 a2 b0 b1 b2) (0 : Nat)) (Bool.and (fEq (near_Shapes_1 a0 a1 a2 b0 b1 b2) (0 : Nat)) (Bool.and (fEq (near_Shapes_2 a0 a1 a2 b0 b1 b2) (0 : Nat)) (Bool.and (fEq (near_Shapes_3 a0 a1 a2 b0 b1 b2) (0 : Nat)) (Bool.and (fEq (near_Shapes_4 a0 a1 a2 b0 b1 b2) (0 : Nat)) Bool.true))))) with
                      | true =>
                          cases hc10 : (Bool.and (fEq (near_Shapes_0 b0 b1 b2 a0 a1 a2) (0 : Nat)) (Bool.and (fEq (near_Shapes_1 b0 b1 b2 a0 a1 a2) (0 : Nat)) (Bool.and (fEq (near_Shapes_2 b0 b1 b2 a0 a1 a2) (0 : Nat)) (Bool.and (fEq (near_Shapes_3 b0 b1 b2 a0 a1 a2) (0 : Nat)) (Bool.and (fEq (near_Shapes_4 b0 b1 b2 a0 a1 a2) (0 : Nat)) Bool.true))))) with
                          | true =>
                              intro h; cases h; exact ⟨rfl, rfl, rfl⟩
                          | false =>
                              intro h; cases h; exact ⟨rfl, rfl, rfl⟩
                      | false =>
                          intro h; cases h; exact ⟨rfl, rfl, rfl⟩
                  | false =>
                      intro h; cases h; exact ⟨rfl, rfl, rfl⟩
              | false =>
                  intro h; cases h; exact ⟨rfl, rfl, rfl⟩
          | false =>
              cases hc11 : (near_Over_0 b0 b1 b2 a0 a1 a2) with
              | true =>
                  cases hc12 : (bne (near_Shapes_5 a0 a1 a2 b0 b1 b2) (0 : Int)) with
                  | true =>
                      intro h; cases h; exact ⟨rfl, rfl, rfl⟩
                  | false =>
                      cases hc13 : (bne (near_Shapes_5 b0 b1 b2 a0 a1 a2) (0 : Int)) with
                      | true =>
                          intro h; cases h; exact ⟨rfl, rfl, rfl⟩
                      | false =>
                          cases hc14 : (bne (near_Shapes_5 a0 a1 a2 a0 a1 a2) (0 : Int)) with
                          | true =>
                              intro h; cases h; exact ⟨rfl, rfl, rfl⟩
                          | false =>
                              cases hc15 : (bne (near_Over_1 b0 b1 b2 a0 a1 a2) (0 : Int)) with
                              | true =>
                                  intro h; cases h; exact ⟨rfl, rfl, rfl⟩
                              | false =>
                                  cases hc16 : (fNe (near_Shapes_0 a0 a1 a2 b0 b1 b2) (near_Shapes_0 b0 b1 b2 a0 a1 a2)) with
                                  | true =>
                                      intro h; cases h; exact ⟨rfl, rfl, rfl⟩
                                  | false =>
                                      cases hc17 : (fNe (near_Shapes_0 a0 a1 a2 a0 a1 a2) (0 : Nat)) with
                                      | true =>
                                          intro h; cases h; exact ⟨rfl, rfl, rfl⟩
                                      | false =>
                                          cases hc18 : (fEq (near_Shapes_0 a0 a1 a2 b0 b1 b2) (0 : Nat)) with
                                          | true =>
                                              cases hc19 : (fGe (near_Shapes_0 a0 a1 a2 b0 b1 b2) (0 : Nat)) with
                                              | true =>
                                                  cases hc20 : (law10_calm a0 a1 a2) with
                                                  | true =>
                                                      cases hc21 : (law10_calm b0 b1 b2) with
                                                      | true =>
                                                          cases hc22 : (allF (rowOk (near_Shapes_0 a0 a1 a2 b0 b1 b2) a1 b1 a2 b2) (0 : Nat) (List.length a2)) with
                                                          | true =>
                                                              cases hc23 : (fLe (near_Shapes_0 a0 a1 a2 b0 b1 b2) (4562146422526312448 : Nat)) with
                                                              | true =>
                                                                  intro h; cases h; exact ⟨rfl, rfl, (by exact ⟨hb (.av (.agg [.int .u8 a0, .flt a1, .sl a2])) (by simp) (.sl a2) (by simp), hb (.av (.agg [.int .u8 b0, .flt b1, .sl b2])) (by simp) (.sl b2) (by simp)⟩), rfl⟩
                                                              | false =>
                                                                  cases hc24 : (isN (fsub (vec_Length (vec_Sub_0 (near_Shapes_3 a0 a1 a2 b0 b1 b2) (near_Shapes_4 a0 a1 a2 b0 b1 b2) (near_Shapes_1 a0 a1 a2 b0 b1 b2) (near_Shapes_2 a0 a1 a2 b0 b1 b2)) (vec_Sub_1 (near_Shapes_3 a0 a1 a2 b0 b1 b2) (near_Shapes_4 a0 a1 a2 b0 b1 b2) (near_Shapes_1 a0 a1 a2 b0 b1 b2) (near_Shapes_2 a0 a1 a2 b0 b1 b2))) (near_Shapes_0 a0 a1 a2 b0 b1 b2))) with
                                                                  | true =>
                                                                      intro h; cases h
                                                                  | false =>
                                                                      cases hc25 : (fLe (nz (Int.toNat (Go.IntKind.wrap Go.IntKind.u64 (Nat.cast (BitVec.toNat (HAnd.hAnd (BitVec.ofInt (Go.IntKind.bits Go.IntKind.u64) (Nat.cast (fsub (vec_Length (vec_Sub_0 (near_Shapes_3 a0 a1 a2 b0 b1 b2) (near_Shapes_4 a0 a1 a2 b0 b1 b2) (near_Shapes_1 a0 a1 a2 b0 b1 b2) (near_Shapes_2 a0 a1 a2 b0 b1 b2)) (vec_Sub_1 (near_Shapes_3 a0 a1 a2 b0 b1 b2) (near_Shapes_4 a0 a1 a2 b0 b1 b2) (near_Shapes_1 a0 a1 a2 b0 b1 b2) (near_Shapes_2 a0 a1 a2 b0 b1 b2))) (near_Shapes_0 a0 a1 a2 b0 b1 b2)) : Int)) (Complement.complement (BitVec.ofInt (Go.IntKind.bits Go.IntKind.u64) (9223372036854775808 : Int))))) : Int)))) (4517110426252607488 : Nat)) with
                                                                      | true =>
                                                                          intro h; cases h; exact ⟨rfl, rfl, (by exact ⟨hb (.av (.agg [.int .u8 a0, .flt a1, .sl a2])) (by simp) (.sl a2) (by simp), hb (.av (.agg [.int .u8 b0, .flt b1, .sl b2])) (by simp) (.sl b2) (by simp)⟩), rfl⟩
                                                                      | false =>
                                                                          intro h; cases h; exact ⟨rfl, rfl, (by exact ⟨hb (.av (.agg [.int .u8 a0, .flt a1, .sl a2])) (by simp) (.sl a2) (by simp), hb (.av (.agg [.int .u8 b0, .flt b1, .sl b2])) (by simp) (.sl b2) (by simp)⟩), rfl⟩
                                                          | false =>
                                                              intro h; cases h; exact ⟨rfl, rfl, (by exact ⟨hb (.av (.agg [.int .u8 a0, .flt a1, .sl a2])) (by simp) (.sl a2) (by simp), hb (.av (.agg [.int .u8 b0, .flt b1, .sl b2])) (by simp) (.sl b2) (by simp)⟩), rfl⟩
                                                      | false =>
                                                          intro h; cases h; exact ⟨rfl, rfl, rfl⟩
                                                  | false =>
                                                      intro h; cases h; exact ⟨rfl, rfl, rfl⟩
                                              | false =>
                                                  intro h; cases h; exact ⟨rfl, rfl, rfl⟩
                                          | false =>
                                              intro h; cases h; exact ⟨rfl, rfl, rfl⟩
              | false =>
                  cases hc26 : (bne (near_Shapes_5 a0 a1 a2 b0 b1 b2) (0 : Int)) with
                  | true =>
                      intro h; cases h; exact ⟨rfl, rfl, rfl⟩
                  | false =>
                      cases hc27 : (bne (near_Shapes_5 b0 b1 b2 a0 a1 a2) (0 : Int)) with
                      | true =>
                          intro h; cases h; exact ⟨rfl, rfl, rfl⟩
                      | false =>
                          cases hc28 : (bne (near_Shapes_5 a0 a1 a2 a0 a1 a2) (0 : Int)) with
                          | true =>
                              intro h; cases h; exact ⟨rfl, rfl, rfl⟩
                          | false =>
                              cases hc29 : (bne (near_Over_1 b0 b1 b2 a0 a1 a2) (0 : Int)) with
                              | true =>
                                  intro h; cases h; exact ⟨rfl, rfl, rfl⟩
                              | false =>
                                  cases hc30 : (fNe (near_Shapes_0 a0 a1 a2 b0 b1 b2) (near_Shapes_0 b0 b1 b2 a0 a1 a2)) with
                                  | true =>
                                      intro h; cases h; exact ⟨rfl, rfl, rfl⟩
                                  | false =>
                                      cases hc31 : (fNe (near_Shapes_0 a0 a1 a2 a0 a1 a2) (0 : Nat)) with
                                      | true =>
                                          intro h; cases h; exact ⟨rfl, rfl, rfl⟩
                                      | false =>
                                          cases hc32 : (fEq (near_Shapes_0 a0 a1 a2 b0 b1 b2) (0 : Nat)) with
                                          | true =>
                                              intro h; cases h; exact ⟨rfl, rfl, rfl⟩
                                          | false =>
                                              cases hc33 : (fGe (near_Shapes_0 a0 a1 a2 b0 b1 b2) (0 : Nat)) with
                                              | true =>
                                                  cases hc34 : (law10_calm a0 a1 a2) with
                                                  | true =>
                                                      cases hc35 : (law10_calm b0 b1 b2) with
                                                      | true =>
                                                          cases hc36 : (allF (rowOk (near_Shapes_0 a0 a1 a2 b0 b1 b2) a1 b1 a2 b2) (0 : Nat) (List.length a2)) with
                                                          | true =>
                                                              cases hc37 : (fLe (near_Shapes_0 a0 a1 a2 b0 b1 b2) (4562146422526312448 : Nat)) with
                                                              | true =>
                                                                  intro h; cases h; exact ⟨rfl, rfl, (by exact ⟨hb (.av (.agg [.int .u8 a0, .flt a1, .sl a2])) (by simp) (.sl a2) (by simp), hb (.av (.agg [.int .u8 b0, .flt b1, .sl b2])) (by simp) (.sl b2) (by simp)⟩), rfl⟩
                                                              | false =>
                                                                  cases hc38 : (isN (fsub (vec_Length (vec_Sub_0 (near_Shapes_3 a0 a1 a2 b0 b1 b2) (near_Shapes_4 a0 a1 a2 b0 b1 b2) (near_Shapes_1 a0 a1 a2 b0 b1 b2) (near_Shapes_2 a0 a1 a2 b0 b1 b2)) (vec_Sub_1 (near_Shapes_3 a0 a1 a2 b0 b1 b2) (near_Shapes_4 a0 a1 a2 b0 b1 b2) (near_Shapes_1 a0 a1 a2 b0 b1 b2) (near_Shapes_2 a0 a1 a2 b0 b1 b2))) (near_Shapes_0 a0 a1 a2 b0 b1 b2))) with
                                                                  | true =>
                                                                      intro h; cases h
                                                                  | false =>
                                                                      cases hc39 : (fLe (nz (Int.toNat (Go.IntKind.wrap Go.IntKind.u64 (Nat.cast (BitVec.toNat (HAnd.hAnd (BitVec.ofInt (Go.IntKind.bits Go.IntKind.u64) (Nat.cast (fsub (vec_Length (vec_Sub_0 (near_Shapes_3 a0 a1 a2 b0 b1 b2) (near_Shapes_4 a0 a1 a2 b0 b1 b2) (near_Shapes_1 a0 a1 a2 b0 b1 b2) (near_Shapes_2 a0 a1 a2 b0 b1 b2)) (vec_Sub_1 (near_Shapes_3 a0 a1 a2 b0 b1 b2) (near_Shapes_4 a0 a1 a2 b0 b1 b2) (near_Shapes_1 a0 a1 a2 b0 b1 b2) (near_Shapes_2 a0 a1 a2 b0 b1 b2))) (near_Shapes_0 a0 a1 a2 b0 b1 b2)) : Int)) (Complement.complement (BitVec.ofInt (Go.IntKind.bits Go.IntKind.u64) (9223372036854775808 : Int))))) : Int)))) (4517110426252607488 : Nat)) with
                                                                      | true =>
                                                                          intro h; cases h; exact ⟨rfl, rfl, (by exact ⟨hb (.av (.agg [.int .u8 a0, .flt a1, .sl a2])) (by simp) (.sl a2) (by simp), hb (.av (.agg [.int .u8 b0, .flt b1, .sl b2])) (by simp) (.sl b2) (by simp)⟩), rfl⟩
                                                                      | false =>
                                                                          intro h; cases h; exact ⟨rfl, rfl, (by exact ⟨hb (.av (.agg [.int .u8 a0, .flt a1, .sl a2])) (by simp) (.sl a2) (by simp), hb (.av (.agg [.int .u8 b0, .flt b1, .sl b2])) (by simp) (.sl b2) (by simp)⟩), rfl⟩
                                                          | false =>
                                                              intro h; cases h; exact ⟨rfl, rfl, (by exact ⟨hb (.av (.agg [.int .u8 a0, .flt a1, .sl a2])) (by simp) (.sl a2) (by simp), hb (.av (.agg [.int .u8 b0, .flt b1, .sl b2])) (by simp) (.sl b2) (by simp)⟩), rfl⟩
                                                      | false =>
                                                          intro h; cases h; exact ⟨rfl, rfl, rfl⟩
                                                  | false =>
                                                      intro h; cases h; exact ⟨rfl, rfl, rfl⟩
                                              | false =>
                                                  intro h; cases h; exact ⟨rfl, rfl, rfl⟩
    exact ⟨key.1, key.2.1, by_kernel (by kernel_rfl) key.2.2⟩
  · cases h

end
end Go.Proofs.Ythopjahoaljhaaa.X
