/- Proved: for any two shapes (of any kind, radius, points; numbers or not) tumblelaw10.NearBoth returns true and leaves its arguments as they were: the statement Rows.NearBothSaid. Conditions: none beyond the row's own. -/
import Derived.Test.YthopjahoaljhaaaMr
import Derived.Test.YthopjahoaljhaaaMe
import Derived.SizedLaws
import Derived.Test.YthopjahoaljhaaaMg
/-! ## The row NearBoth, from the plain law. -/
set_option linter.unusedVariables false
set_option linter.unusedSimpArgs false
namespace Go.Proofs.Ythopjahoaljhaaa.X
open Go Go.RowKit Go.ChangeShapes Go.WideShapes Go.ChangeAt Go.Joins

theorem own_ : ownKnob Try.prog.godebug = none := by kernel_rfl
theorem laid_ : laidOutB Try.prog = true := by kernel_rfl
/-- A call that the contract speaks of: it comes back with what the contract says. -/
theorem calls_of {k : FuncId} {fn : Func} {code : Code} (hf : Pr.funcs[k]? = some fn) (hb : fn.body = some code) (hnm : (fn.name == "runtime.NumGoroutine") = false) {e : Ent} (hc : CallOk Pr k e) {l : List AT} {r : AT} (hd : e.d l = some r) {w : World} {vs : List Value}
    (hv : ATs (bare No w) l vs) : Calls Pr k vs.toArray w fun en w' => ∃ x, en = .returned x ∧ r.R (bare No w') x ∧ Chg No w w' := by
  rcases hc.ok l r hd No w vs (fun b h => h.elim) hv with ⟨x, w', h1, h2⟩ | ⟨_, h⟩
  · rw [run_callFunc hf hb hnm] at h1; cases h1
  · exact h.mono fun en w' ⟨x, h1, h2⟩ => ⟨x, h1, h2⟩

set_option maxRecDepth 100000 in
theorem nearBoth_lifted (law : ∀ ka ra la kb rb lb, d3 [.av (.agg [.int .u8 ka, .flt ra, .sl la]), .av (.agg [.int .u8 kb, .flt rb, .sl lb])] = some (.av (.one (.bool true)))) (os : Os) (started : os.Started) (H : Type) (enc : TypeId × Value → H) :
    ReturnsInHanded {} Try.checked os 3 .any (Rows.nearBothSpec.pre6 enc Try.prog Try.f3 Rows.nearBothRow.domain false) (Rows.nearBothSpec.post enc Try.prog Try.f3 false true false false) := by
  refine returnsInHanded_of_change_sized (C := Try.checked) own_ started (by kernel_rfl) Try.func3
    (ChangeSpec.witness6 (enc := enc) (C := Try.checked) false ⟨#[], #[.agg #[.int .u8 0, .float .f64 0, .slice none 0 0], .agg #[.int .u8 0, .float .f64 0, .slice none 0 0]], []⟩ 8 (by kernel_rfl) (by kernel_rfl) (by kernel_rfl) (by kernel_rfl)) ?_
  intro W base args ds gs before hval0 hW hcnd hsz0 _
  have hsz : (DataW.weightsEach Try.prog (Try.f3.params.toList ++ Rows.nearBothSpec.plain.varTypes Try.prog) (ds ++ gs)).all (· ≤ reachBytes) = true := hsz0
  have hval : ∀ (j : Nat) t v, Try.f3.params[j]? = some t → args[j]? = some v → Value.okWide Try.prog W .any base t v := hval0
  have hW' := hW
  obtain ⟨p, q, hA0, hV, rfl, hfz, hnd⟩ := hW
  have hA : DataW.TrodAll enc Try.prog W 0 (fun _ => true) true Try.f3.params.toList args.toList ds p := hA0
  have hps : Try.f3.params = #[25, 25] := by kernel_rfl
  rw [hps] at hA hval hsz
  obtain ⟨v0, v1, d0, d1, p0, p1, rfl, rfl, rfl, h0, h1⟩ := trodAll_two hA
  obtain ⟨rfl, rfl⟩ := trodVars_none hV
  obtain ⟨ka, ra, la, ha, la'⟩ := open_shape (hval 0 25 v0 rfl rfl) h0
  obtain ⟨kb, rb, lb, hb, lb'⟩ := open_shape (hval 1 25 v1 rfl rfl) h1
  simp only [List.append_nil] at hW'
  have hla : la.length ≤ LM := by
    rcases la' with rfl | ⟨x0, x1, elems, sp, rfl, he⟩
    · simp [LM]
    · have h3 := List.all_eq_true.1 hsz ((elems.length + sp.length) * Try.prog.bytesOf 28) (DataW.weights_mem_each (j := 0) (t := 25) rfl rfl _ (by simp [DataW.weights, DataW.weightsEach, und25, und23, fKind, fRadius, fPoints]))
      have h4 : Try.prog.bytesOf 28 = 16 := by kernel_rfl
      have h5 := reachBytes_lt
      simp only [h4, decide_eq_true_eq] at h3
      show la.length ≤ 8796093022208
      omega
  have hlb : lb.length ≤ LM := by
    rcases lb' with rfl | ⟨x0, x1, elems, sp, rfl, he⟩
    · simp [LM]
    · have h3 := List.all_eq_true.1 hsz ((elems.length + sp.length) * Try.prog.bytesOf 28) (DataW.weights_mem_each (j := 1) (t := 25) rfl rfl _ (by simp [DataW.weights, DataW.weightsEach, und25, und23, fKind, fRadius, fPoints]))
      have h4 : Try.prog.bytesOf 28 = 16 := by kernel_rfl
      have h5 := reachBytes_lt
      simp only [h4, decide_eq_true_eq] at h3
      show lb.length ≤ 8796093022208
      omega
  have ats : ATs (bare No W) [.av (.agg [.int .u8 ka, .flt ra, .sl la]), .av (.agg [.int .u8 kb, .flt rb, .sl lb])] [v0, v1] :=
    ATs.cons (ha No (fun b h => h.elim) hla) (ATs.cons (hb No (fun b h => h.elim) hlb) ⟨rfl, fun i a x h => by simp at h⟩)
  have hlt : ∀ x ∈ p0 ++ p1, x.block < W.heap.size := fun x hx => by simpa using hW'.lt x hx
  have hd : e3.d [.av (.agg [.int .u8 ka, .flt ra, .sl la]), .av (.agg [.int .u8 kb, .flt rb, .sl lb])] = some (.av (.one (.bool true))) := law ka ra la kb rb lb
  refine (calls_of Try.func3 rfl (by decide) c3 hd ats).mono fun e W' ⟨x, he, hr, hg⟩ => ?_
  have hx : x = .bool true := hr
  subst hx; subst he
  have bel : Below W.heap.size W W' := hg.below
  refine ⟨_, rfl, ?_⟩
  refine ⟨_, _, _, [], p0 ++ p1, [], hW', trodAll_mk1 (shut_bool (by kernel_rfl) true), trodAll_mk2 (Below.trod laid_ (by kernel_rfl) (of_decide_eq_true (by kernel_rfl)) h0 bel (fun x hx => hlt x (by simp [hx]))) (Below.trod laid_ (by kernel_rfl) (of_decide_eq_true (by kernel_rfl)) h1 bel (fun x hx => hlt x (by simp [hx]))), rfl, bel.frame _, fun h => by cases h⟩

theorem nearBoth_of (law : ∀ ka ra la kb rb lb, d3 [.av (.agg [.int .u8 ka, .flt ra, .sl la]), .av (.agg [.int .u8 kb, .flt rb, .sl lb])] = some (.av (.one (.bool true)))) : Rows.NearBothSaid :=
  OpenClaim.holds_of_wide 3 Try.f3 rfl rfl rfl rfl rfl rfl rfl ⟨rfl, rfl, rfl, rfl, rfl⟩ rfl rfl rfl rfl rfl (by kernel_rfl) Try.func3 (by kernel_rfl)
    (of_decide_eq_true (by kernel_rfl)) (by unfold Func.isWrapper; rw [if_neg (of_decide_eq_false (by kernel_rfl))]; exact ⟨rfl, rfl⟩)
    (fun os started H enc _ => nearBoth_lifted law os started H enc)
end Go.Proofs.Ythopjahoaljhaaa.X

/-! ## Proved: for any two shapes (of any kind, radius, points; numbers or not) tumblelaw10.NearBoth returns true and leaves its arguments as they were: the statement Rows.NearBothSaid. Conditions: none beyond the row's own. -/
namespace Go.Proofs.Ythopjahoaljhaaa

/-- NearBoth holds of every input. -/
theorem nearBoth_holds : Rows.NearBothSaid := X.nearBoth_of X.law3

end Go.Proofs.Ythopjahoaljhaaa
