/- Arguments read as abstract values: floats, places, shapes. (and what goes with it: 2 parts.) -/
import Derived.Test.YthopjahoaljhaaaMb
import Derived.Test.YthopjahoaljhaaaRows
import Derived.ProofKit
import Derived.Lib.SmallJoins
import Derived.Deep.SlicePairs
import Derived.Test.YthopjahoaljhaaaMa
import Derived.SizedLaws
import Derived.Laws.Cover2
/-! ## Arguments read as abstract values: floats, places, shapes. -/
set_option linter.unusedVariables false
set_option linter.unusedSimpArgs false
namespace Go.Proofs.Ythopjahoaljhaaa.X
open Go Go.RowKit Go.ChangeShapes Go.WideShapes Go.Joins Go.Deep

def fX : Field := ⟨ "X", 22, 0, false, "", "", 0⟩
def fY : Field := ⟨ "Y", 22, 1, false, "", "", 8⟩
def fKind : Field := ⟨ "Kind", 5, 0, false, "", "", 0⟩
def fRadius : Field := ⟨ "Radius", 22, 1, false, "", "", 8⟩
def fPoints : Field := ⟨ "Points", 23, 2, false, "", "", 16⟩
theorem und28 : Pr.underlying 28 = some (.struct #[fX, fY]) := by kernel_rfl
theorem und25 : Pr.underlying 25 = some (.struct #[fKind, fRadius, fPoints]) := by kernel_rfl
theorem und23 : Pr.underlying 23 = some (.slice 28) := by kernel_rfl
theorem und5 : Pr.underlying 5 = some (.int .u8) := by kernel_rfl
theorem cells28 : Pr.cellsOf 28 = 2 := by kernel_rfl
theorem cells25 : Pr.cellsOf 25 = 3 := by kernel_rfl
theorem hone25 : oneCellFields Pr #[fKind, fRadius, fPoints] = true := by kernel_rfl
theorem cells22 : Pr.cellsOf 22 = 1 := by kernel_rfl

section
variable {H : Type} {enc : TypeId × Value → H} {w : World} {base : Nat} {spare : Nat → Bool} {held : Bool}
theorem trod_f64 {n : Nat} {v : Value} {y : DataW H × List MemPlace} (h : DataW.trod enc Pr w base spare held n 22 [v] = some y) : ∃ b, v = .float .f64 b ∧ b < 2 ^ 64 := by
  cases n with
  | zero => simp [DataW.trod] at h
  | succ n =>
    unfold DataW.trod at h
    simp only [u22] at h
    split at h
    all_goals first
      | (rename_i h1 h2; cases h1; done)
      | skip
    · rename_i k k' b h1 h2
      cases h1
      simp only [List.cons.injEq, and_true] at h2
      subst h2
      split at h
      · rename_i hk
        obtain ⟨rfl, hw⟩ := hk
        exact ⟨b, rfl, of_decide_eq_true hw⟩
      · cases h
    all_goals simp_all
theorem fr_float {v : Value} {b : Nat} (h : v = .float .f64 b) (hb : b < 2 ^ 64) : FR (nz b) v := ⟨b, h, hb, rfl⟩
def xOf : Value → Nat
  | .float .f64 b => b
  | _ => 0
/-- The pairs of a slice that is read. -/
theorem seg_of {n : Nat} {v : Value} {y : DataW H × List MemPlace} (h : DataW.trod enc Pr w 0 spare held n 23 [v] = some y) :
    ∃ (l : List (Nat × Nat)), (∀ own, (∀ b, ¬ own b) → ∃ A cap, v = .slice A l.length cap ∧ Seg w own A l) ∧ (l = [] ∨ ∃ elems sp, y.1 = .slice elems sp ∧ elems.length = l.length) := by
  rcases open_slice_pairs und23 und28 cells28 rfl rfl cells22 cells22 h with ⟨hc, _⟩ | ⟨a, len, cap, m, k, V0, V1, D0, D1, P0, P1, hc, _, hl, hcm, hmm, hy, hx⟩
  · simp only [List.cons.injEq, and_true] at hc
    subst hc
    exact ⟨[], fun own _ => ⟨none, 0, rfl, fun i p hp => by simp at hp⟩, .inl rfl⟩
  · simp only [List.cons.injEq, and_true] at hc
    subst hc
    have hlm : len ≤ m := by rw [hmm]; split <;> omega
    refine ⟨(List.range len).map fun i => (nz (xOf (V0 i)), nz (xOf (V1 i))), fun own ho => ⟨some a, cap, by simp, ?_⟩, .inr ⟨_, _, by rw [hy], by simp⟩⟩
    intro i p hp
    have hi : i < len := by
      have := (List.getElem?_eq_some_iff.1 hp).1
      simpa using this
    obtain ⟨b, off, spot⟩ := a
    obtain ⟨c1, c2, g1, g2⟩ := hx i (by omega)
    have hspot : spot = none := by simpa [Addr.add] using World.cell?_spot (hx 0 (by omega)).1
    subst hspot
    rw [Go.WideShapes.add_plain] at c1 c2
    obtain ⟨x, hx1, hx2⟩ := trod_f64 g1
    obtain ⟨y, hy1, hy2⟩ := trod_f64 g2
    simp only [List.getElem?_map, List.getElem?_range hi, Option.map_some, Option.some.injEq] at hp
    subst hp
    refine ⟨b, off, rfl, ho b, V0 i, V1 i, by rw [Nat.mul_comm]; exact c1, by rw [Nat.mul_comm 2 i]; exact c2, ?_, ?_⟩
    · rw [hx1]; exact fr_float rfl hx2
    · rw [hy1]; exact fr_float rfl hy2
set_option maxRecDepth 10000 in
theorem open_shape {r : Reach} {b0 : Nat} {v : Value} {d : DataW H} {p : List MemPlace} (hv : Value.okWide Pr w r b0 25 v) (h : DataW.Trod enc Pr w 0 spare held 25 v d p) :
    ∃ (k : Int) (rd : Nat) (l : List (Nat × Nat)), (∀ own, (∀ b, ¬ own b) → l.length ≤ LM → (AT.av (.agg [.int .u8 k, .flt rd, .sl l])).R (bare own w) v) ∧
      (l = [] ∨ ∃ x0 x1 elems sp, d = .agg [x0, x1, .slice elems sp] ∧ elems.length = l.length) := by
  obtain ⟨v0, v1, v2, y0, y1, y2, n, rfl, rfl, _, h0, h1, h2⟩ := open_agg3 (P := Pr) und25 hone25 cells25 hv h
  have h0' : DataW.trod enc Pr w 0 spare held n 5 [v0] = some y0 := h0
  obtain ⟨k, e0, e1, wk⟩ := DataW.trod_int und5 h0'
  simp only [List.cons.injEq, and_true] at e0
  subst e0
  obtain ⟨x, rfl, hx⟩ := trod_f64 h1
  obtain ⟨l, hl1, hl2⟩ := seg_of h2
  refine ⟨k, nz x, l, fun own ho hL => ⟨_, rfl, ?_⟩, ?_⟩
  · obtain ⟨A, cap, rfl, hs⟩ := hl1 own ho
    refine CR.cons (c := .int .u8 k) ?_ (CR.cons (c := .flt (nz x)) (fr_float rfl hx) (CR.one ⟨hL, A, cap, rfl, hs⟩))
    rfl
  · rcases hl2 with h | ⟨elems, sp, h3, h4⟩
    · exact .inl h
    · exact .inr ⟨_, _, elems, sp, by rw [h3], h4⟩
end
end Go.Proofs.Ythopjahoaljhaaa.X

/-! ## For the rows: a call that a contract speaks of, a pair that is read, five arguments. -/
set_option linter.unusedVariables false
set_option linter.unusedSimpArgs false
namespace Go.Proofs.Ythopjahoaljhaaa.X
set_option maxRecDepth 100000
open Go Go.RowKit Go.ChangeShapes Go.WideShapes Go.ChangeAt Go.Joins Go.Deep

theorem own_ : ownKnob Try.prog.godebug = none := by kernel_rfl
theorem laid_ : laidOutB Try.prog = true := by kernel_rfl
/-- A call that the contract speaks of: it comes back with what the contract says. -/
theorem calls_of {k : FuncId} {fn : Func} {code : Code} (hf : Pr.funcs[k]? = some fn) (hb : fn.body = some code) (hnm : (fn.name == "runtime.NumGoroutine") = false) {e : Ent} (hc : CallOk Pr k e) {l : List AT} {r : AT} (hd : e.d l = some r) {w : World} {vs : List Value}
    (hv : ATs (bare No w) l vs) : Calls Pr k vs.toArray w fun en w' => ∃ x, en = .returned x ∧ r.R (bare No w') x ∧ Chg No w w' := by
  rcases hc.ok l r hd No w vs (fun b h => h.elim) hv with ⟨x, w', h1, h2⟩ | ⟨_, h⟩
  · rw [run_callFunc hf hb hnm] at h1; cases h1
  · exact h.mono fun en w' ⟨x, h1, h2⟩ => ⟨x, h1, h2⟩

section
variable {H : Type} {enc : TypeId × Value → H} {w : World} {base : Nat} {spare : Nat → Bool} {held : Bool}
theorem hone28 : oneCellFields Pr #[fX, fY] = true := by kernel_rfl
/-- A pair that is read. -/
theorem open_pair {r : Reach} {b0 : Nat} {v : Value} {d : DataW H} {p : List MemPlace} (hv : Value.okWide Pr w r b0 28 v) (h : DataW.Trod enc Pr w 0 spare held 28 v d p) :
    ∃ x y : Nat, ∀ own, (AT.av (.agg [.flt x, .flt y])).R (bare own w) v := by
  obtain ⟨v0, v1, y0, y1, n, rfl, rfl, _, h0, h1⟩ := open_agg2 (P := Pr) und28 hone28 cells28 hv h
  obtain ⟨x, rfl, hx⟩ := trod_f64 h0
  obtain ⟨y, rfl, hy⟩ := trod_f64 h1
  exact ⟨nz x, nz y, fun own => ⟨_, rfl, CR.cons (c := .flt (nz x)) (fr_float rfl hx) (CR.one (c := .flt (nz y)) (fr_float rfl hy))⟩⟩
/-- A float that is read. -/
theorem open_flt {r : Reach} {b0 : Nat} {v : Value} {d : DataW H} {p : List MemPlace} (hv : Value.okWide Pr w r b0 22 v) (h : DataW.Trod enc Pr w 0 spare held 22 v d p) :
    ∃ x : Nat, ∀ own, (AT.av (.one (.flt x))).R (bare own w) v := by
  obtain ⟨b, rfl⟩ := okWide_float (P := Pr) u22 hv
  obtain ⟨n, h⟩ := h
  obtain ⟨x, e, hx⟩ := trod_f64 (v := .float .f64 b) h
  exact ⟨nz x, fun own => fr_float e hx⟩
/-- A slice of pairs that is read. -/
theorem open_pairs {r : Reach} {b0 : Nat} {v : Value} {d : DataW H} {p : List MemPlace} (hv : Value.okWide Pr w r b0 23 v) (h : DataW.Trod enc Pr w 0 spare held 23 v d p) :
    ∃ (l : List (Nat × Nat)), (∀ own, (∀ b, ¬ own b) → l.length ≤ LM → (AT.av (.one (.sl l))).R (bare own w) v) ∧ (l = [] ∨ ∃ elems sp, d = .slice elems sp ∧ elems.length = l.length) := by
  obtain ⟨a, len, cap, rfl⟩ := okWide_slice (P := Pr) und23 hv
  obtain ⟨n, h⟩ := h
  obtain ⟨l, hl1, hl2⟩ := seg_of (v := .slice a len cap) h
  refine ⟨l, fun own ho hL => ?_, hl2⟩
  obtain ⟨A, cap', e, hs⟩ := hl1 own ho
  exact ⟨hL, A, cap', e, hs⟩
theorem trodAll_five {t0 t1 t2 t3 t4 : TypeId} {args : Array Value} {ds : List (DataW H)} {ps : List MemPlace} (h : DataW.TrodAll enc Pr w base spare held [t0, t1, t2, t3, t4] args.toList ds ps) :
    ∃ v0 v1 v2 v3 v4 d0 d1 d2 d3 d4 p0 p1 p2 p3 p4, args = #[v0, v1, v2, v3, v4] ∧ ds = [d0, d1, d2, d3, d4] ∧ ps = p0 ++ (p1 ++ (p2 ++ (p3 ++ p4))) ∧ DataW.Trod enc Pr w base spare held t0 v0 d0 p0 ∧ DataW.Trod enc Pr w base spare held t1 v1 d1 p1 ∧
      DataW.Trod enc Pr w base spare held t2 v2 d2 p2 ∧ DataW.Trod enc Pr w base spare held t3 v3 d3 p3 ∧ DataW.Trod enc Pr w base spare held t4 v4 d4 p4 := by
  obtain ⟨v0, vs, d0, ds', p0, q, hargs, rfl, rfl, h0, hr⟩ := trodAll_cons h
  obtain ⟨v1, vs1, d1, ds1, p1, q1, rfl, rfl, rfl, h1, hr1⟩ := trodAll_cons hr
  obtain ⟨v2, vs2, d2, ds2, p2, q2, rfl, rfl, rfl, h2, hr2⟩ := trodAll_cons hr1
  obtain ⟨v3, vs3, d3, ds3, p3, q3, rfl, rfl, rfl, h3, hr3⟩ := trodAll_cons hr2
  obtain ⟨v4, d4, e4, rfl, h4⟩ := trodAll_one (args := vs3.toArray) hr3
  refine ⟨v0, v1, v2, v3, v4, d0, d1, d2, d3, d4, p0, p1, p2, p3, q3, ?_, rfl, rfl, h0, h1, h2, h3, h4⟩
  have : vs3 = [v4] := by have := congrArg Array.toList e4; simpa using this
  subst this
  cases args; simp_all
end
end Go.Proofs.Ythopjahoaljhaaa.X
