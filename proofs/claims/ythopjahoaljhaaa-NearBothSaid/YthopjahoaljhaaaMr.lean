/- Arguments read as abstract values: floats, places, shapes. (and what goes with it: 1 parts.) -/
import Derived.Test.YthopjahoaljhaaaMb
import Derived.Test.YthopjahoaljhaaaRows
import Derived.ProofKit
import Derived.Lib.SmallJoins
import Derived.Deep.SlicePairs
/-! ## Arguments read as abstract values: floats, places, shapes. -/
set_option linter.unusedVariables false
set_option linter.unusedSimpArgs false
namespace Go.Proofs.Ythopjahoaljhaaa.X
open Go Go.RowKit Go.ChangeShapes Go.WideShapes Go.Joins Go.Deep

def fX : Field := ⟨ "X", 22, 0, false, "", "", 0⟩
def fY : Field := ⟨ "Y", 22, 1, false, "", "", 8⟩
def fKind : Field := ⟨ "Kind", 5, 0, false, "", "", 0⟩
def fRadius : Field := ⟨ "Radius", 22, 1, false, "", "", 8⟩
def fPoints : Field := ⟨ "Points", 23, 2, false, "", "", 16⟩
theorem und28 : Pr.underlying 28 = some (.struct #[fX, fY]) := by kernel_rfl
theorem und25 : Pr.underlying 25 = some (.struct #[fKind, fRadius, fPoints]) := by kernel_rfl
theorem und23 : Pr.underlying 23 = some (.slice 28) := by kernel_rfl
theorem und5 : Pr.underlying 5 = some (.int .u8) := by kernel_rfl
theorem cells28 : Pr.cellsOf 28 = 2 := by kernel_rfl
theorem cells25 : Pr.cellsOf 25 = 3 := by kernel_rfl
theorem hone25 : oneCellFields Pr #[fKind, fRadius, fPoints] = true := by kernel_rfl
theorem cells22 : Pr.cellsOf 22 = 1 := by kernel_rfl

section
variable {H : Type} {enc : TypeId × Value → H} {w : World} {base : Nat} {spare : Nat → Bool} {held : Bool}
theorem trod_f64 {n : Nat} {v : Value} {y : DataW H × List MemPlace} (h : DataW.trod enc Pr w base spare held n 22 [v] = some y) : ∃ b, v = .float .f64 b ∧ b < 2 ^ 64 := by
  cases n with
  | zero => simp [DataW.trod] at h
  | succ n =>
    unfold DataW.trod at h
    simp only [u22] at h
    split at h
    all_goals first
      | (rename_i h1 h2; cases h1; done)
      | skip
    · rename_i k k' b h1 h2
      cases h1
      simp only [List.cons.injEq, and_true] at h2
      subst h2
      split at h
      · rename_i hk
        obtain ⟨rfl, hw⟩ := hk
        exact ⟨b, rfl, of_decide_eq_true hw⟩
      · cases h
    all_goals simp_all
theorem fr_float {v : Value} {b : Nat} (h : v = .float .f64 b) (hb : b < 2 ^ 64) : FR (nz b) v := ⟨b, h, hb, rfl⟩
def xOf : Value → Nat
  | .float .f64 b => b
  | _ => 0
/-- The pairs of a slice that is read. -/
theorem seg_of {n : Nat} {v : Value} {y : DataW H × List MemPlace} (h : DataW.trod enc Pr w 0 spare held n 23 [v] = some y) :
    ∃ (l : List (Nat × Nat)), (∀ own, (∀ b, ¬ own b) → ∃ A cap, v = .slice A l.length cap ∧ Seg w own A l) ∧ (l = [] ∨ ∃ elems sp, y.1 = .slice elems sp ∧ elems.length = l.length) := by
  rcases open_slice_pairs und23 und28 cells28 rfl rfl cells22 cells22 h with ⟨hc, _⟩ | ⟨a, len, cap, m, k, V0, V1, D0, D1, P0, P1, hc, _, hl, hcm, hmm, hy, hx⟩
  · simp only [List.cons.injEq, and_true] at hc
    subst hc
    exact ⟨[], fun own _ => ⟨none, 0, rfl, fun i p hp => by simp at hp⟩, .inl rfl⟩
  · simp only [List.cons.injEq, and_true] at hc
    subst hc
    have hlm : len ≤ m := by rw [hmm]; split <;> omega
    refine ⟨(List.range len).map fun i => (nz (xOf (V0 i)), nz (xOf (V1 i))), fun own ho => ⟨some a, cap, by simp, ?_⟩, .inr ⟨_, _, by rw [hy], by simp⟩⟩
    intro i p hp
    have hi : i < len := by
      have := (List.getElem?_eq_some_iff.1 hp).1
      simpa using this
    obtain ⟨b, off, spot⟩ := a
    obtain ⟨c1, c2, g1, g2⟩ := hx i (by omega)
    have hspot : spot = none := by simpa [Addr.add] using World.cell?_spot (hx 0 (by omega)).1
    subst hspot
    rw [Go.WideShapes.add_plain] at c1 c2
    obtain ⟨x, hx1, hx2⟩ := trod_f64 g1
    obtain ⟨y, hy1, hy2⟩ := trod_f64 g2
    simp only [List.getElem?_map, List.getElem?_range hi, Option.map_some, Option.some.injEq] at hp
    subst hp
    refine ⟨b, off, rfl, ho b, V0 i, V1 i, by rw [Nat.mul_comm]; exact c1, by rw [Nat.mul_comm 2 i]; exact c2, ?_, ?_⟩
    · rw [hx1]; exact fr_float rfl hx2
    · rw [hy1]; exact fr_float rfl hy2
set_option maxRecDepth 10000 in
theorem open_shape {r : Reach} {b0 : Nat} {v : Value} {d : DataW H} {p : List MemPlace} (hv : Value.okWide Pr w r b0 25 v) (h : DataW.Trod enc Pr w 0 spare held 25 v d p) :
    ∃ (k : Int) (rd : Nat) (l : List (Nat × Nat)), (∀ own, (∀ b, ¬ own b) → l.length ≤ LM → (AT.av (.agg [.int .u8 k, .flt rd, .sl l])).R (bare own w) v) ∧
      (l = [] ∨ ∃ x0 x1 elems sp, d = .agg [x0, x1, .slice elems sp] ∧ elems.length = l.length) := by
  obtain ⟨v0, v1, v2, y0, y1, y2, n, rfl, rfl, _, h0, h1, h2⟩ := open_agg3 (P := Pr) und25 hone25 cells25 hv h
  have h0' : DataW.trod enc Pr w 0 spare held n 5 [v0] = some y0 := h0
  obtain ⟨k, e0, e1, wk⟩ := DataW.trod_int und5 h0'
  simp only [List.cons.injEq, and_true] at e0
  subst e0
  obtain ⟨x, rfl, hx⟩ := trod_f64 h1
  obtain ⟨l, hl1, hl2⟩ := seg_of h2
  refine ⟨k, nz x, l, fun own ho hL => ⟨_, rfl, ?_⟩, ?_⟩
  · obtain ⟨A, cap, rfl, hs⟩ := hl1 own ho
    refine CR.cons (c := .int .u8 k) ?_ (CR.cons (c := .flt (nz x)) (fr_float rfl hx) (CR.one ⟨hL, A, cap, rfl, hs⟩))
    rfl
  · rcases hl2 with h | ⟨elems, sp, h3, h4⟩
    · exact .inl h
    · exact .inr ⟨_, _, elems, sp, by rw [h3], h4⟩
end
end Go.Proofs.Ythopjahoaljhaaa.X
