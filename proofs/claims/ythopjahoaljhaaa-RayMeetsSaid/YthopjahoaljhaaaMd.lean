/- Functions that write to boxes that are handed in: from a walk that names these boxes in a way of its own. (and what goes with it: 10 parts.) -/
import Derived.Test.YthopjahoaljhaaaMa
import Derived.Test.YthopjahoaljhaaaMb
import Derived.Test.YthopjahoaljhaaaMc
/-! ## Functions that write to boxes that are handed in: from a walk that names these boxes in a way of its own. -/
set_option linter.unusedVariables false
set_option linter.unusedSimpArgs false
namespace Go.Proofs.Ythopjahoaljhaaa.X
open Go Go.RowKit

def renC (ρ : Nat → Nat) : AC → AC
  | .lp d o => .lp (ρ d) o
  | .asl d n => .asl (ρ d) n
  | .aep d i o => .aep (ρ d) i o
  | c => c
def renA (ρ : Nat → Nat) : AV → AV
  | .one c => .one (renC ρ c)
  | .agg l => .agg (l.map (renC ρ))
  | .ifc t c => .ifc t (renC ρ c)
  | .ifa t l => .ifa t (l.map (renC ρ))
  | .fn f fi ca => .fn f (fi.map (renC ρ)) (ca.map (renC ρ))
  | .und => .und
def renT (ρ : Nat → Nat) : AT → AT
  | .av a => .av (renA ρ a)
  | .tup l => .tup (l.map (renA ρ))
/-- From the caller's names to the walk's. -/
structure Ren (ρ : Nat → Nat) (C C' : Cx) (ns : List Nat) : Prop where
  w : C'.w = C.w
  own : ∀ b, C'.own b → C.own b
  dom : ∀ d, d ∈ ns → C'.dom d ∧ C'.β d = C.β (ρ d)
theorem Ren.sub {ρ : Nat → Nat} {C C' : Cx} {ns ms : List Nat} (h : Ren ρ C C' ns) (hs : ∀ d, d ∈ ms → d ∈ ns) : Ren ρ C C' ms := ⟨h.w, h.own, fun d hd => h.dom d (hs d hd)⟩
theorem Seg.ren {ρ : Nat → Nat} {C C' : Cx} {ns : List Nat} (g : Ren ρ C C' ns) {A : Option Addr} {l : List (Nat × Nat)} (h : Seg C.w C.own A l) : Seg C'.w C'.own A l := by
  intro i p hp
  obtain ⟨b, o, h1, h2, h3⟩ := h i p hp
  rw [g.w]
  exact ⟨b, o, h1, fun h' => h2 (g.own b h'), h3⟩
theorem AC.R.ren {ρ : Nat → Nat} {C C' : Cx} {c : AC} {v : Value} (g : Ren ρ C C' c.nm.toList) (h : (renC ρ c).R C v) : c.R C' v := by
  cases c <;> simp only [renC, AC.R, AC.nm, Option.toList] at h g ⊢
  case flt => exact h
  case int => exact h
  case bool => exact h
  case cpx => exact h
  case sl => obtain ⟨hl, A, cap, rfl, hs⟩ := h; exact ⟨hl, A, cap, rfl, hs.ren g⟩
  case ep => obtain ⟨hi, b, f, rfl, hs⟩ := h; exact ⟨hi, b, f, rfl, hs.ren g⟩
  case lp d o => obtain ⟨h1, h2⟩ := g.dom d (by simp); exact ⟨h1, by rw [h2]; exact h.2⟩
  case asl d n => obtain ⟨h1, h2⟩ := g.dom d (by simp); exact ⟨h1, by rw [h2]; exact h.2⟩
  case aep d i o => obtain ⟨h1, h2⟩ := g.dom d (by simp); exact ⟨h1, by rw [h2]; exact h.2⟩
  case raw => exact h
theorem CR.ren {ρ : Nat → Nat} {C C' : Cx} {l : List AC} {vs : List Value} (g : Ren ρ C C' (l.filterMap AC.nm)) (h : CR C (l.map (renC ρ)) vs) : CR C' l vs :=
  ⟨by have := h.1; simpa using this, fun i c v hc hv => (h.2 i (renC ρ c) v (by simp [hc]) hv).ren (g.sub (nm_mem hc))⟩
theorem AV.R.ren {ρ : Nat → Nat} {C C' : Cx} {a : AV} {v : Value} (g : Ren ρ C C' a.nms) (h : (renA ρ a).R C v) : a.R C' v := by
  cases a <;> simp only [renA, AV.R, AV.nms] at h g ⊢
  case one => exact h.ren g
  case agg => obtain ⟨vs, rfl, hs⟩ := h; exact ⟨vs, rfl, hs.ren g⟩
  case ifc => obtain ⟨u, rfl, hs⟩ := h; exact ⟨u, rfl, hs.ren g⟩
  case ifa => obtain ⟨vs, rfl, hs⟩ := h; exact ⟨vs, rfl, hs.ren g⟩
  case fn => obtain ⟨fs, cs, rfl, h1, h2⟩ := h; exact ⟨fs, cs, rfl, h1.ren (g.sub (by simp; intro d x hx hd; exact .inl ⟨x, hx, hd⟩)), h2.ren (g.sub (by simp; intro d x hx hd; exact .inr ⟨x, hx, hd⟩))⟩
  case und => exact h
theorem AT.R.ren {ρ : Nat → Nat} {C C' : Cx} {a : AT} {v : Value} (g : Ren ρ C C' a.nms) (h : (renT ρ a).R C v) : a.R C' v := by
  cases a <;> simp only [renT, AT.R, AT.nms] at h g ⊢
  case av => exact h.ren g
  case tup l =>
    obtain ⟨vs, rfl, hl, hs⟩ := h
    exact ⟨vs, rfl, by simpa using hl, fun i a x ha hx => (hs i (renA ρ a) x (by simp [ha]) hx).ren (g.sub fun d hd => List.mem_flatMap.2 ⟨a, List.mem_of_getElem? ha, hd⟩)⟩

/-- The boxes that were handed in, as the walk left them, under the caller's names. -/
def back (ρ : Nat → Nat) : List (Nat × Bx) → List (Nat × Bx) → List (Nat × Bx) → List (Nat × Bx)
  | [], _, bx => bx
  | (d, _) :: r, bx', bx => match lk bx' d with
    | some c => (ρ d, c) :: back ρ r bx' bx
    | none => back ρ r bx' bx
theorem lk_back (ρ : Nat → Nat) (bx' bx : List (Nat × Bx)) : ∀ (bx0 : List (Nat × Bx)) (e : Nat) (c : Bx), lk (back ρ bx0 bx' bx) e = some c →
    (∃ d, (lk bx0 d).isSome = true ∧ ρ d = e ∧ lk bx' d = some c) ∨ ((∀ d, (lk bx0 d).isSome = true → (lk bx' d).isSome = true → ρ d ≠ e) ∧ lk bx e = some c)
  | [], e, c, h => .inr ⟨fun d hd => by simp [lk] at hd, h⟩
  | (d, x) :: r, e, c, h => by
    have hm : ∀ i, (lk r i).isSome = true → (lk ((d, x) :: r) i).isSome = true := by
      intro i hi; rw [lk_cons]; split
      · rfl
      · exact hi
    have key : lk (back ρ r bx' bx) e = some c → ((lk bx' d).isSome = true → ρ d ≠ e) → ((∃ i, (lk ((d, x) :: r) i).isSome = true ∧ ρ i = e ∧ lk bx' i = some c) ∨ ((∀ i, (lk ((d, x) :: r) i).isSome = true → (lk bx' i).isSome = true → ρ i ≠ e) ∧ lk bx e = some c)) := fun h1 h2 => by
      rcases lk_back ρ bx' bx r e c h1 with ⟨i, h3, h4, h5⟩ | ⟨h3, h4⟩
      · exact .inl ⟨i, hm i h3, h4, h5⟩
      · refine .inr ⟨fun i hi hi' => ?_, h4⟩
        rw [lk_cons] at hi
        split at hi
        · rename_i hk; subst hk; exact h2 hi'
        · exact h3 i hi hi'
    simp only [back] at h
    split at h
    · rename_i c' hc
      rw [lk_cons] at h
      split at h
      · rename_i hk
        cases h
        exact .inl ⟨d, by rw [lk_cons, if_pos rfl]; rfl, hk, hc⟩
      · rename_i hk; exact key h fun _ => hk
    · rename_i hc
      exact key h fun hi => by rw [hc] at hi; cases hi
theorem isSome_back (ρ : Nat → Nat) (bx' bx : List (Nat × Bx)) : ∀ (bx0 : List (Nat × Bx)), (∀ d, (lk bx0 d).isSome = true → (lk bx (ρ d)).isSome = true) → ∀ e, (lk (back ρ bx0 bx' bx) e).isSome = (lk bx e).isSome
  | [], _, e => rfl
  | (d, x) :: r, h, e => by
    have hm : ∀ i, (lk r i).isSome = true → (lk bx (ρ i)).isSome = true := by
      intro i hi; apply h; rw [lk_cons]; split
      · rfl
      · exact hi
    simp only [back]
    split
    · rw [lk_cons]
      split
      · rename_i hk; rw [← hk, h d (by rw [lk_cons, if_pos rfl]; rfl)]; rfl
      · exact isSome_back ρ bx' bx r hm e
    · exact isSome_back ρ bx' bx r hm e

/-- What is asked of a call: the walk's own names for the boxes that it is handed. -/
def Canon (T : Tb) (code : Code) (rs : List ResultVar) (m : Nat) (l : List AT) (bx : List (Nat × Bx)) (K : AT → List (Nat × Bx) → Prop) : Prop :=
  ∃ (l0 : List AT) (bx0 : List (Nat × Bx)) (ρ : Nat → Nat) (K0 : AT → List (Nat × Bx) → Prop), l = l0.map (renT ρ) ∧ l0.length ≤ m ∧
    (∀ d c, lk bx0 d = some c → T.n ≤ d ∧ lk bx (ρ d) = some c) ∧
    (∀ d d', (lk bx0 d).isSome = true → (lk bx0 d').isSome = true → ρ d = ρ d' → d = d') ∧
    (∀ (i : Nat) (a : AT), l0[i]? = some a → ∀ d ∈ a.nms, (lk bx0 d).isSome = true) ∧
    xfun T code rs l0 bx0 K0 ∧ ∀ r bx', K0 r bx' → noNmT [r] = true ∧ (∀ d, (lk bx0 d).isSome = true → (lk bx' d).isSome = true) ∧ K r (back ρ bx0 bx' bx)

theorem callOkB_of {P : Program} {T : Tb} (hT : TOk P T) {k : FuncId} {fn : Func} {code : Code} (hf : P.funcs[k]? = some fn) (hb : fn.body = some code) (hnm : (fn.name == "runtime.NumGoroutine") = false) (hn : T.n = fn.ntmps) (hloops : LoopsOk P T code)
    {e : EntB} (h : ∀ l bx K, LBs l → e.k l bx K → Canon T code fn.results.toList fn.ntmps l bx K) : CallOkB P k e := by
  intro l bx K hK own β w vs hown hB hvs
  obtain ⟨l0, bx0, ρ, K0, rfl, hlen, hbx, hinj, hcl, hx, hKK⟩ := h l bx K hvs.lb hK
  have hsome : ∀ d, (lk bx0 d).isSome = true → (lk bx (ρ d)).isSome = true := fun d hd => by
    obtain ⟨c, hc⟩ := Option.isSome_iff_exists.1 hd; rw [(hbx d c hc).2]; rfl
  have hge : ∀ d, (lk bx0 d).isSome = true → T.n ≤ d := fun d hd => by
    obtain ⟨c, hc⟩ := Option.isSome_iff_exists.1 hd; exact (hbx d c hc).1
  let own1 : Nat → Prop := OW own (lk bx) β
  let β0 : Nat → Nat := fun d => β (ρ d)
  have hown1 : ∀ b, own1 b → b < w.heap.size := by
    rintro b (h | ⟨d, hd, rfl⟩)
    · exact hown b h
    · exact hB.lt d hd
  have ho : ∀ b, OW own1 (lk bx0) β0 b → OW own (lk bx) β b := by
    rintro b (h | ⟨d, hd, rfl⟩)
    · exact h
    · exact .inr ⟨ρ d, hsome d hd, rfl⟩
  have hB0 : Bxs own1 β0 (lk bx0) w := by
    refine ⟨fun d d' h1 h2 e => hinj d d' h1 h2 (hB.inj _ _ (hsome d h1) (hsome d' h2) e), fun d hd => hB.lt _ (hsome d hd), fun d c hc => ?_⟩
    exact BoxR.go (C := cx own (lk bx) β w) ⟨fun _ _ _ => rfl, fun b _ hb' => ho b hb', fun d hd _ => by cases hd⟩ rfl (hB.box (ρ d) c (hbx d c hc).2)
  have hvs0 : ATs (cx own1 (lk bx0) β0 w) l0 vs := by
    refine ⟨by have := hvs.1; simpa using this, fun i a x ha hx => ?_⟩
    exact AT.R.ren (C := cx own (lk bx) β w) ⟨rfl, ho, fun d hd => ⟨hcl i a ha d hd, rfl⟩⟩ (hvs.2 i (renT ρ a) x (by simp [ha]) hx)
  refine .inr ⟨run_callFunc hf hb hnm _ _, (xfun_sound hT hf hb hn hloops hlen hx hown1 hB0 hvs0).mono ?_⟩
  rintro en w' ⟨x, he, σ, r, β', hk0, ⟨a, hI⟩, hR⟩
  obtain ⟨hr1, hr2, hr3⟩ := hKK r σ.bx hk0
  refine ⟨x, he, r, _, hr3, isSome_back ρ σ.bx bx bx0 hsome, ?_, ?_, ?_⟩
  · have hβ : ∀ d, (lk bx0 d).isSome = true → β' d = β (ρ d) := fun d hd =>
      hI.fix d _ (hge d hd) (hr2 d hd) (by simp only [Sx0, hd, cond_true]; rfl)
    have hdom := isSome_back ρ σ.bx bx bx0 hsome
    have hown2 : ∀ b, OW own (lk (back ρ bx0 σ.bx bx)) β b → OW own (lk bx) β b := by
      rintro b (h | ⟨d, hd, e⟩)
      · exact .inl h
      · exact .inr ⟨d, by rw [← hdom d]; exact hd, e⟩
    refine ⟨fun d d' h1 h2 e => hB.inj d d' (by rw [← hdom d]; exact h1) (by rw [← hdom d']; exact h2) e, fun d hd => Nat.lt_of_lt_of_le (hB.lt d (by rw [← hdom d]; exact hd)) hI.chg.size, fun d c hc => ?_⟩
    rcases lk_back ρ σ.bx bx bx0 d c hc with ⟨i, h1, rfl, h3⟩ | ⟨h1, h2⟩
    · have := hI.box i c h3
      rw [hβ i h1] at this
      exact BoxR.go (C := cx own1 (lk σ.bx) β' w') ⟨fun _ _ _ => rfl, fun b _ hb' => .inl (hown2 b hb'), fun d hd _ => by cases hd⟩ rfl this
    · have hsd : (lk bx d).isSome = true := by rw [h2]; rfl
      have hns : ¬ (Sx0 bx0 β0).S (β d) := by
        rintro ⟨i, hi, e⟩
        exact h1 i hi (hr2 i hi) (hB.inj _ _ (hsome i hi) hsd e)
      refine BoxR.go (C := cx own (lk bx) β w) ⟨fun b hb hlt => hI.chg.block b hlt ?_, fun b _ hb' => hown2 b hb', fun d hd _ => by cases hd⟩ (hI.chg.block _ (hB.lt d hsd) hns) (hB.box d c h2)
      rintro ⟨i, hi, e⟩
      exact hb (.inr ⟨ρ i, hsome i hi, e⟩)
  · have hdom := isSome_back ρ σ.bx bx bx0 hsome
    refine AT.R.go (C := cx own1 (lk σ.bx) β' w') ⟨fun _ _ _ => rfl, fun b _ hb' => .inl ?_, fun d hd _ => ?_⟩ hR
    · rcases hb' with h | ⟨d, hd, e⟩
      · exact .inl h
      · exact .inr ⟨d, by rw [← hdom d]; exact hd, e⟩
    · rw [noNmT_nms hr1 0 r rfl] at hd; cases hd
  · exact hI.chg.mono fun k _ ⟨d, hd, e⟩ => ⟨ρ d, hsome d hd, e⟩
/-- What boxes of some names hold. -/
def obsB1 (bx : List (Nat × Bx)) (k : Nat) : AV :=
  match lk bx k with
  | some (.cells l) => .agg l
  | some (.arr l) => .one (.sl l)
  | none => .und
def obsBs (bx : List (Nat × Bx)) : List Nat → List AV
  | [] => []
  | k :: r => obsB1 bx k :: obsBs bx r
def obsB (ks : List Nat) (bx : List (Nat × Bx)) : AT := .tup (obsBs bx ks)
theorem obsB1_cells {bx : List (Nat × Bx)} {k : Nat} {l : List AC} (h : obsB1 bx k = .agg l) : lk bx k = some (.cells l) := by
  unfold obsB1 at h
  split at h
  · rename_i m hm; cases h; exact hm
  · cases h
  · cases h
end Go.Proofs.Ythopjahoaljhaaa.X

/-! ## Functions that write to boxes that are handed in: the way from a printed walk. -/
set_option linter.unusedVariables false
set_option linter.unusedSimpArgs false
namespace Go.Proofs.Ythopjahoaljhaaa.X
open Go Go.RowKit

def zipF : Nat → List Bx → List (Nat × Bx)
  | _, [] => []
  | k, c :: r => (k, c) :: zipF (k + 1) r
def keysF : Nat → Nat → List Nat
  | _, 0 => []
  | k, n + 1 => k :: keysF (k + 1) n
def zipR : List Nat → List Bx → List (Nat × Bx) → List (Nat × Bx)
  | d :: r, c :: s, bx => (d, c) :: zipR r s bx
  | _, _, bx => bx
def lkAll (bx : List (Nat × Bx)) : List Nat → List Bx → Prop
  | d :: r, c :: s => lk bx d = some c ∧ lkAll bx r s
  | [], [] => True
  | _, _ => False
def distinct : List Nat → Bool
  | [] => true
  | d :: r => !memN d r && distinct r
def nmsL : List AT → List Nat
  | [] => []
  | a :: r => a.nms ++ nmsL r
def encB : Bx → AV
  | .cells l => .agg l
  | .arr l => .one (.sl l)
/-- A box's content is told by what it is observed as. -/
def plainB : Bx → Bool
  | .cells _ => true
  | .arr _ => true

theorem lk_zipF : ∀ (cs : List Bx) (k d : Nat) (c : Bx), lk (zipF k cs) d = some c → k ≤ d ∧ cs[d - k]? = some c
  | [], k, d, c, h => by simp [zipF, lk] at h
  | x :: r, k, d, c, h => by
    simp only [zipF, lk_cons] at h
    split at h
    · rename_i e; subst e; cases h; exact ⟨Nat.le_refl _, by simp⟩
    · obtain ⟨h1, h2⟩ := lk_zipF r (k + 1) d c h
      refine ⟨by omega, ?_⟩
      have : d - k = (d - (k + 1)) + 1 := by omega
      rw [this]; simpa using h2
theorem lkAll_get {bx : List (Nat × Bx)} : ∀ {rs : List Nat} {cs : List Bx}, lkAll bx rs cs → ∀ (i : Nat) (c : Bx), cs[i]? = some c → ∃ d, rs[i]? = some d ∧ lk bx d = some c
  | d :: r, x :: s, h, 0, c, hc => ⟨d, rfl, by simp at hc; subst hc; exact h.1⟩
  | d :: r, x :: s, h, i + 1, c, hc => by
    obtain ⟨e, h1, h2⟩ := lkAll_get h.2 i c (by simpa using hc)
    exact ⟨e, by simpa using h1, h2⟩
  | [], [], _, i, c, hc => by simp at hc
  | [], _ :: _, h, _, _, _ => h.elim
  | _ :: _, [], h, _, _, _ => h.elim
theorem distinct_get : ∀ {rs : List Nat}, distinct rs = true → ∀ (i j d : Nat), rs[i]? = some d → rs[j]? = some d → i = j
  | [], _, i, j, d, h, _ => by simp at h
  | x :: r, h, i, j, d, hi, hj => by
    simp only [distinct, Bool.and_eq_true, Bool.not_eq_true'] at h
    have hx : x ∉ r := fun hm => by rw [memN_iff.2 hm] at h; exact absurd h.1 (by simp)
    cases i with
    | zero =>
      cases j with
      | zero => rfl
      | succ j => simp at hi hj; subst hi; exact absurd (List.mem_of_getElem? hj) hx
    | succ i =>
      cases j with
      | zero => simp at hi hj; subst hj; exact absurd (List.mem_of_getElem? hi) hx
      | succ j => simp at hi hj; rw [distinct_get h.2 i j d hi hj]
theorem nmsL_mem : ∀ {l : List AT} {i : Nat} {a : AT}, l[i]? = some a → ∀ d ∈ a.nms, d ∈ nmsL l
  | [], i, a, h => by simp at h
  | x :: r, i, a, h => by
    intro d hd
    simp only [nmsL, List.mem_append]
    cases i with
    | zero => simp at h; subst h; exact .inl hd
    | succ i => exact .inr (nmsL_mem (by simpa using h) d hd)
theorem obsBs_get {bx : List (Nat × Bx)} : ∀ (cs : List Bx) (n k : Nat), obsBs bx (keysF k n) = cs.map encB → cs.length = n ∧ ∀ (i : Nat) (c : Bx), cs[i]? = some c → lk bx (k + i) = some c
  | [], 0, k, _ => ⟨rfl, fun i c h => by simp at h⟩
  | [], n + 1, k, h => by simp [keysF, obsBs] at h
  | c :: r, 0, k, h => by simp [keysF, obsBs] at h
  | c :: r, n + 1, k, h => by
    simp only [keysF, obsBs, List.map_cons, List.cons.injEq] at h
    obtain ⟨h1, h2⟩ := h
    obtain ⟨h3, h4⟩ := obsBs_get r n (k + 1) h2
    refine ⟨by simp [h3], fun i x hx => ?_⟩
    cases i with
    | zero =>
      simp at hx; subst hx
      unfold obsB1 at h1
      cases c with
      | cells l =>
        simp only [encB] at h1
        split at h1
        · rename_i m hm; cases h1; exact hm
        · cases h1
        · cases h1
      | arr l =>
        simp only [encB] at h1
        split at h1
        · cases h1
        · rename_i m hm; cases h1; exact hm
        · cases h1
    | succ i => have := h4 i x (by simpa using hx); rw [show k + (i + 1) = k + 1 + i by omega]; exact this
theorem back_zip (ρ : Nat → Nat) (bx' bx : List (Nat × Bx)) : ∀ (rs : List Nat) (cs cs' : List Bx) (k : Nat), rs.length = cs.length → cs'.length = cs.length → (∀ (i d : Nat), rs[i]? = some d → ρ (k + i) = d) → (∀ (i : Nat) (c : Bx), cs'[i]? = some c → lk bx' (k + i) = some c) →
    back ρ (zipF k cs) bx' bx = zipR rs cs' bx
  | [], [], [], k, _, _, _, _ => rfl
  | d :: r, c :: s, c' :: s', k, h1, h2, h3, h4 => by
    simp only [zipF, back, zipR]
    have e1 : lk bx' k = some c' := h4 0 c' rfl
    have e2 : ρ k = d := h3 0 d rfl
    rw [e1]
    simp only [e2]
    rw [back_zip ρ bx' bx r s s' (k + 1) (by simpa using h1) (by simpa using h2) (fun i e he => by have := h3 (i + 1) e (by simpa using he); rw [show k + 1 + i = k + (i + 1) by omega]; exact this) (fun i e he => by have := h4 (i + 1) e (by simpa using he); rw [show k + 1 + i = k + (i + 1) by omega]; exact this)]
  | [], _ :: _, _, _, h, _, _, _ => by simp at h
  | _ :: _, [], _, _, h, _, _, _ => by simp at h
  | _, [], _ :: _, _, _, h, _, _ => by simp at h
  | _, _ :: _, [], _, _, h, _, _ => by simp at h

theorem canonB {T : Tb} {code : Code} {rv : List ResultVar} {m : Nat} {l : List AT} {bx : List (Nat × Bx)} {K : AT → List (Nat × Bx) → Prop} (l0 : List AT) (rs : List Nat) (cs cs' : List Bx) (r1 : AT)
    (hl : l = l0.map (renT fun d => (rs[d - 1000]?).getD 0)) (hm : Nat.ble l0.length m = true) (hn : Nat.ble T.n 1000 = true) (hlk : lkAll bx rs cs) (hd : distinct rs = true) (hlen : rs.length = cs.length) (hlen' : cs'.length = cs.length)
    (hc : closedIn (zipF 1000 cs) (nmsL l0) = true) (hr : noNmT [r1] = true)
    (hx : xfun T code rv l0 (zipF 1000 cs) fun r bx' => r = r1 ∧ obsB (keysF 1000 cs.length) bx' = .tup (cs'.map encB)) (hK : K r1 (zipR rs cs' bx)) : Canon T code rv m l bx K := by
  have hget : ∀ d c, lk (zipF 1000 cs) d = some c → 1000 ≤ d ∧ ∃ e, rs[d - 1000]? = some e ∧ lk bx e = some c := fun d c h => by
    obtain ⟨h1, h2⟩ := lk_zipF cs 1000 d c h
    exact ⟨h1, lkAll_get hlk _ c h2⟩
  refine ⟨l0, zipF 1000 cs, _, _, hl, Nat.le_of_ble_eq_true hm, ?_, ?_, ?_, hx, ?_⟩
  · intro d c h
    obtain ⟨h1, e, h2, h3⟩ := hget d c h
    refine ⟨Nat.le_trans (Nat.le_of_ble_eq_true hn) h1, ?_⟩
    rw [h2]; exact h3
  · intro d d' h1 h2 e
    obtain ⟨c, hc1⟩ := Option.isSome_iff_exists.1 h1
    obtain ⟨c', hc2⟩ := Option.isSome_iff_exists.1 h2
    obtain ⟨g1, e1, g2, g3⟩ := hget d c hc1
    obtain ⟨g1', e1', g2', g3'⟩ := hget d' c' hc2
    simp only [g2, g2', Option.getD_some] at e
    subst e
    have := distinct_get hd _ _ _ g2 g2'
    omega
  · intro i a ha d hd'
    exact closedIn_mem hc d (nmsL_mem ha d hd')
  · rintro r bx' ⟨rfl, ho⟩
    simp only [obsB, AT.tup.injEq] at ho
    obtain ⟨_, hg⟩ := obsBs_get cs' cs.length 1000 ho
    refine ⟨hr, fun d hd' => ?_, ?_⟩
    · obtain ⟨c, hc1⟩ := Option.isSome_iff_exists.1 hd'
      obtain ⟨h1, h2⟩ := lk_zipF cs 1000 d c hc1
      have hlt : d - 1000 < cs'.length := by rw [hlen']; exact (List.getElem?_eq_some_iff.1 h2).1
      have := hg (d - 1000) cs'[d - 1000] (List.getElem?_eq_getElem hlt)
      rw [show 1000 + (d - 1000) = d by omega] at this
      rw [this]; rfl
    · rw [back_zip _ bx' bx rs cs cs' 1000 hlen hlen' (fun i d h => by simp [h]) hg]
      exact hK
end Go.Proofs.Ythopjahoaljhaaa.X

/-! ## The closures of near.cores. -/
set_option linter.unusedVariables false
set_option linter.unusedSimpArgs false
set_option maxRecDepth 100000
namespace Go.Proofs.Ythopjahoaljhaaa.X
open Go Go.RowKit


/-- How near two segments are. -/
def segs (p q s t : Nat × Nat) : Nr := ⟨near_Segments_0 p.1 p.2 q.1 q.2 s.1 s.2 t.1 t.2, near_Segments_1 p.1 p.2 q.1 q.2 s.1 s.2 t.1 t.2, near_Segments_2 p.1 p.2 q.1 q.2 s.1 s.2 t.1 t.2, near_Segments_3 p.1 p.2 q.1 q.2 s.1 s.2 t.1 t.2, near_Segments_4 p.1 p.2 q.1 q.2 s.1 s.2 t.1 t.2⟩
/-- The best so far and whether there is none yet. -/
def bstep (b : Bool × Nr) (p q s t : Nat × Nat) : Bool × Nr := bif b.1 || fLt (segs p q s t).far b.2.far then (false, segs p q s t) else b
theorem f83 (s0 : Nat) (s1 : Nat) (t0 : Nat) (t1 : Nat) (p0 : Nat) (p1 : Nat) (q0 : Nat) (q1 : Nat) (f : Nat) (ax : Nat) (ay : Nat) (bx : Nat) (by_ : Nat) (fst : Bool) (Q : AT → AT → Prop) (h : cond (fst) (Q (AT.tup []) (AT.tup [(.agg [(.flt p0), (.flt p1)]), (.agg [(.flt q0), (.flt q1)]), (.agg [(.bool Bool.false)]), (.agg [(.flt (near_Segments_0 p0 p1 q0 q1 s0 s1 t0 t1)), (.flt (near_Segments_1 p0 p1 q0 q1 s0 s1 t0 t1)), (.flt (near_Segments_2 p0 p1 q0 q1 s0 s1 t0 t1)), (.flt (near_Segments_3 p0 p1 q0 q1 s0 s1 t0 t1)), (.flt (near_Segments_4 p0 p1 q0 q1 s0 s1 t0 t1))])])) (cond (fLt (near_Segments_0 p0 p1 q0 q1 s0 s1 t0 t1) f) (Q (AT.tup []) (AT.tup [(.agg [(.flt p0), (.flt p1)]), (.agg [(.flt q0), (.flt q1)]), (.agg [(.bool Bool.false)]), (.agg [(.flt (near_Segments_0 p0 p1 q0 q1 s0 s1 t0 t1)), (.flt (near_Segments_1 p0 p1 q0 q1 s0 s1 t0 t1)), (.flt (near_Segments_2 p0 p1 q0 q1 s0 s1 t0 t1)), (.flt (near_Segments_3 p0 p1 q0 q1 s0 s1 t0 t1)), (.flt (near_Segments_4 p0 p1 q0 q1 s0 s1 t0 t1))])])) (Q (AT.tup []) (AT.tup [(.agg [(.flt p0), (.flt p1)]), (.agg [(.flt q0), (.flt q1)]), (.agg [(.bool fst)]), (.agg [(.flt f), (.flt ax), (.flt ay), (.flt bx), (.flt by_)])])))) : xfun (tb 23 [(40, e40)] [] []) (Try.f83.body.getD .skip) Try.f83.results.toList [.av (.agg [.flt s0, .flt s1]), .av (.agg [.flt t0, .flt t1]), .av (.one (.lp 1000 0)), .av (.one (.lp 1001 0)), .av (.one (.lp 1002 0)), .av (.one (.lp 1003 0))] [(1000, .cells [.flt p0, .flt p1]), (1001, .cells [.flt q0, .flt q1]), (1002, .cells [.bool fst]), (1003, .cells [.flt f, .flt ax, .flt ay, .flt bx, .flt by_])] (fun r bx => Q r (obsB [1000, 1001, 1002, 1003] bx)) := by_kernel (q := cond (fst) (Q (AT.tup []) (AT.tup [(.agg [(.flt p0), (.flt p1)]), (.agg [(.flt q0), (.flt q1)]), (.agg [(.bool Bool.false)]), (.agg [(.flt (near_Segments_0 p0 p1 q0 q1 s0 s1 t0 t1)), (.flt (near_Segments_1 p0 p1 q0 q1 s0 s1 t0 t1)), (.flt (near_Segments_2 p0 p1 q0 q1 s0 s1 t0 t1)), (.flt (near_Segments_3 p0 p1 q0 q1 s0 s1 t0 t1)), (.flt (near_Segments_4 p0 p1 q0 q1 s0 s1 t0 t1))])])) (cond (fLt (near_Segments_0 p0 p1 q0 q1 s0 s1 t0 t1) f) (Q (AT.tup []) (AT.tup [(.agg [(.flt p0), (.flt p1)]), (.agg [(.flt q0), (.flt q1)]), (.agg [(.bool Bool.false)]), (.agg [(.flt (near_Segments_0 p0 p1 q0 q1 s0 s1 t0 t1)), (.flt (near_Segments_1 p0 p1 q0 q1 s0 s1 t0 t1)), (.flt (near_Segments_2 p0 p1 q0 q1 s0 s1 t0 t1)), (.flt (near_Segments_3 p0 p1 q0 q1 s0 s1 t0 t1)), (.flt (near_Segments_4 p0 p1 q0 q1 s0 s1 t0 t1))])])) (Q (AT.tup []) (AT.tup [(.agg [(.flt p0), (.flt p1)]), (.agg [(.flt q0), (.flt q1)]), (.agg [(.bool fst)]), (.agg [(.flt f), (.flt ax), (.flt ay), (.flt bx), (.flt by_)])])))) (by kernel_rfl) h

def e83 : EntB := ⟨fun l bx_ K => match l with
  | [.av (.agg [.flt s0, .flt s1]), .av (.agg [.flt t0, .flt t1]), .av (.one (.lp P 0)), .av (.one (.lp Q 0)), .av (.one (.lp F 0)), .av (.one (.lp G 0))] =>
    (match lk bx_ P, lk bx_ Q, lk bx_ F, lk bx_ G with
    | some (.cells [.flt p0, .flt p1]), some (.cells [.flt q0, .flt q1]), some (.cells [.bool fst]), some (.cells [.flt f, .flt ax, .flt ay, .flt bx, .flt by_]) =>
      bif distinct [P, Q, F, G] then K (.tup []) (zipR [P, Q, F, G] [.cells [.flt p0, .flt p1], .cells [.flt q0, .flt q1], .cells [.bool (bstep (fst, ⟨f, ax, ay, bx, by_⟩) (p0, p1) (q0, q1) (s0, s1) (t0, t1)).1], .cells [.flt ((bstep (fst, ⟨f, ax, ay, bx, by_⟩) (p0, p1) (q0, q1) (s0, s1) (t0, t1)).2).far, .flt ((bstep (fst, ⟨f, ax, ay, bx, by_⟩) (p0, p1) (q0, q1) (s0, s1) (t0, t1)).2).ax, .flt ((bstep (fst, ⟨f, ax, ay, bx, by_⟩) (p0, p1) (q0, q1) (s0, s1) (t0, t1)).2).ay, .flt ((bstep (fst, ⟨f, ax, ay, bx, by_⟩) (p0, p1) (q0, q1) (s0, s1) (t0, t1)).2).bx, .flt ((bstep (fst, ⟨f, ax, ay, bx, by_⟩) (p0, p1) (q0, q1) (s0, s1) (t0, t1)).2).by']] bx_) else False
    | _, _, _, _ => False)
  | _ => False⟩
theorem c83 : CallOkB Pr 83 e83 := by
  refine callOkB_of (T := tb 23 [(40, e40)] [] []) (tb_ok (fnCons c40 (fnNil _)) (fnBNil _)) Try.func83 rfl (by decide) rfl (noLoops rfl) ?_
  intro l bx_ K hLB h
  unfold e83 at h
  dsimp only at h
  split at h
  · rename_i s0 s1 t0 t1 P Q F G
    split at h
    · rename_i p0 p1 q0 q1 fst f ax ay bx by_ h1 h2 h3 h4
      cases hd : distinct [P, Q, F, G] with
      | false => rw [hd] at h; exact h.elim
      | true =>
        rw [hd] at h
        rw [cond_true] at h
        have hlk : lkAll bx_ [P, Q, F, G] [.cells [.flt p0, .flt p1], .cells [.flt q0, .flt q1], .cells [.bool fst], .cells [.flt f, .flt ax, .flt ay, .flt bx, .flt by_]] := by simp only [lkAll, h1, h2, h3, h4, and_self]
        have hx := f83 s0 s1 t0 t1 p0 p1 q0 q1 f ax ay bx by_ fst (fun r X => r = .tup [] ∧ X = .tup (([.cells [.flt p0, .flt p1], .cells [.flt q0, .flt q1], .cells [.bool (bstep (fst, ⟨f, ax, ay, bx, by_⟩) (p0, p1) (q0, q1) (s0, s1) (t0, t1)).1], .cells [.flt ((bstep (fst, ⟨f, ax, ay, bx, by_⟩) (p0, p1) (q0, q1) (s0, s1) (t0, t1)).2).far, .flt ((bstep (fst, ⟨f, ax, ay, bx, by_⟩) (p0, p1) (q0, q1) (s0, s1) (t0, t1)).2).ax, .flt ((bstep (fst, ⟨f, ax, ay, bx, by_⟩) (p0, p1) (q0, q1) (s0, s1) (t0, t1)).2).ay, .flt ((bstep (fst, ⟨f, ax, ay, bx, by_⟩) (p0, p1) (q0, q1) (s0, s1) (t0, t1)).2).bx, .flt ((bstep (fst, ⟨f, ax, ay, bx, by_⟩) (p0, p1) (q0, q1) (s0, s1) (t0, t1)).2).by']] : List Bx).map encB)) ?_
        · exact canonB [.av (.agg [.flt s0, .flt s1]), .av (.agg [.flt t0, .flt t1]), .av (.one (.lp 1000 0)), .av (.one (.lp 1001 0)), .av (.one (.lp 1002 0)), .av (.one (.lp 1003 0))] [P, Q, F, G] [.cells [.flt p0, .flt p1], .cells [.flt q0, .flt q1], .cells [.bool fst], .cells [.flt f, .flt ax, .flt ay, .flt bx, .flt by_]] [.cells [.flt p0, .flt p1], .cells [.flt q0, .flt q1], .cells [.bool (bstep (fst, ⟨f, ax, ay, bx, by_⟩) (p0, p1) (q0, q1) (s0, s1) (t0, t1)).1], .cells [.flt ((bstep (fst, ⟨f, ax, ay, bx, by_⟩) (p0, p1) (q0, q1) (s0, s1) (t0, t1)).2).far, .flt ((bstep (fst, ⟨f, ax, ay, bx, by_⟩) (p0, p1) (q0, q1) (s0, s1) (t0, t1)).2).ax, .flt ((bstep (fst, ⟨f, ax, ay, bx, by_⟩) (p0, p1) (q0, q1) (s0, s1) (t0, t1)).2).ay, .flt ((bstep (fst, ⟨f, ax, ay, bx, by_⟩) (p0, p1) (q0, q1) (s0, s1) (t0, t1)).2).bx, .flt ((bstep (fst, ⟨f, ax, ay, bx, by_⟩) (p0, p1) (q0, q1) (s0, s1) (t0, t1)).2).by']] (.tup []) (by kernel_rfl) (by kernel_rfl) (by kernel_rfl) hlk hd (by kernel_rfl) (by kernel_rfl) (by kernel_rfl) (by kernel_rfl) hx h
        cases fst with
        | true => exact ⟨rfl, rfl⟩
        | false =>
          unfold bstep
          simp only [Bool.false_or, segs]
          cases fLt (near_Segments_0 p0 p1 q0 q1 s0 s1 t0 t1) f <;> exact ⟨trivial, rfl⟩
    · exact h.elim
  · exact h.elim

end Go.Proofs.Ythopjahoaljhaaa.X

/-! ## Loops that go through all numbers and carry something on. -/
set_option linter.unusedVariables false
set_option linter.unusedSimpArgs false
namespace Go.Proofs.Ythopjahoaljhaaa.X
open Go Go.RowKit

def foldI {B : Type} (f : Nat → B → B) : Nat → Nat → B → B
  | _, 0, b => b
  | i, n + 1, b => foldI f (i + 1) n (f i b)
def stG {Ctx B : Type} (N : Ctx → Nat) (f : Ctx → Nat → B → B) (xd : Nat) (done : Ctx → B → List AV) (x : Ctx × Nat × B) : Sum (Ctx × Nat × B) (XE × List AV) :=
  if x.2.1 < N x.1 then .inl (x.1, x.2.1 + 1, f x.1 x.2.1 x.2.2) else .inr (.x xd, done x.1 x.2.2)
theorem itG {Ctx B : Type} (N : Ctx → Nat) (f : Ctx → Nat → B → B) (xd : Nat) (done : Ctx → B → List AV) (c : Ctx) : ∀ n i b, i + n = N c →
    iter (stG N f xd done) (n + 1) (c, i, b) = some (.x xd, done c (foldI (f c) i n b)) := by
  intro n
  induction n with
  | zero =>
    intro i b h
    have : ¬ i < N c := by omega
    simp only [iter, stG, if_neg this, foldI]
  | succ n ih =>
    intro i b h
    have hi : i < N c := by omega
    rw [iter, stG, if_pos hi]
    exact ih (i + 1) _ (by omega)
theorem fold_ok {P : Program} {T : Tb} (hT : TOk P T) {c : Code} {vl : XE → List LV} {Ctx B : Type} {enc : Ctx → Nat → B → List AV} {N : Ctx → Nat} {f : Ctx → Nat → B → B} {xd : Nat} {done : Ctx → B → List AV} {pre : Ctx → Prop}
    {s : St → (XE → St → Prop) → Prop} (hl : LoopsOk P T c)
    (hs : ∀ σ K, s σ K → ∃ x i b, pre x ∧ i ≤ N x ∧ getLVs σ (vl .n) = some (enc x i b) ∧ K (.x xd) (mkS (vl (.x xd)) (done x (foldI (f x) i (N x - i) b))))
    (hc : ∀ x i b, pre x → clOk (vl .n) (enc x i b) = true ∧ clOk (vl (.x xd)) (done x b) = true)
    (hx : ∀ x i b, pre x → i ≤ N x → LBl (vl .n) (enc x i b) → xcode T c (mkS (vl .n) (enc x i b)) (fun e σ => obsT vl e σ =
      bif decide (i < N x) then .tup (.one (.int .i64 0) :: enc x (i + 1) (f x i b)) else .tup (.one (.int .i64 ((xd + 2 : Nat) : Int)) :: done x b))) : LoopOk P T c s := by
  refine loop_ok hT (vl := vl) (enc := fun x => enc x.1 x.2.1 x.2.2) (step := stG N f xd done) (pre := fun x => pre x.1 ∧ x.2.1 ≤ N x.1) hl ?_ ?_ ?_ ?_
  · intro σ K h
    obtain ⟨x, i, b, h1, h2, h3, h4⟩ := hs σ K h
    exact ⟨(x, i, b), _, _, _, ⟨h1, h2⟩, h3, itG N f xd done x (N x - i) i b (by omega), h4⟩
  · rintro ⟨x, i, b⟩ ⟨h1, h2⟩
    refine ⟨(hc x i b h1).1, fun e l hs => ?_⟩
    simp only [stG] at hs
    split at hs
    · cases hs
    · cases hs; exact ⟨by simp, (hc x i b h1).2⟩
  · rintro ⟨x, i, b⟩ y ⟨h1, h2⟩ hs
    simp only [stG] at hs
    split at hs
    · cases hs; exact ⟨h1, by simp only; omega⟩
    · cases hs
  · rintro ⟨x, i, b⟩ ⟨h1, h2⟩ hb
    have := hx x i b h1 h2 hb
    have e : (bif decide (i < N x) then AT.tup (.one (.int .i64 0) :: enc x (i + 1) (f x i b)) else .tup (.one (.int .i64 ((xd + 2 : Nat) : Int)) :: done x b)) = obsOf (fun x => enc x.1 x.2.1 x.2.2) (stG N f xd done (x, i, b)) := by
      simp only [stG]
      by_cases hi : i < N x
      · rw [if_pos hi, decide_eq_true hi]; rfl
      · rw [if_neg hi, decide_eq_false hi]; rfl
    simp only [e] at this
    exact this
end Go.Proofs.Ythopjahoaljhaaa.X

/-! ## near.sides, as the inner closure is handed to it. -/
set_option linter.unusedVariables false
set_option linter.unusedSimpArgs false
set_option maxRecDepth 100000
namespace Go.Proofs.Ythopjahoaljhaaa.X
open Go Go.RowKit


/-- What is done to the sides of a shape's core, in their order. -/
def sidesF (kd : Int) (m : List (Nat × Nat)) (f : Bool × Nr → Nat × Nat → Nat × Nat → Bool × Nr) (b : Bool × Nr) : Bool × Nr :=
  bif kd == (3 : Int) then f (foldI (fun i b => f b (gp m i) (gp m (i + 1))) 0 (m.length - 1) b) (gp m (m.length - 1)) (gp m 0)
  else bif kd == (2 : Int) then foldI (fun i b => f b (gp m i) (gp m (i + 1))) 0 (m.length - 1) b
  else bif kd == (1 : Int) then f b (gp m (m.length - 1)) (gp m 0) else b
noncomputable def b81b : Code := ((loopsOf (Try.f81.body.getD .skip)).getD 0 .skip)
def vl81b : XE → List LV := fun
  | .n => [.t 1, .t 2, .b 2, .t 17, .t 18, .t 4, .b 1000, .b 1001, .b 1002, .b 1003]
  | .r => []
  | _ => [.t 1, .t 2, .b 2, .t 4, .b 1000, .b 1001, .b 1002, .b 1003]

theorem t81b (kd : Int) (rd : Nat) (m : List (Nat × Nat)) (n : Nat) (i : Nat) (p : Nat × Nat) (q : Nat × Nat) (b : Bool × Nr) (R : AT) (h : cond (Decidable.decide (LT.lt (Nat.cast i : Int) (Nat.cast n : Int))) (cond (inRange ((Nat.cast i : Int)) (List.length m)) (cond (inRange (Go.IntKind.wrap Go.IntKind.i64 (HAdd.hAdd (Nat.cast i : Int) (1 : Int))) (List.length m)) (AT.tup [(.one (.int .i64 ((Nat.cast (codeX XE.n) : Int)))), (.fn (Go.Fn.func (83 : Go.FuncId)) [] [(.lp ((1000 : Nat)) ((0 : Nat))), (.lp ((1001 : Nat)) ((0 : Nat))), (.lp ((1002 : Nat)) ((0 : Nat))), (.lp ((1003 : Nat)) ((0 : Nat)))]), (.one (.lp ((2 : Nat)) ((0 : Nat)))), (.agg [(.int .u8 kd), (.flt rd), (.sl m)]), (.one (.int .i64 ((Nat.cast n : Int)))), (.one (.int .i64 (Go.IntKind.wrap Go.IntKind.i64 (HAdd.hAdd (Nat.cast i : Int) (1 : Int))))), (.one (.int .i64 ((Nat.cast n : Int)))), (.agg [(.flt (Prod.fst p)), (.flt (Prod.snd p))]), (.agg [(.flt (Prod.fst q)), (.flt (Prod.snd q))]), (.agg [(.bool (Prod.fst (bstep (Prod.mk (Prod.fst b) { far := Nr.far (Prod.snd b), ax := Nr.ax (Prod.snd b), ay := Nr.ay (Prod.snd b), bx := Nr.bx (Prod.snd b), by' := Nr.by' (Prod.snd b) }) (Prod.mk (Prod.fst p) (Prod.snd p)) (Prod.mk (Prod.fst q) (Prod.snd q)) (Prod.mk (Prod.fst (gp m (Int.toNat (Nat.cast i : Int)))) (Prod.snd (gp m (Int.toNat (Nat.cast i : Int))))) (Prod.mk (Prod.fst (gp m (Int.toNat (Go.IntKind.wrap Go.IntKind.i64 (HAdd.hAdd (Nat.cast i : Int) (1 : Int)))))) (Prod.snd (gp m (Int.toNat (Go.IntKind.wrap Go.IntKind.i64 (HAdd.hAdd (Nat.cast i : Int) (1 : Int))))))))))]), (.agg [(.flt (Nr.far (Prod.snd (bstep (Prod.mk (Prod.fst b) { far := Nr.far (Prod.snd b), ax := Nr.ax (Prod.snd b), ay := Nr.ay (Prod.snd b), bx := Nr.bx (Prod.snd b), by' := Nr.by' (Prod.snd b) }) (Prod.mk (Prod.fst p) (Prod.snd p)) (Prod.mk (Prod.fst q) (Prod.snd q)) (Prod.mk (Prod.fst (gp m (Int.toNat (Nat.cast i : Int)))) (Prod.snd (gp m (Int.toNat (Nat.cast i : Int))))) (Prod.mk (Prod.fst (gp m (Int.toNat (Go.IntKind.wrap Go.IntKind.i64 (HAdd.hAdd (Nat.cast i : Int) (1 : Int)))))) (Prod.snd (gp m (Int.toNat (Go.IntKind.wrap Go.IntKind.i64 (HAdd.hAdd (Nat.cast i : Int) (1 : Int))))))))))), (.flt (Nr.ax (Prod.snd (bstep (Prod.mk (Prod.fst b) { far := Nr.far (Prod.snd b), ax := Nr.ax (Prod.snd b), ay := Nr.ay (Prod.snd b), bx := Nr.bx (Prod.snd b), by' := Nr.by' (Prod.snd b) }) (Prod.mk (Prod.fst p) (Prod.snd p)) (Prod.mk (Prod.fst q) (Prod.snd q)) (Prod.mk (Prod.fst (gp m (Int.toNat (Nat.cast i : Int)))) (Prod.snd (gp m (Int.toNat (Nat.cast i : Int))))) (Prod.mk (Prod.fst (gp m (Int.toNat (Go.IntKind.wrap Go.IntKind.i64 (HAdd.hAdd (Nat.cast i : Int) (1 : Int)))))) (Prod.snd (gp m (Int.toNat (Go.IntKind.wrap Go.IntKind.i64 (HAdd.hAdd (Nat.cast i : Int) (1 : Int))))))))))), (.flt (Nr.ay (Prod.snd (bstep (Prod.mk (Prod.fst b) { far := Nr.far (Prod.snd b), ax := Nr.ax (Prod.snd b), ay := Nr.ay (Prod.snd b), bx := Nr.bx (Prod.snd b), by' := Nr.by' (Prod.snd b) }) (Prod.mk (Prod.fst p) (Prod.snd p)) (Prod.mk (Prod.fst q) (Prod.snd q)) (Prod.mk (Prod.fst (gp m (Int.toNat (Nat.cast i : Int)))) (Prod.snd (gp m (Int.toNat (Nat.cast i : Int))))) (Prod.mk (Prod.fst (gp m (Int.toNat (Go.IntKind.wrap Go.IntKind.i64 (HAdd.hAdd (Nat.cast i : Int) (1 : Int)))))) (Prod.snd (gp m (Int.toNat (Go.IntKind.wrap Go.IntKind.i64 (HAdd.hAdd (Nat.cast i : Int) (1 : Int))))))))))), (.flt (Nr.bx (Prod.snd (bstep (Prod.mk (Prod.fst b) { far := Nr.far (Prod.snd b), ax := Nr.ax (Prod.snd b), ay := Nr.ay (Prod.snd b), bx := Nr.bx (Prod.snd b), by' := Nr.by' (Prod.snd b) }) (Prod.mk (Prod.fst p) (Prod.snd p)) (Prod.mk (Prod.fst q) (Prod.snd q)) (Prod.mk (Prod.fst (gp m (Int.toNat (Nat.cast i : Int)))) (Prod.snd (gp m (Int.toNat (Nat.cast i : Int))))) (Prod.mk (Prod.fst (gp m (Int.toNat (Go.IntKind.wrap Go.IntKind.i64 (HAdd.hAdd (Nat.cast i : Int) (1 : Int)))))) (Prod.snd (gp m (Int.toNat (Go.IntKind.wrap Go.IntKind.i64 (HAdd.hAdd (Nat.cast i : Int) (1 : Int))))))))))), (.flt (Nr.by' (Prod.snd (bstep (Prod.mk (Prod.fst b) { far := Nr.far (Prod.snd b), ax := Nr.ax (Prod.snd b), ay := Nr.ay (Prod.snd b), bx := Nr.bx (Prod.snd b), by' := Nr.by' (Prod.snd b) }) (Prod.mk (Prod.fst p) (Prod.snd p)) (Prod.mk (Prod.fst q) (Prod.snd q)) (Prod.mk (Prod.fst (gp m (Int.toNat (Nat.cast i : Int)))) (Prod.snd (gp m (Int.toNat (Nat.cast i : Int))))) (Prod.mk (Prod.fst (gp m (Int.toNat (Go.IntKind.wrap Go.IntKind.i64 (HAdd.hAdd (Nat.cast i : Int) (1 : Int)))))) (Prod.snd (gp m (Int.toNat (Go.IntKind.wrap Go.IntKind.i64 (HAdd.hAdd (Nat.cast i : Int) (1 : Int)))))))))))])] = R) (False)) (False)) (AT.tup [(.one (.int .i64 ((Nat.cast (codeX (XE.x (3 : Nat))) : Int)))), (.fn (Go.Fn.func (83 : Go.FuncId)) [] [(.lp ((1000 : Nat)) ((0 : Nat))), (.lp ((1001 : Nat)) ((0 : Nat))), (.lp ((1002 : Nat)) ((0 : Nat))), (.lp ((1003 : Nat)) ((0 : Nat)))]), (.one (.lp ((2 : Nat)) ((0 : Nat)))), (.agg [(.int .u8 kd), (.flt rd), (.sl m)]), (.one (.int .i64 ((Nat.cast n : Int)))), (.agg [(.flt (Prod.fst p)), (.flt (Prod.snd p))]), (.agg [(.flt (Prod.fst q)), (.flt (Prod.snd q))]), (.agg [(.bool (Prod.fst b))]), (.agg [(.flt (Nr.far (Prod.snd b))), (.flt (Nr.ax (Prod.snd b))), (.flt (Nr.ay (Prod.snd b))), (.flt (Nr.bx (Prod.snd b))), (.flt (Nr.by' (Prod.snd b)))])] = R)) : xcode (tb 49 [] [(83, e83)] []) b81b (mkS (vl81b .n) [.fn (.func 83) [] [.lp 1000 0, .lp 1001 0, .lp 1002 0, .lp 1003 0], .one (.lp 2 0), .agg [.int .u8 kd, .flt rd, .sl m], .one (.int .i64 n), .one (.int .i64 i), .one (.int .i64 n), .agg [.flt p.1, .flt p.2], .agg [.flt q.1, .flt q.2], .agg [.bool (b).1], .agg [.flt (b).2.far, .flt (b).2.ax, .flt (b).2.ay, .flt (b).2.bx, .flt (b).2.by']]) (fun e σ => obsT vl81b e σ = R) := by_kernel (q := cond (Decidable.decide (LT.lt (Nat.cast i : Int) (Nat.cast n : Int))) (cond (inRange ((Nat.cast i : Int)) (List.length m)) (cond (inRange (Go.IntKind.wrap Go.IntKind.i64 (HAdd.hAdd (Nat.cast i : Int) (1 : Int))) (List.length m)) (AT.tup [(.one (.int .i64 ((Nat.cast (codeX XE.n) : Int)))), (.fn (Go.Fn.func (83 : Go.FuncId)) [] [(.lp ((1000 : Nat)) ((0 : Nat))), (.lp ((1001 : Nat)) ((0 : Nat))), (.lp ((1002 : Nat)) ((0 : Nat))), (.lp ((1003 : Nat)) ((0 : Nat)))]), (.one (.lp ((2 : Nat)) ((0 : Nat)))), (.agg [(.int .u8 kd), (.flt rd), (.sl m)]), (.one (.int .i64 ((Nat.cast n : Int)))), (.one (.int .i64 (Go.IntKind.wrap Go.IntKind.i64 (HAdd.hAdd (Nat.cast i : Int) (1 : Int))))), (.one (.int .i64 ((Nat.cast n : Int)))), (.agg [(.flt (Prod.fst p)), (.flt (Prod.snd p))]), (.agg [(.flt (Prod.fst q)), (.flt (Prod.snd q))]), (.agg [(.bool (Prod.fst (bstep (Prod.mk (Prod.fst b) { far := Nr.far (Prod.snd b), ax := Nr.ax (Prod.snd b), ay := Nr.ay (Prod.snd b), bx := Nr.bx (Prod.snd b), by' := Nr.by' (Prod.snd b) }) (Prod.mk (Prod.fst p) (Prod.snd p)) (Prod.mk (Prod.fst q) (Prod.snd q)) (Prod.mk (Prod.fst (gp m (Int.toNat (Nat.cast i : Int)))) (Prod.snd (gp m (Int.toNat (Nat.cast i : Int))))) (Prod.mk (Prod.fst (gp m (Int.toNat (Go.IntKind.wrap Go.IntKind.i64 (HAdd.hAdd (Nat.cast i : Int) (1 : Int)))))) (Prod.snd (gp m (Int.toNat (Go.IntKind.wrap Go.IntKind.i64 (HAdd.hAdd (Nat.cast i : Int) (1 : Int))))))))))]), (.agg [(.flt (Nr.far (Prod.snd (bstep (Prod.mk (Prod.fst b) { far := Nr.far (Prod.snd b), ax := Nr.ax (Prod.snd b), ay := Nr.ay (Prod.snd b), bx := Nr.bx (Prod.snd b), by' := Nr.by' (Prod.snd b) }) (Prod.mk (Prod.fst p) (Prod.snd p)) (Prod.mk (Prod.fst q) (Prod.snd q)) (Prod.mk (Prod.fst (gp m (Int.toNat (Nat.cast i : Int)))) (Prod.snd (gp m (Int.toNat (Nat.cast i : Int))))) (Prod.mk (Prod.fst (gp m (Int.toNat (Go.IntKind.wrap Go.IntKind.i64 (HAdd.hAdd (Nat.cast i : Int) (1 : Int)))))) (Prod.snd (gp m (Int.toNat (Go.IntKind.wrap Go.IntKind.i64 (HAdd.hAdd (Nat.cast i : Int) (1 : Int))))))))))), (.flt (Nr.ax (Prod.snd (bstep (Prod.mk (Prod.fst b) { far := Nr.far (Prod.snd b), ax := Nr.ax (Prod.snd b), ay := Nr.ay (Prod.snd b), bx := Nr.bx (Prod.snd b), by' := Nr.by' (Prod.snd b) }) (Prod.mk (Prod.fst p) (Prod.snd p)) (Prod.mk (Prod.fst q) (Prod.snd q)) (Prod.mk (Prod.fst (gp m (Int.toNat (Nat.cast i : Int)))) (Prod.snd (gp m (Int.toNat (Nat.cast i : Int))))) (Prod.mk (Prod.fst (gp m (Int.toNat (Go.IntKind.wrap Go.IntKind.i64 (HAdd.hAdd (Nat.cast i : Int) (1 : Int)))))) (Prod.snd (gp m (Int.toNat (Go.IntKind.wrap Go.IntKind.i64 (HAdd.hAdd (Nat.cast i : Int) (1 : Int))))))))))), (.flt (Nr.ay (Prod.snd (bstep (Prod.mk (Prod.fst b) { far := Nr.far (Prod.snd b), ax := Nr.ax (Prod.snd b), ay := Nr.ay (Prod.snd b), bx := Nr.bx (Prod.snd b), by' := Nr.by' (Prod.snd b) }) (Prod.mk (Prod.fst p) (Prod.snd p)) (Prod.mk (Prod.fst q) (Prod.snd q)) (Prod.mk (Prod.fst (gp m (Int.toNat (Nat.cast i : Int)))) (Prod.snd (gp m (Int.toNat (Nat.cast i : Int))))) (Prod.mk (Prod.fst (gp m (Int.toNat (Go.IntKind.wrap Go.IntKind.i64 (HAdd.hAdd (Nat.cast i : Int) (1 : Int)))))) (Prod.snd (gp m (Int.toNat (Go.IntKind.wrap Go.IntKind.i64 (HAdd.hAdd (Nat.cast i : Int) (1 : Int))))))))))), (.flt (Nr.bx (Prod.snd (bstep (Prod.mk (Prod.fst b) { far := Nr.far (Prod.snd b), ax := Nr.ax (Prod.snd b), ay := Nr.ay (Prod.snd b), bx := Nr.bx (Prod.snd b), by' := Nr.by' (Prod.snd b) }) (Prod.mk (Prod.fst p) (Prod.snd p)) (Prod.mk (Prod.fst q) (Prod.snd q)) (Prod.mk (Prod.fst (gp m (Int.toNat (Nat.cast i : Int)))) (Prod.snd (gp m (Int.toNat (Nat.cast i : Int))))) (Prod.mk (Prod.fst (gp m (Int.toNat (Go.IntKind.wrap Go.IntKind.i64 (HAdd.hAdd (Nat.cast i : Int) (1 : Int)))))) (Prod.snd (gp m (Int.toNat (Go.IntKind.wrap Go.IntKind.i64 (HAdd.hAdd (Nat.cast i : Int) (1 : Int))))))))))), (.flt (Nr.by' (Prod.snd (bstep (Prod.mk (Prod.fst b) { far := Nr.far (Prod.snd b), ax := Nr.ax (Prod.snd b), ay := Nr.ay (Prod.snd b), bx := Nr.bx (Prod.snd b), by' := Nr.by' (Prod.snd b) }) (Prod.mk (Prod.fst p) (Prod.snd p)) (Prod.mk (Prod.fst q) (Prod.snd q)) (Prod.mk (Prod.fst (gp m (Int.toNat (Nat.cast i : Int)))) (Prod.snd (gp m (Int.toNat (Nat.cast i : Int))))) (Prod.mk (Prod.fst (gp m (Int.toNat (Go.IntKind.wrap Go.IntKind.i64 (HAdd.hAdd (Nat.cast i : Int) (1 : Int)))))) (Prod.snd (gp m (Int.toNat (Go.IntKind.wrap Go.IntKind.i64 (HAdd.hAdd (Nat.cast i : Int) (1 : Int)))))))))))])] = R) (False)) (False)) (AT.tup [(.one (.int .i64 ((Nat.cast (codeX (XE.x (3 : Nat))) : Int)))), (.fn (Go.Fn.func (83 : Go.FuncId)) [] [(.lp ((1000 : Nat)) ((0 : Nat))), (.lp ((1001 : Nat)) ((0 : Nat))), (.lp ((1002 : Nat)) ((0 : Nat))), (.lp ((1003 : Nat)) ((0 : Nat)))]), (.one (.lp ((2 : Nat)) ((0 : Nat)))), (.agg [(.int .u8 kd), (.flt rd), (.sl m)]), (.one (.int .i64 ((Nat.cast n : Int)))), (.agg [(.flt (Prod.fst p)), (.flt (Prod.snd p))]), (.agg [(.flt (Prod.fst q)), (.flt (Prod.snd q))]), (.agg [(.bool (Prod.fst b))]), (.agg [(.flt (Nr.far (Prod.snd b))), (.flt (Nr.ax (Prod.snd b))), (.flt (Nr.ay (Prod.snd b))), (.flt (Nr.bx (Prod.snd b))), (.flt (Nr.by' (Prod.snd b)))])] = R)) (by kernel_rfl) h

structure Cx81b where
  (kd : Int) (rd : Nat) (m : List (Nat × Nat)) (n : Nat) (p q : Nat × Nat)
def f81b (c : Cx81b) (i : Nat) (b : Bool × Nr) : Bool × Nr := (fun b s t => bstep b c.p c.q s t) b (gp c.m i) (gp c.m (i + 1))
def s81b (σ : St) (K : XE → St → Prop) : Prop :=
  match getLVs σ (vl81b .n) with
  | some [.fn (.func 83) [] [.lp 1000 0, .lp 1001 0, .lp 1002 0, .lp 1003 0], .one (.lp 2 0), .agg [.int .u8 kd, .flt rd, .sl m], .one (.int .i64 n), .one (.int .i64 0), .one (.int .i64 n'), .agg [.flt p0, .flt p1], .agg [.flt q0, .flt q1], .agg [.bool fst], .agg [.flt f, .flt ax, .flt ay, .flt bx, .flt by_]] =>
    (n' = n ∧ n = ((m.length - 1 : Nat) : Int) ∧ 1 ≤ m.length ∧ m.length ≤ 8796093022208) ∧ K (.x 3) ⟨[(1, .av (.fn (.func 83) [] [.lp 1000 0, .lp 1001 0, .lp 1002 0, .lp 1003 0])), (2, .av (.one (.lp 2 0))), (4, .av (.one (.int .i64 n)))], (2, .cells [.int .u8 kd, .flt rd, .sl m]) :: zipF 1000 [.cells [.flt p0, .flt p1], .cells [.flt q0, .flt q1], .cells [.bool (foldI (f81b ⟨kd, rd, m, m.length - 1, (p0, p1), (q0, q1)⟩) 0 (m.length - 1) (fst, ⟨f, ax, ay, bx, by_⟩)).1], .cells [.flt (foldI (f81b ⟨kd, rd, m, m.length - 1, (p0, p1), (q0, q1)⟩) 0 (m.length - 1) (fst, ⟨f, ax, ay, bx, by_⟩)).2.far, .flt (foldI (f81b ⟨kd, rd, m, m.length - 1, (p0, p1), (q0, q1)⟩) 0 (m.length - 1) (fst, ⟨f, ax, ay, bx, by_⟩)).2.ax, .flt (foldI (f81b ⟨kd, rd, m, m.length - 1, (p0, p1), (q0, q1)⟩) 0 (m.length - 1) (fst, ⟨f, ax, ay, bx, by_⟩)).2.ay, .flt (foldI (f81b ⟨kd, rd, m, m.length - 1, (p0, p1), (q0, q1)⟩) 0 (m.length - 1) (fst, ⟨f, ax, ay, bx, by_⟩)).2.bx, .flt (foldI (f81b ⟨kd, rd, m, m.length - 1, (p0, p1), (q0, q1)⟩) 0 (m.length - 1) (fst, ⟨f, ax, ay, bx, by_⟩)).2.by']]⟩
  | _ => False
theorem lo81b : LoopOk Pr (tb 49 [] [(83, e83)] []) b81b s81b := by
  refine fold_ok (tb_ok (fnNil _) (fnBCons c83 (fnBNil _))) (vl := vl81b) (Ctx := Cx81b) (B := Bool × Nr)
    (enc := fun c i b => [.fn (.func 83) [] [.lp 1000 0, .lp 1001 0, .lp 1002 0, .lp 1003 0], .one (.lp 2 0), .agg [.int .u8 c.kd, .flt c.rd, .sl c.m], .one (.int .i64 c.n), .one (.int .i64 i), .one (.int .i64 c.n), .agg [.flt c.p.1, .flt c.p.2], .agg [.flt c.q.1, .flt c.q.2], .agg [.bool (b).1], .agg [.flt (b).2.far, .flt (b).2.ax, .flt (b).2.ay, .flt (b).2.bx, .flt (b).2.by']])
    (N := fun c => c.n) (f := f81b) (xd := 3) (done := fun c b => [.fn (.func 83) [] [.lp 1000 0, .lp 1001 0, .lp 1002 0, .lp 1003 0], .one (.lp 2 0), .agg [.int .u8 c.kd, .flt c.rd, .sl c.m], .one (.int .i64 c.n), .agg [.flt c.p.1, .flt c.p.2], .agg [.flt c.q.1, .flt c.q.2], .agg [.bool (b).1], .agg [.flt (b).2.far, .flt (b).2.ax, .flt (b).2.ay, .flt (b).2.bx, .flt (b).2.by']])
    (pre := fun c => c.n + 1 ≤ c.m.length ∧ c.m.length ≤ 8796093022208) (noLoops (by kernel_rfl)) ?_ ?_ ?_
  · intro σ K h
    unfold s81b at h
    split at h
    · rename_i kd rd m n n' p0 p1 q0 q1 fst f ax ay bx by_ hg
      obtain ⟨⟨rfl, rfl, h1, h2⟩, h⟩ := h
      exact ⟨⟨kd, rd, m, m.length - 1, (p0, p1), (q0, q1)⟩, 0, (fst, ⟨f, ax, ay, bx, by_⟩), ⟨by dsimp only; omega, h2⟩, Nat.zero_le _, hg, h⟩
    · exact h.elim
  · intro c i b h
    exact ⟨rfl, rfl⟩
  · rintro ⟨kd, rd, m, n, p, q⟩ i b ⟨h1, h2⟩ hk hb
    dsimp only at h1 h2 hk ⊢
    apply t81b
    rw [dlt, inRange_nat, Int.toNat_natCast]
    by_cases hi : i < n
    · have hw : IntKind.i64.wrap ((i : Int) + 1) = ((i + 1 : Nat) : Int) := wrap_succ (by omega)
      have h3 : i < m.length := by omega
      have h4 : i + 1 < m.length := by omega
      rw [hw, inRange_nat, Int.toNat_natCast, decide_eq_true hi, decide_eq_true h3, decide_eq_true h4]
      rfl
    · rw [decide_eq_false hi]; rfl
theorem fW81b (kd : Int) (rd : Nat) (m : List (Nat × Nat)) (p : Nat × Nat) (q : Nat × Nat) (b : Bool × Nr) (Q : AT → AT → Prop) (h : cond (BEq.beq kd (3 : Int)) (And (And (Eq (Go.IntKind.wrap Go.IntKind.i64 (HSub.hSub (Nat.cast (List.length m) : Int) (1 : Int))) (Go.IntKind.wrap Go.IntKind.i64 (HSub.hSub (Nat.cast (List.length m) : Int) (1 : Int)))) (And (Eq (Go.IntKind.wrap Go.IntKind.i64 (HSub.hSub (Nat.cast (List.length m) : Int) (1 : Int))) (Nat.cast (HSub.hSub (List.length m) (1 : Nat)) : Int)) (And (LE.le (1 : Nat) (List.length m)) (LE.le (List.length m) (8796093022208 : Nat))))) (cond (BEq.beq kd (2 : Int)) (Q (AT.tup []) (AT.tup [(.agg [(.flt (Prod.fst p)), (.flt (Prod.snd p))]), (.agg [(.flt (Prod.fst q)), (.flt (Prod.snd q))]), (.agg [(.bool (Prod.fst (foldI (f81b { kd := kd, rd := rd, m := m, n := HSub.hSub (List.length m) (1 : Nat), p := p, q := q }) (0 : Nat) (HSub.hSub (List.length m) (1 : Nat)) (b))))]), (.agg [(.flt (Nr.far (Prod.snd (foldI (f81b { kd := kd, rd := rd, m := m, n := HSub.hSub (List.length m) (1 : Nat), p := p, q := q }) (0 : Nat) (HSub.hSub (List.length m) (1 : Nat)) (b))))), (.flt (Nr.ax (Prod.snd (foldI (f81b { kd := kd, rd := rd, m := m, n := HSub.hSub (List.length m) (1 : Nat), p := p, q := q }) (0 : Nat) (HSub.hSub (List.length m) (1 : Nat)) (b))))), (.flt (Nr.ay (Prod.snd (foldI (f81b { kd := kd, rd := rd, m := m, n := HSub.hSub (List.length m) (1 : Nat), p := p, q := q }) (0 : Nat) (HSub.hSub (List.length m) (1 : Nat)) (b))))), (.flt (Nr.bx (Prod.snd (foldI (f81b { kd := kd, rd := rd, m := m, n := HSub.hSub (List.length m) (1 : Nat), p := p, q := q }) (0 : Nat) (HSub.hSub (List.length m) (1 : Nat)) (b))))), (.flt (Nr.by' (Prod.snd (foldI (f81b { kd := kd, rd := rd, m := m, n := HSub.hSub (List.length m) (1 : Nat), p := p, q := q }) (0 : Nat) (HSub.hSub (List.length m) (1 : Nat)) (b)))))])])) (cond (inRange (Go.IntKind.wrap Go.IntKind.i64 (HSub.hSub (Nat.cast (List.length m) : Int) (1 : Int))) (List.length m)) (cond (inRange (0 : Int) (List.length m)) (Q (AT.tup []) (AT.tup [(.agg [(.flt (Prod.fst p)), (.flt (Prod.snd p))]), (.agg [(.flt (Prod.fst q)), (.flt (Prod.snd q))]), (.agg [(.bool (Prod.fst (bstep (foldI (f81b { kd := kd, rd := rd, m := m, n := HSub.hSub (List.length m) (1 : Nat), p := p, q := q }) (0 : Nat) (HSub.hSub (List.length m) (1 : Nat)) (b)) (p) (q) (gp m (Int.toNat (Go.IntKind.wrap Go.IntKind.i64 (HSub.hSub (Nat.cast (List.length m) : Int) (1 : Int))))) (gp m (Int.toNat (0 : Int))))))]), (.agg [(.flt (Nr.far (Prod.snd (bstep (foldI (f81b { kd := kd, rd := rd, m := m, n := HSub.hSub (List.length m) (1 : Nat), p := p, q := q }) (0 : Nat) (HSub.hSub (List.length m) (1 : Nat)) (b)) (p) (q) (gp m (Int.toNat (Go.IntKind.wrap Go.IntKind.i64 (HSub.hSub (Nat.cast (List.length m) : Int) (1 : Int))))) (gp m (Int.toNat (0 : Int))))))), (.flt (Nr.ax (Prod.snd (bstep (foldI (f81b { kd := kd, rd := rd, m := m, n := HSub.hSub (List.length m) (1 : Nat), p := p, q := q }) (0 : Nat) (HSub.hSub (List.length m) (1 : Nat)) (b)) (p) (q) (gp m (Int.toNat (Go.IntKind.wrap Go.IntKind.i64 (HSub.hSub (Nat.cast (List.length m) : Int) (1 : Int))))) (gp m (Int.toNat (0 : Int))))))), (.flt (Nr.ay (Prod.snd (bstep (foldI (f81b { kd := kd, rd := rd, m := m, n := HSub.hSub (List.length m) (1 : Nat), p := p, q := q }) (0 : Nat) (HSub.hSub (List.length m) (1 : Nat)) (b)) (p) (q) (gp m (Int.toNat (Go.IntKind.wrap Go.IntKind.i64 (HSub.hSub (Nat.cast (List.length m) : Int) (1 : Int))))) (gp m (Int.toNat (0 : Int))))))), (.flt (Nr.bx (Prod.snd (bstep (foldI (f81b { kd := kd, rd := rd, m := m, n := HSub.hSub (List.length m) (1 : Nat), p := p, q := q }) (0 : Nat) (HSub.hSub (List.length m) (1 : Nat)) (b)) (p) (q) (gp m (Int.toNat (Go.IntKind.wrap Go.IntKind.i64 (HSub.hSub (Nat.cast (List.length m) : Int) (1 : Int))))) (gp m (Int.toNat (0 : Int))))))), (.flt (Nr.by' (Prod.snd (bstep (foldI (f81b { kd := kd, rd := rd, m := m, n := HSub.hSub (List.length m) (1 : Nat), p := p, q := q }) (0 : Nat) (HSub.hSub (List.length m) (1 : Nat)) (b)) (p) (q) (gp m (Int.toNat (Go.IntKind.wrap Go.IntKind.i64 (HSub.hSub (Nat.cast (List.length m) : Int) (1 : Int))))) (gp m (Int.toNat (0 : Int)))))))])])) (False)) (False)))) (cond (BEq.beq kd (2 : Int)) (And (And (Eq (Go.IntKind.wrap Go.IntKind.i64 (HSub.hSub (Nat.cast (List.length m) : Int) (1 : Int))) (Go.IntKind.wrap Go.IntKind.i64 (HSub.hSub (Nat.cast (List.length m) : Int) (1 : Int)))) (And (Eq (Go.IntKind.wrap Go.IntKind.i64 (HSub.hSub (Nat.cast (List.length m) : Int) (1 : Int))) (Nat.cast (HSub.hSub (List.length m) (1 : Nat)) : Int)) (And (LE.le (1 : Nat) (List.length m)) (LE.le (List.length m) (8796093022208 : Nat))))) (cond (BEq.beq kd (2 : Int)) (Q (AT.tup []) (AT.tup [(.agg [(.flt (Prod.fst p)), (.flt (Prod.snd p))]), (.agg [(.flt (Prod.fst q)), (.flt (Prod.snd q))]), (.agg [(.bool (Prod.fst (foldI (f81b { kd := kd, rd := rd, m := m, n := HSub.hSub (List.length m) (1 : Nat), p := p, q := q }) (0 : Nat) (HSub.hSub (List.length m) (1 : Nat)) (b))))]), (.agg [(.flt (Nr.far (Prod.snd (foldI (f81b { kd := kd, rd := rd, m := m, n := HSub.hSub (List.length m) (1 : Nat), p := p, q := q }) (0 : Nat) (HSub.hSub (List.length m) (1 : Nat)) (b))))), (.flt (Nr.ax (Prod.snd (foldI (f81b { kd := kd, rd := rd, m := m, n := HSub.hSub (List.length m) (1 : Nat), p := p, q := q }) (0 : Nat) (HSub.hSub (List.length m) (1 : Nat)) (b))))), (.flt (Nr.ay (Prod.snd (foldI (f81b { kd := kd, rd := rd, m := m, n := HSub.hSub (List.length m) (1 : Nat), p := p, q := q }) (0 : Nat) (HSub.hSub (List.length m) (1 : Nat)) (b))))), (.flt (Nr.bx (Prod.snd (foldI (f81b { kd := kd, rd := rd, m := m, n := HSub.hSub (List.length m) (1 : Nat), p := p, q := q }) (0 : Nat) (HSub.hSub (List.length m) (1 : Nat)) (b))))), (.flt (Nr.by' (Prod.snd (foldI (f81b { kd := kd, rd := rd, m := m, n := HSub.hSub (List.length m) (1 : Nat), p := p, q := q }) (0 : Nat) (HSub.hSub (List.length m) (1 : Nat)) (b)))))])])) (cond (inRange (Go.IntKind.wrap Go.IntKind.i64 (HSub.hSub (Nat.cast (List.length m) : Int) (1 : Int))) (List.length m)) (cond (inRange (0 : Int) (List.length m)) (Q (AT.tup []) (AT.tup [(.agg [(.flt (Prod.fst p)), (.flt (Prod.snd p))]), (.agg [(.flt (Prod.fst q)), (.flt (Prod.snd q))]), (.agg [(.bool (Prod.fst (bstep (foldI (f81b { kd := kd, rd := rd, m := m, n := HSub.hSub (List.length m) (1 : Nat), p := p, q := q }) (0 : Nat) (HSub.hSub (List.length m) (1 : Nat)) (b)) (p) (q) (gp m (Int.toNat (Go.IntKind.wrap Go.IntKind.i64 (HSub.hSub (Nat.cast (List.length m) : Int) (1 : Int))))) (gp m (Int.toNat (0 : Int))))))]), (.agg [(.flt (Nr.far (Prod.snd (bstep (foldI (f81b { kd := kd, rd := rd, m := m, n := HSub.hSub (List.length m) (1 : Nat), p := p, q := q }) (0 : Nat) (HSub.hSub (List.length m) (1 : Nat)) (b)) (p) (q) (gp m (Int.toNat (Go.IntKind.wrap Go.IntKind.i64 (HSub.hSub (Nat.cast (List.length m) : Int) (1 : Int))))) (gp m (Int.toNat (0 : Int))))))), (.flt (Nr.ax (Prod.snd (bstep (foldI (f81b { kd := kd, rd := rd, m := m, n := HSub.hSub (List.length m) (1 : Nat), p := p, q := q }) (0 : Nat) (HSub.hSub (List.length m) (1 : Nat)) (b)) (p) (q) (gp m (Int.toNat (Go.IntKind.wrap Go.IntKind.i64 (HSub.hSub (Nat.cast (List.length m) : Int) (1 : Int))))) (gp m (Int.toNat (0 : Int))))))), (.flt (Nr.ay (Prod.snd (bstep (foldI (f81b { kd := kd, rd := rd, m := m, n := HSub.hSub (List.length m) (1 : Nat), p := p, q := q }) (0 : Nat) (HSub.hSub (List.length m) (1 : Nat)) (b)) (p) (q) (gp m (Int.toNat (Go.IntKind.wrap Go.IntKind.i64 (HSub.hSub (Nat.cast (List.length m) : Int) (1 : Int))))) (gp m (Int.toNat (0 : Int))))))), (.flt (Nr.bx (Prod.snd (bstep (foldI (f81b { kd := kd, rd := rd, m := m, n := HSub.hSub (List.length m) (1 : Nat), p := p, q := q }) (0 : Nat) (HSub.hSub (List.length m) (1 : Nat)) (b)) (p) (q) (gp m (Int.toNat (Go.IntKind.wrap Go.IntKind.i64 (HSub.hSub (Nat.cast (List.length m) : Int) (1 : Int))))) (gp m (Int.toNat (0 : Int))))))), (.flt (Nr.by' (Prod.snd (bstep (foldI (f81b { kd := kd, rd := rd, m := m, n := HSub.hSub (List.length m) (1 : Nat), p := p, q := q }) (0 : Nat) (HSub.hSub (List.length m) (1 : Nat)) (b)) (p) (q) (gp m (Int.toNat (Go.IntKind.wrap Go.IntKind.i64 (HSub.hSub (Nat.cast (List.length m) : Int) (1 : Int))))) (gp m (Int.toNat (0 : Int)))))))])])) (False)) (False)))) (cond (BEq.beq kd (1 : Int)) (cond (inRange (Go.IntKind.wrap Go.IntKind.i64 (HSub.hSub (Nat.cast (List.length m) : Int) (1 : Int))) (List.length m)) (cond (inRange (0 : Int) (List.length m)) (Q (AT.tup []) (AT.tup [(.agg [(.flt (Prod.fst p)), (.flt (Prod.snd p))]), (.agg [(.flt (Prod.fst q)), (.flt (Prod.snd q))]), (.agg [(.bool (Prod.fst (bstep (b) (p) (q) (gp m (Int.toNat (Go.IntKind.wrap Go.IntKind.i64 (HSub.hSub (Nat.cast (List.length m) : Int) (1 : Int))))) (gp m (Int.toNat (0 : Int))))))]), (.agg [(.flt (Nr.far (Prod.snd (bstep (b) (p) (q) (gp m (Int.toNat (Go.IntKind.wrap Go.IntKind.i64 (HSub.hSub (Nat.cast (List.length m) : Int) (1 : Int))))) (gp m (Int.toNat (0 : Int))))))), (.flt (Nr.ax (Prod.snd (bstep (b) (p) (q) (gp m (Int.toNat (Go.IntKind.wrap Go.IntKind.i64 (HSub.hSub (Nat.cast (List.length m) : Int) (1 : Int))))) (gp m (Int.toNat (0 : Int))))))), (.flt (Nr.ay (Prod.snd (bstep (b) (p) (q) (gp m (Int.toNat (Go.IntKind.wrap Go.IntKind.i64 (HSub.hSub (Nat.cast (List.length m) : Int) (1 : Int))))) (gp m (Int.toNat (0 : Int))))))), (.flt (Nr.bx (Prod.snd (bstep (b) (p) (q) (gp m (Int.toNat (Go.IntKind.wrap Go.IntKind.i64 (HSub.hSub (Nat.cast (List.length m) : Int) (1 : Int))))) (gp m (Int.toNat (0 : Int))))))), (.flt (Nr.by' (Prod.snd (bstep (b) (p) (q) (gp m (Int.toNat (Go.IntKind.wrap Go.IntKind.i64 (HSub.hSub (Nat.cast (List.length m) : Int) (1 : Int))))) (gp m (Int.toNat (0 : Int)))))))])])) (False)) (False)) (Q (AT.tup []) (AT.tup [(.agg [(.flt (Prod.fst p)), (.flt (Prod.snd p))]), (.agg [(.flt (Prod.fst q)), (.flt (Prod.snd q))]), (.agg [(.bool (Prod.fst b))]), (.agg [(.flt (Nr.far (Prod.snd b))), (.flt (Nr.ax (Prod.snd b))), (.flt (Nr.ay (Prod.snd b))), (.flt (Nr.bx (Prod.snd b))), (.flt (Nr.by' (Prod.snd b)))])]))))) : xfun (tb 49 [] [(83, e83)] [(7, s81b)]) (Try.f81.body.getD .skip) Try.f81.results.toList [.av (.agg [.int .u8 kd, .flt rd, .sl m]), .av (.fn (.func 83) [] [.lp 1000 0, .lp 1001 0, .lp 1002 0, .lp 1003 0])] [(1000, .cells [.flt p.1, .flt p.2]), (1001, .cells [.flt q.1, .flt q.2]), (1002, .cells [.bool (b).1]), (1003, .cells [.flt (b).2.far, .flt (b).2.ax, .flt (b).2.ay, .flt (b).2.bx, .flt (b).2.by'])] (fun r bx => Q r (obsB [1000, 1001, 1002, 1003] bx)) := by_kernel (q := cond (BEq.beq kd (3 : Int)) (And (And (Eq (Go.IntKind.wrap Go.IntKind.i64 (HSub.hSub (Nat.cast (List.length m) : Int) (1 : Int))) (Go.IntKind.wrap Go.IntKind.i64 (HSub.hSub (Nat.cast (List.length m) : Int) (1 : Int)))) (And (Eq (Go.IntKind.wrap Go.IntKind.i64 (HSub.hSub (Nat.cast (List.length m) : Int) (1 : Int))) (Nat.cast (HSub.hSub (List.length m) (1 : Nat)) : Int)) (And (LE.le (1 : Nat) (List.length m)) (LE.le (List.length m) (8796093022208 : Nat))))) (cond (BEq.beq kd (2 : Int)) (Q (AT.tup []) (AT.tup [(.agg [(.flt (Prod.fst p)), (.flt (Prod.snd p))]), (.agg [(.flt (Prod.fst q)), (.flt (Prod.snd q))]), (.agg [(.bool (Prod.fst (foldI (f81b { kd := kd, rd := rd, m := m, n := HSub.hSub (List.length m) (1 : Nat), p := p, q := q }) (0 : Nat) (HSub.hSub (List.length m) (1 : Nat)) (b))))]), (.agg [(.flt (Nr.far (Prod.snd (foldI (f81b { kd := kd, rd := rd, m := m, n := HSub.hSub (List.length m) (1 : Nat), p := p, q := q }) (0 : Nat) (HSub.hSub (List.length m) (1 : Nat)) (b))))), (.flt (Nr.ax (Prod.snd (foldI (f81b { kd := kd, rd := rd, m := m, n := HSub.hSub (List.length m) (1 : Nat), p := p, q := q }) (0 : Nat) (HSub.hSub (List.length m) (1 : Nat)) (b))))), (.flt (Nr.ay (Prod.snd (foldI (f81b { kd := kd, rd := rd, m := m, n := HSub.hSub (List.length m) (1 : Nat), p := p, q := q }) (0 : Nat) (HSub.hSub (List.length m) (1 : Nat)) (b))))), (.flt (Nr.bx (Prod.snd (foldI (f81b { kd := kd, rd := rd, m := m, n := HSub.hSub (List.length m) (1 : Nat), p := p, q := q }) (0 : Nat) (HSub.hSub (List.length m) (1 : Nat)) (b))))), (.flt (Nr.by' (Prod.snd (foldI (f81b { kd := kd, rd := rd, m := m, n := HSub.hSub (List.length m) (1 : Nat), p := p, q := q }) (0 : Nat) (HSub.hSub (List.length m) (1 : Nat)) (b)))))])])) (cond (inRange (Go.IntKind.wrap Go.IntKind.i64 (HSub.hSub (Nat.cast (List.length m) : Int) (1 : Int))) (List.length m)) (cond (inRange (0 : Int) (List.length m)) (Q (AT.tup []) (AT.tup [(.agg [(.flt (Prod.fst p)), (.flt (Prod.snd p))]), (.agg [(.flt (Prod.fst q)), (.flt (Prod.snd q))]), (.agg [(.bool (Prod.fst (bstep (foldI (f81b { kd := kd, rd := rd, m := m, n := HSub.hSub (List.length m) (1 : Nat), p := p, q := q }) (0 : Nat) (HSub.hSub (List.length m) (1 : Nat)) (b)) (p) (q) (gp m (Int.toNat (Go.IntKind.wrap Go.IntKind.i64 (HSub.hSub (Nat.cast (List.length m) : Int) (1 : Int))))) (gp m (Int.toNat (0 : Int))))))]), (.agg [(.flt (Nr.far (Prod.snd (bstep (foldI (f81b { kd := kd, rd := rd, m := m, n := HSub.hSub (List.length m) (1 : Nat), p := p, q := q }) (0 : Nat) (HSub.hSub (List.length m) (1 : Nat)) (b)) (p) (q) (gp m (Int.toNat (Go.IntKind.wrap Go.IntKind.i64 (HSub.hSub (Nat.cast (List.length m) : Int) (1 : Int))))) (gp m (Int.toNat (0 : Int))))))), (.flt (Nr.ax (Prod.snd (bstep (foldI (f81b { kd := kd, rd := rd, m := m, n := HSub.hSub (List.length m) (1 : Nat), p := p, q := q }) (0 : Nat) (HSub.hSub (List.length m) (1 : Nat)) (b)) (p) (q) (gp m (Int.toNat (Go.IntKind.wrap Go.IntKind.i64 (HSub.hSub (Nat.cast (List.length m) : Int) (1 : Int))))) (gp m (Int.toNat (0 : Int))))))), (.flt (Nr.ay (Prod.snd (bstep (foldI (f81b { kd := kd, rd := rd, m := m, n := HSub.hSub (List.length m) (1 : Nat), p := p, q := q }) (0 : Nat) (HSub.hSub (List.length m) (1 : Nat)) (b)) (p) (q) (gp m (Int.toNat (Go.IntKind.wrap Go.IntKind.i64 (HSub.hSub (Nat.cast (List.length m) : Int) (1 : Int))))) (gp m (Int.toNat (0 : Int))))))), (.flt (Nr.bx (Prod.snd (bstep (foldI (f81b { kd := kd, rd := rd, m := m, n := HSub.hSub (List.length m) (1 : Nat), p := p, q := q }) (0 : Nat) (HSub.hSub (List.length m) (1 : Nat)) (b)) (p) (q) (gp m (Int.toNat (Go.IntKind.wrap Go.IntKind.i64 (HSub.hSub (Nat.cast (List.length m) : Int) (1 : Int))))) (gp m (Int.toNat (0 : Int))))))), (.flt (Nr.by' (Prod.snd (bstep (foldI (f81b { kd := kd, rd := rd, m := m, n := HSub.hSub (List.length m) (1 : Nat), p := p, q := q }) (0 : Nat) (HSub.hSub (List.length m) (1 : Nat)) (b)) (p) (q) (gp m (Int.toNat (Go.IntKind.wrap Go.IntKind.i64 (HSub.hSub (Nat.cast (List.length m) : Int) (1 : Int))))) (gp m (Int.toNat (0 : Int)))))))])])) (False)) (False)))) (cond (BEq.beq kd (2 : Int)) (And (And (Eq (Go.IntKind.wrap Go.IntKind.i64 (HSub.hSub (Nat.cast (List.length m) : Int) (1 : Int))) (Go.IntKind.wrap Go.IntKind.i64 (HSub.hSub (Nat.cast (List.length m) : Int) (1 : Int)))) (And (Eq (Go.IntKind.wrap Go.IntKind.i64 (HSub.hSub (Nat.cast (List.length m) : Int) (1 : Int))) (Nat.cast (HSub.hSub (List.length m) (1 : Nat)) : Int)) (And (LE.le (1 : Nat) (List.length m)) (LE.le (List.length m) (8796093022208 : Nat))))) (cond (BEq.beq kd (2 : Int)) (Q (AT.tup []) (AT.tup [(.agg [(.flt (Prod.fst p)), (.flt (Prod.snd p))]), (.agg [(.flt (Prod.fst q)), (.flt (Prod.snd q))]), (.agg [(.bool (Prod.fst (foldI (f81b { kd := kd, rd := rd, m := m, n := HSub.hSub (List.length m) (1 : Nat), p := p, q := q }) (0 : Nat) (HSub.hSub (List.length m) (1 : Nat)) (b))))]), (.agg [(.flt (Nr.far (Prod.snd (foldI (f81b { kd := kd, rd := rd, m := m, n := HSub.hSub (List.length m) (1 : Nat), p := p, q := q }) (0 : Nat) (HSub.hSub (List.length m) (1 : Nat)) (b))))), (.flt (Nr.ax (Prod.snd (foldI (f81b { kd := kd, rd := rd, m := m, n := HSub.hSub (List.length m) (1 : Nat), p := p, q := q }) (0 : Nat) (HSub.hSub (List.length m) (1 : Nat)) (b))))), (.flt (Nr.ay (Prod.snd (foldI (f81b { kd := kd, rd := rd, m := m, n := HSub.hSub (List.length m) (1 : Nat), p := p, q := q }) (0 : Nat) (HSub.hSub (List.length m) (1 : Nat)) (b))))), (.flt (Nr.bx (Prod.snd (foldI (f81b { kd := kd, rd := rd, m := m, n := HSub.hSub (List.length m) (1 : Nat), p := p, q := q }) (0 : Nat) (HSub.hSub (List.length m) (1 : Nat)) (b))))), (.flt (Nr.by' (Prod.snd (foldI (f81b { kd := kd, rd := rd, m := m, n := HSub.hSub (List.length m) (1 : Nat), p := p, q := q }) (0 : Nat) (HSub.hSub (List.length m) (1 : Nat)) (b)))))])])) (cond (inRange (Go.IntKind.wrap Go.IntKind.i64 (HSub.hSub (Nat.cast (List.length m) : Int) (1 : Int))) (List.length m)) (cond (inRange (0 : Int) (List.length m)) (Q (AT.tup []) (AT.tup [(.agg [(.flt (Prod.fst p)), (.flt (Prod.snd p))]), (.agg [(.flt (Prod.fst q)), (.flt (Prod.snd q))]), (.agg [(.bool (Prod.fst (bstep (foldI (f81b { kd := kd, rd := rd, m := m, n := HSub.hSub (List.length m) (1 : Nat), p := p, q := q }) (0 : Nat) (HSub.hSub (List.length m) (1 : Nat)) (b)) (p) (q) (gp m (Int.toNat (Go.IntKind.wrap Go.IntKind.i64 (HSub.hSub (Nat.cast (List.length m) : Int) (1 : Int))))) (gp m (Int.toNat (0 : Int))))))]), (.agg [(.flt (Nr.far (Prod.snd (bstep (foldI (f81b { kd := kd, rd := rd, m := m, n := HSub.hSub (List.length m) (1 : Nat), p := p, q := q }) (0 : Nat) (HSub.hSub (List.length m) (1 : Nat)) (b)) (p) (q) (gp m (Int.toNat (Go.IntKind.wrap Go.IntKind.i64 (HSub.hSub (Nat.cast (List.length m) : Int) (1 : Int))))) (gp m (Int.toNat (0 : Int))))))), (.flt (Nr.ax (Prod.snd (bstep (foldI (f81b { kd := kd, rd := rd, m := m, n := HSub.hSub (List.length m) (1 : Nat), p := p, q := q }) (0 : Nat) (HSub.hSub (List.length m) (1 : Nat)) (b)) (p) (q) (gp m (Int.toNat (Go.IntKind.wrap Go.IntKind.i64 (HSub.hSub (Nat.cast (List.length m) : Int) (1 : Int))))) (gp m (Int.toNat (0 : Int))))))), (.flt (Nr.ay (Prod.snd (bstep (foldI (f81b { kd := kd, rd := rd, m := m, n := HSub.hSub (List.length m) (1 : Nat), p := p, q := q }) (0 : Nat) (HSub.hSub (List.length m) (1 : Nat)) (b)) (p) (q) (gp m (Int.toNat (Go.IntKind.wrap Go.IntKind.i64 (HSub.hSub (Nat.cast (List.length m) : Int) (1 : Int))))) (gp m (Int.toNat (0 : Int))))))), (.flt (Nr.bx (Prod.snd (bstep (foldI (f81b { kd := kd, rd := rd, m := m, n := HSub.hSub (List.length m) (1 : Nat), p := p, q := q }) (0 : Nat) (HSub.hSub (List.length m) (1 : Nat)) (b)) (p) (q) (gp m (Int.toNat (Go.IntKind.wrap Go.IntKind.i64 (HSub.hSub (Nat.cast (List.length m) : Int) (1 : Int))))) (gp m (Int.toNat (0 : Int))))))), (.flt (Nr.by' (Prod.snd (bstep (foldI (f81b { kd := kd, rd := rd, m := m, n := HSub.hSub (List.length m) (1 : Nat), p := p, q := q }) (0 : Nat) (HSub.hSub (List.length m) (1 : Nat)) (b)) (p) (q) (gp m (Int.toNat (Go.IntKind.wrap Go.IntKind.i64 (HSub.hSub (Nat.cast (List.length m) : Int) (1 : Int))))) (gp m (Int.toNat (0 : Int)))))))])])) (False)) (False)))) (cond (BEq.beq kd (1 : Int)) (cond (inRange (Go.IntKind.wrap Go.IntKind.i64 (HSub.hSub (Nat.cast (List.length m) : Int) (1 : Int))) (List.length m)) (cond (inRange (0 : Int) (List.length m)) (Q (AT.tup []) (AT.tup [(.agg [(.flt (Prod.fst p)), (.flt (Prod.snd p))]), (.agg [(.flt (Prod.fst q)), (.flt (Prod.snd q))]), (.agg [(.bool (Prod.fst (bstep (b) (p) (q) (gp m (Int.toNat (Go.IntKind.wrap Go.IntKind.i64 (HSub.hSub (Nat.cast (List.length m) : Int) (1 : Int))))) (gp m (Int.toNat (0 : Int))))))]), (.agg [(.flt (Nr.far (Prod.snd (bstep (b) (p) (q) (gp m (Int.toNat (Go.IntKind.wrap Go.IntKind.i64 (HSub.hSub (Nat.cast (List.length m) : Int) (1 : Int))))) (gp m (Int.toNat (0 : Int))))))), (.flt (Nr.ax (Prod.snd (bstep (b) (p) (q) (gp m (Int.toNat (Go.IntKind.wrap Go.IntKind.i64 (HSub.hSub (Nat.cast (List.length m) : Int) (1 : Int))))) (gp m (Int.toNat (0 : Int))))))), (.flt (Nr.ay (Prod.snd (bstep (b) (p) (q) (gp m (Int.toNat (Go.IntKind.wrap Go.IntKind.i64 (HSub.hSub (Nat.cast (List.length m) : Int) (1 : Int))))) (gp m (Int.toNat (0 : Int))))))), (.flt (Nr.bx (Prod.snd (bstep (b) (p) (q) (gp m (Int.toNat (Go.IntKind.wrap Go.IntKind.i64 (HSub.hSub (Nat.cast (List.length m) : Int) (1 : Int))))) (gp m (Int.toNat (0 : Int))))))), (.flt (Nr.by' (Prod.snd (bstep (b) (p) (q) (gp m (Int.toNat (Go.IntKind.wrap Go.IntKind.i64 (HSub.hSub (Nat.cast (List.length m) : Int) (1 : Int))))) (gp m (Int.toNat (0 : Int)))))))])])) (False)) (False)) (Q (AT.tup []) (AT.tup [(.agg [(.flt (Prod.fst p)), (.flt (Prod.snd p))]), (.agg [(.flt (Prod.fst q)), (.flt (Prod.snd q))]), (.agg [(.bool (Prod.fst b))]), (.agg [(.flt (Nr.far (Prod.snd b))), (.flt (Nr.ax (Prod.snd b))), (.flt (Nr.ay (Prod.snd b))), (.flt (Nr.bx (Prod.snd b))), (.flt (Nr.by' (Prod.snd b)))])]))))) (by kernel_rfl) h

def e81b : EntB := ⟨fun l bx_ K => match l with
  | [.av (.agg [.int .u8 kd, .flt rd, .sl m]), .av (.fn (.func 83) [] [.lp P 0, .lp Q 0, .lp F 0, .lp G 0])] =>
    (match lk bx_ P, lk bx_ Q, lk bx_ F, lk bx_ G with
    | some (.cells [.flt p0, .flt p1]), some (.cells [.flt q0, .flt q1]), some (.cells [.bool fst]), some (.cells [.flt f, .flt ax, .flt ay, .flt bx, .flt by_]) =>
      bif distinct [P, Q, F, G] then (1 ≤ m.length) ∧ K (.tup []) (zipR [P, Q, F, G] [.cells [.flt p0, .flt p1], .cells [.flt q0, .flt q1], .cells [.bool (sidesF kd m (fun b s t => bstep b (p0, p1) (q0, q1) s t) (fst, ⟨f, ax, ay, bx, by_⟩)).1], .cells [.flt (sidesF kd m (fun b s t => bstep b (p0, p1) (q0, q1) s t) (fst, ⟨f, ax, ay, bx, by_⟩)).2.far, .flt (sidesF kd m (fun b s t => bstep b (p0, p1) (q0, q1) s t) (fst, ⟨f, ax, ay, bx, by_⟩)).2.ax, .flt (sidesF kd m (fun b s t => bstep b (p0, p1) (q0, q1) s t) (fst, ⟨f, ax, ay, bx, by_⟩)).2.ay, .flt (sidesF kd m (fun b s t => bstep b (p0, p1) (q0, q1) s t) (fst, ⟨f, ax, ay, bx, by_⟩)).2.bx, .flt (sidesF kd m (fun b s t => bstep b (p0, p1) (q0, q1) s t) (fst, ⟨f, ax, ay, bx, by_⟩)).2.by']] bx_) else False
    | _, _, _, _ => False)
  | _ => False⟩
theorem c81b : CallOkB Pr 81 e81b := by
  refine callOkB_of (T := tb 49 [] [(83, e83)] [(7, s81b)]) (tb_ok (fnNil _) (fnBCons c83 (fnBNil _))) Try.func81 rfl (by decide) rfl (loops1 (by kernel_rfl) rfl lo81b) ?_
  intro l bx_ K hLB h
  unfold e81b at h
  dsimp only at h
  split at h
  · rename_i kd rd m P Q F G
    have hm : m.length ≤ 8796093022208 := hLB (.av (.agg [.int .u8 kd, .flt rd, .sl m])) (by simp) (.sl m) (by simp)
    split at h
    · rename_i p0 p1 q0 q1 fst f ax ay bx by_ h1 h2 h3 h4
      cases hd : distinct [P, Q, F, G] with
      | false => rw [hd] at h; exact h.elim
      | true =>
        rw [hd] at h
        rw [cond_true] at h
        obtain ⟨hl, h⟩ := h
        have hlk : lkAll bx_ [P, Q, F, G] [.cells [.flt p0, .flt p1], .cells [.flt q0, .flt q1], .cells [.bool fst], .cells [.flt f, .flt ax, .flt ay, .flt bx, .flt by_]] := by simp only [lkAll, h1, h2, h3, h4, and_self]
        have hx := fW81b kd rd m (p0, p1) (q0, q1) (fst, ⟨f, ax, ay, bx, by_⟩) (fun r X => r = .tup [] ∧ X = .tup (([.cells [.flt p0, .flt p1], .cells [.flt q0, .flt q1], .cells [.bool (sidesF kd m (fun b s t => bstep b (p0, p1) (q0, q1) s t) (fst, ⟨f, ax, ay, bx, by_⟩)).1], .cells [.flt (sidesF kd m (fun b s t => bstep b (p0, p1) (q0, q1) s t) (fst, ⟨f, ax, ay, bx, by_⟩)).2.far, .flt (sidesF kd m (fun b s t => bstep b (p0, p1) (q0, q1) s t) (fst, ⟨f, ax, ay, bx, by_⟩)).2.ax, .flt (sidesF kd m (fun b s t => bstep b (p0, p1) (q0, q1) s t) (fst, ⟨f, ax, ay, bx, by_⟩)).2.ay, .flt (sidesF kd m (fun b s t => bstep b (p0, p1) (q0, q1) s t) (fst, ⟨f, ax, ay, bx, by_⟩)).2.bx, .flt (sidesF kd m (fun b s t => bstep b (p0, p1) (q0, q1) s t) (fst, ⟨f, ax, ay, bx, by_⟩)).2.by']] : List Bx).map encB)) ?_
        · exact canonB [.av (.agg [.int .u8 kd, .flt rd, .sl m]), .av (.fn (.func 83) [] [.lp 1000 0, .lp 1001 0, .lp 1002 0, .lp 1003 0])] [P, Q, F, G] [.cells [.flt p0, .flt p1], .cells [.flt q0, .flt q1], .cells [.bool fst], .cells [.flt f, .flt ax, .flt ay, .flt bx, .flt by_]] [.cells [.flt p0, .flt p1], .cells [.flt q0, .flt q1], .cells [.bool (sidesF kd m (fun b s t => bstep b (p0, p1) (q0, q1) s t) (fst, ⟨f, ax, ay, bx, by_⟩)).1], .cells [.flt (sidesF kd m (fun b s t => bstep b (p0, p1) (q0, q1) s t) (fst, ⟨f, ax, ay, bx, by_⟩)).2.far, .flt (sidesF kd m (fun b s t => bstep b (p0, p1) (q0, q1) s t) (fst, ⟨f, ax, ay, bx, by_⟩)).2.ax, .flt (sidesF kd m (fun b s t => bstep b (p0, p1) (q0, q1) s t) (fst, ⟨f, ax, ay, bx, by_⟩)).2.ay, .flt (sidesF kd m (fun b s t => bstep b (p0, p1) (q0, q1) s t) (fst, ⟨f, ax, ay, bx, by_⟩)).2.bx, .flt (sidesF kd m (fun b s t => bstep b (p0, p1) (q0, q1) s t) (fst, ⟨f, ax, ay, bx, by_⟩)).2.by']] (.tup []) (by kernel_rfl) (by kernel_rfl) (by kernel_rfl) hlk hd (by kernel_rfl) (by kernel_rfl) (by kernel_rfl) (by kernel_rfl) hx h
        have hw : IntKind.i64.wrap ((m.length : Int) - 1) = ((m.length - 1 : Nat) : Int) := by
          rw [show ((m.length : Int) - 1) = ((m.length - 1 : Nat) : Int) by omega]; exact wrap_nat (by omega)
        have h3 : inRange (((m.length - 1 : Nat) : Int)) m.length = true := by rw [inRange_nat]; exact decide_eq_true (by omega)
        have h4 : inRange (0 : Int) m.length = true := by rw [show (0 : Int) = ((0 : Nat) : Int) from rfl, inRange_nat]; exact decide_eq_true (by omega)
        rw [hw, h3, h4]
        unfold sidesF
        by_cases k3 : kd = 3
        · subst k3; exact ⟨⟨rfl, rfl, hl, hm⟩, rfl, rfl⟩
        · have e3 : (kd == (3 : Int)) = false := by simpa using k3
          rw [e3]
          cases (kd == (2 : Int)) <;> cases (kd == (1 : Int)) <;> first
            | exact ⟨rfl, rfl⟩
            | exact ⟨⟨rfl, rfl, hl, hm⟩, rfl, rfl⟩
    · exact h.elim
  · exact h.elim

end Go.Proofs.Ythopjahoaljhaaa.X

/-! ## The outer closure of near.cores, and near.sides as it is handed to it. -/
set_option linter.unusedVariables false
set_option linter.unusedSimpArgs false
set_option maxRecDepth 100000
namespace Go.Proofs.Ythopjahoaljhaaa.X
open Go Go.RowKit

theorem fW82 (kd2 : Int) (rd2 : Nat) (m2 : List (Nat × Nat)) (p : Nat × Nat) (q : Nat × Nat) (b : Bool × Nr) (Q : AT → AT → Prop) (h : And (LE.le (1 : Nat) (List.length m2)) (Q (AT.tup []) (AT.tup [(.agg [(.int .u8 kd2), (.flt rd2), (.sl m2)]), (.agg [(.bool (Prod.fst (sidesF kd2 m2 (fun (b : Prod Bool Nr) (s t : Prod Nat Nat) ↦ bstep b (p) (q) s t) (b))))]), (.agg [(.flt (Nr.far (Prod.snd (sidesF kd2 m2 (fun (b : Prod Bool Nr) (s t : Prod Nat Nat) ↦ bstep b (p) (q) s t) (b))))), (.flt (Nr.ax (Prod.snd (sidesF kd2 m2 (fun (b : Prod Bool Nr) (s t : Prod Nat Nat) ↦ bstep b (p) (q) s t) (b))))), (.flt (Nr.ay (Prod.snd (sidesF kd2 m2 (fun (b : Prod Bool Nr) (s t : Prod Nat Nat) ↦ bstep b (p) (q) s t) (b))))), (.flt (Nr.bx (Prod.snd (sidesF kd2 m2 (fun (b : Prod Bool Nr) (s t : Prod Nat Nat) ↦ bstep b (p) (q) s t) (b))))), (.flt (Nr.by' (Prod.snd (sidesF kd2 m2 (fun (b : Prod Bool Nr) (s t : Prod Nat Nat) ↦ bstep b (p) (q) s t) (b)))))])]))) : xfun (tb 10 [] [(81, e81b)] []) (Try.f82.body.getD .skip) Try.f82.results.toList [.av (.agg [.flt p.1, .flt p.2]), .av (.agg [.flt q.1, .flt q.2]), .av (.one (.lp 1000 0)), .av (.one (.lp 1001 0)), .av (.one (.lp 1002 0))] [(1000, .cells [.int .u8 kd2, .flt rd2, .sl m2]), (1001, .cells [.bool (b).1]), (1002, .cells [.flt (b).2.far, .flt (b).2.ax, .flt (b).2.ay, .flt (b).2.bx, .flt (b).2.by'])] (fun r bx => Q r (obsB [1000, 1001, 1002] bx)) := by_kernel (q := And (LE.le (1 : Nat) (List.length m2)) (Q (AT.tup []) (AT.tup [(.agg [(.int .u8 kd2), (.flt rd2), (.sl m2)]), (.agg [(.bool (Prod.fst (sidesF kd2 m2 (fun (b : Prod Bool Nr) (s t : Prod Nat Nat) ↦ bstep b (p) (q) s t) (b))))]), (.agg [(.flt (Nr.far (Prod.snd (sidesF kd2 m2 (fun (b : Prod Bool Nr) (s t : Prod Nat Nat) ↦ bstep b (p) (q) s t) (b))))), (.flt (Nr.ax (Prod.snd (sidesF kd2 m2 (fun (b : Prod Bool Nr) (s t : Prod Nat Nat) ↦ bstep b (p) (q) s t) (b))))), (.flt (Nr.ay (Prod.snd (sidesF kd2 m2 (fun (b : Prod Bool Nr) (s t : Prod Nat Nat) ↦ bstep b (p) (q) s t) (b))))), (.flt (Nr.bx (Prod.snd (sidesF kd2 m2 (fun (b : Prod Bool Nr) (s t : Prod Nat Nat) ↦ bstep b (p) (q) s t) (b))))), (.flt (Nr.by' (Prod.snd (sidesF kd2 m2 (fun (b : Prod Bool Nr) (s t : Prod Nat Nat) ↦ bstep b (p) (q) s t) (b)))))])]))) (by kernel_rfl) h

def e82 : EntB := ⟨fun l bx_ K => match l with
  | [.av (.agg [.flt p0, .flt p1]), .av (.agg [.flt q0, .flt q1]), .av (.one (.lp S 0)), .av (.one (.lp F 0)), .av (.one (.lp G 0))] =>
    (match lk bx_ S, lk bx_ F, lk bx_ G with
    | some (.cells [.int .u8 kd2, .flt rd2, .sl m2]), some (.cells [.bool fst]), some (.cells [.flt f, .flt ax, .flt ay, .flt bx, .flt by_]) =>
      bif distinct [S, F, G] then 1 ≤ m2.length ∧ K (.tup []) (zipR [S, F, G] [.cells [.int .u8 kd2, .flt rd2, .sl m2], .cells [.bool (sidesF kd2 m2 (fun b s t => bstep b (p0, p1) (q0, q1) s t) (fst, ⟨f, ax, ay, bx, by_⟩)).1], .cells [.flt (sidesF kd2 m2 (fun b s t => bstep b (p0, p1) (q0, q1) s t) (fst, ⟨f, ax, ay, bx, by_⟩)).2.far, .flt (sidesF kd2 m2 (fun b s t => bstep b (p0, p1) (q0, q1) s t) (fst, ⟨f, ax, ay, bx, by_⟩)).2.ax, .flt (sidesF kd2 m2 (fun b s t => bstep b (p0, p1) (q0, q1) s t) (fst, ⟨f, ax, ay, bx, by_⟩)).2.ay, .flt (sidesF kd2 m2 (fun b s t => bstep b (p0, p1) (q0, q1) s t) (fst, ⟨f, ax, ay, bx, by_⟩)).2.bx, .flt (sidesF kd2 m2 (fun b s t => bstep b (p0, p1) (q0, q1) s t) (fst, ⟨f, ax, ay, bx, by_⟩)).2.by']] bx_) else False
    | _, _, _ => False)
  | _ => False⟩
theorem c82 : CallOkB Pr 82 e82 := by
  refine callOkB_of (T := tb 10 [] [(81, e81b)] []) (tb_ok (fnNil _) (fnBCons c81b (fnBNil _))) Try.func82 rfl (by decide) rfl (noLoops rfl) ?_
  intro l bx_ K hLB h
  unfold e82 at h
  dsimp only at h
  split at h
  · rename_i p0 p1 q0 q1 S F G
    split at h
    · rename_i kd2 rd2 m2 fst f ax ay bx by_ h1 h2 h3
      cases hd : distinct [S, F, G] with
      | false => rw [hd] at h; exact h.elim
      | true =>
        rw [hd] at h
        rw [cond_true] at h
        obtain ⟨hl, h⟩ := h
        have hlk : lkAll bx_ [S, F, G] [.cells [.int .u8 kd2, .flt rd2, .sl m2], .cells [.bool fst], .cells [.flt f, .flt ax, .flt ay, .flt bx, .flt by_]] := by simp only [lkAll, h1, h2, h3, and_self]
        have hx := fW82 kd2 rd2 m2 (p0, p1) (q0, q1) (fst, ⟨f, ax, ay, bx, by_⟩) (fun r X => r = .tup [] ∧ X = .tup (([.cells [.int .u8 kd2, .flt rd2, .sl m2], .cells [.bool (sidesF kd2 m2 (fun b s t => bstep b (p0, p1) (q0, q1) s t) (fst, ⟨f, ax, ay, bx, by_⟩)).1], .cells [.flt (sidesF kd2 m2 (fun b s t => bstep b (p0, p1) (q0, q1) s t) (fst, ⟨f, ax, ay, bx, by_⟩)).2.far, .flt (sidesF kd2 m2 (fun b s t => bstep b (p0, p1) (q0, q1) s t) (fst, ⟨f, ax, ay, bx, by_⟩)).2.ax, .flt (sidesF kd2 m2 (fun b s t => bstep b (p0, p1) (q0, q1) s t) (fst, ⟨f, ax, ay, bx, by_⟩)).2.ay, .flt (sidesF kd2 m2 (fun b s t => bstep b (p0, p1) (q0, q1) s t) (fst, ⟨f, ax, ay, bx, by_⟩)).2.bx, .flt (sidesF kd2 m2 (fun b s t => bstep b (p0, p1) (q0, q1) s t) (fst, ⟨f, ax, ay, bx, by_⟩)).2.by']] : List Bx).map encB)) ?_
        · exact canonB [.av (.agg [.flt p0, .flt p1]), .av (.agg [.flt q0, .flt q1]), .av (.one (.lp 1000 0)), .av (.one (.lp 1001 0)), .av (.one (.lp 1002 0))] [S, F, G] [.cells [.int .u8 kd2, .flt rd2, .sl m2], .cells [.bool fst], .cells [.flt f, .flt ax, .flt ay, .flt bx, .flt by_]] [.cells [.int .u8 kd2, .flt rd2, .sl m2], .cells [.bool (sidesF kd2 m2 (fun b s t => bstep b (p0, p1) (q0, q1) s t) (fst, ⟨f, ax, ay, bx, by_⟩)).1], .cells [.flt (sidesF kd2 m2 (fun b s t => bstep b (p0, p1) (q0, q1) s t) (fst, ⟨f, ax, ay, bx, by_⟩)).2.far, .flt (sidesF kd2 m2 (fun b s t => bstep b (p0, p1) (q0, q1) s t) (fst, ⟨f, ax, ay, bx, by_⟩)).2.ax, .flt (sidesF kd2 m2 (fun b s t => bstep b (p0, p1) (q0, q1) s t) (fst, ⟨f, ax, ay, bx, by_⟩)).2.ay, .flt (sidesF kd2 m2 (fun b s t => bstep b (p0, p1) (q0, q1) s t) (fst, ⟨f, ax, ay, bx, by_⟩)).2.bx, .flt (sidesF kd2 m2 (fun b s t => bstep b (p0, p1) (q0, q1) s t) (fst, ⟨f, ax, ay, bx, by_⟩)).2.by']] (.tup []) (by kernel_rfl) (by kernel_rfl) (by kernel_rfl) hlk hd (by kernel_rfl) (by kernel_rfl) (by kernel_rfl) (by kernel_rfl) hx h
        exact ⟨hl, rfl, rfl⟩
    · exact h.elim
  · exact h.elim

end Go.Proofs.Ythopjahoaljhaaa.X

/-! ## near.sides, as the outer closure is handed to it. -/
set_option linter.unusedVariables false
set_option linter.unusedSimpArgs false
set_option maxRecDepth 100000
namespace Go.Proofs.Ythopjahoaljhaaa.X
open Go Go.RowKit

noncomputable def b81a : Code := ((loopsOf (Try.f81.body.getD .skip)).getD 0 .skip)
def vl81a : XE → List LV := fun
  | .n => [.t 1, .t 2, .b 2, .t 17, .t 18, .t 4, .b 1000, .b 1001, .b 1002]
  | .r => []
  | _ => [.t 1, .t 2, .b 2, .t 4, .b 1000, .b 1001, .b 1002]

theorem t81a (kd : Int) (rd : Nat) (m : List (Nat × Nat)) (n : Nat) (i : Nat) (kd2 : Int) (rd2 : Nat) (m2 : List (Nat × Nat)) (b : Bool × Nr) (R : AT) (h : cond (Decidable.decide (LT.lt (Nat.cast i : Int) (Nat.cast n : Int))) (cond (inRange ((Nat.cast i : Int)) (List.length m)) (cond (inRange (Go.IntKind.wrap Go.IntKind.i64 (HAdd.hAdd (Nat.cast i : Int) (1 : Int))) (List.length m)) (And (LE.le (1 : Nat) (List.length m2)) (AT.tup [(.one (.int .i64 ((Nat.cast (codeX XE.n) : Int)))), (.fn (Go.Fn.func (82 : Go.FuncId)) [] [(.lp ((1000 : Nat)) ((0 : Nat))), (.lp ((1001 : Nat)) ((0 : Nat))), (.lp ((1002 : Nat)) ((0 : Nat)))]), (.one (.lp ((2 : Nat)) ((0 : Nat)))), (.agg [(.int .u8 kd), (.flt rd), (.sl m)]), (.one (.int .i64 ((Nat.cast n : Int)))), (.one (.int .i64 (Go.IntKind.wrap Go.IntKind.i64 (HAdd.hAdd (Nat.cast i : Int) (1 : Int))))), (.one (.int .i64 ((Nat.cast n : Int)))), (.agg [(.int .u8 kd2), (.flt rd2), (.sl m2)]), (.agg [(.bool (Prod.fst (sidesF kd2 m2 (fun (b : Prod Bool Nr) (s t : Prod Nat Nat) ↦ bstep b (Prod.mk (Prod.fst (gp m (Int.toNat (Nat.cast i : Int)))) (Prod.snd (gp m (Int.toNat (Nat.cast i : Int))))) (Prod.mk (Prod.fst (gp m (Int.toNat (Go.IntKind.wrap Go.IntKind.i64 (HAdd.hAdd (Nat.cast i : Int) (1 : Int)))))) (Prod.snd (gp m (Int.toNat (Go.IntKind.wrap Go.IntKind.i64 (HAdd.hAdd (Nat.cast i : Int) (1 : Int))))))) s t) (Prod.mk (Prod.fst b) { far := Nr.far (Prod.snd b), ax := Nr.ax (Prod.snd b), ay := Nr.ay (Prod.snd b), bx := Nr.bx (Prod.snd b), by' := Nr.by' (Prod.snd b) }))))]), (.agg [(.flt (Nr.far (Prod.snd (sidesF kd2 m2 (fun (b : Prod Bool Nr) (s t : Prod Nat Nat) ↦ bstep b (Prod.mk (Prod.fst (gp m (Int.toNat (Nat.cast i : Int)))) (Prod.snd (gp m (Int.toNat (Nat.cast i : Int))))) (Prod.mk (Prod.fst (gp m (Int.toNat (Go.IntKind.wrap Go.IntKind.i64 (HAdd.hAdd (Nat.cast i : Int) (1 : Int)))))) (Prod.snd (gp m (Int.toNat (Go.IntKind.wrap Go.IntKind.i64 (HAdd.hAdd (Nat.cast i : Int) (1 : Int))))))) s t) (Prod.mk (Prod.fst b) { far := Nr.far (Prod.snd b), ax := Nr.ax (Prod.snd b), ay := Nr.ay (Prod.snd b), bx := Nr.bx (Prod.snd b), by' := Nr.by' (Prod.snd b) }))))), (.flt (Nr.ax (Prod.snd (sidesF kd2 m2 (fun (b : Prod Bool Nr) (s t : Prod Nat Nat) ↦ bstep b (Prod.mk (Prod.fst (gp m (Int.toNat (Nat.cast i : Int)))) (Prod.snd (gp m (Int.toNat (Nat.cast i : Int))))) (Prod.mk (Prod.fst (gp m (Int.toNat (Go.IntKind.wrap Go.IntKind.i64 (HAdd.hAdd (Nat.cast i : Int) (1 : Int)))))) (Prod.snd (gp m (Int.toNat (Go.IntKind.wrap Go.IntKind.i64 (HAdd.hAdd (Nat.cast i : Int) (1 : Int))))))) s t) (Prod.mk (Prod.fst b) { far := Nr.far (Prod.snd b), ax := Nr.ax (Prod.snd b), ay := Nr.ay (Prod.snd b), bx := Nr.bx (Prod.snd b), by' := Nr.by' (Prod.snd b) }))))), (.flt (Nr.ay (Prod.snd (sidesF kd2 m2 (fun (b : Prod Bool Nr) (s t : Prod Nat Nat) ↦ bstep b (Prod.mk (Prod.fst (gp m (Int.toNat (Nat.cast i : Int)))) (Prod.snd (gp m (Int.toNat (Nat.cast i : Int))))) (Prod.mk (Prod.fst (gp m (Int.toNat (Go.IntKind.wrap Go.IntKind.i64 (HAdd.hAdd (Nat.cast i : Int) (1 : Int)))))) (Prod.snd (gp m (Int.toNat (Go.IntKind.wrap Go.IntKind.i64 (HAdd.hAdd (Nat.cast i : Int) (1 : Int))))))) s t) (Prod.mk (Prod.fst b) { far := Nr.far (Prod.snd b), ax := Nr.ax (Prod.snd b), ay := Nr.ay (Prod.snd b), bx := Nr.bx (Prod.snd b), by' := Nr.by' (Prod.snd b) }))))), (.flt (Nr.bx (Prod.snd (sidesF kd2 m2 (fun (b : Prod Bool Nr) (s t : Prod Nat Nat) ↦ bstep b (Prod.mk (Prod.fst (gp m (Int.toNat (Nat.cast i : Int)))) (Prod.snd (gp m (Int.toNat (Nat.cast i : Int))))) (Prod.mk (Prod.fst (gp m (Int.toNat (Go.IntKind.wrap Go.IntKind.i64 (HAdd.hAdd (Nat.cast i : Int) (1 : Int)))))) (Prod.snd (gp m (Int.toNat (Go.IntKind.wrap Go.IntKind.i64 (HAdd.hAdd (Nat.cast i : Int) (1 : Int))))))) s t) (Prod.mk (Prod.fst b) { far := Nr.far (Prod.snd b), ax := Nr.ax (Prod.snd b), ay := Nr.ay (Prod.snd b), bx := Nr.bx (Prod.snd b), by' := Nr.by' (Prod.snd b) }))))), (.flt (Nr.by' (Prod.snd (sidesF kd2 m2 (fun (b : Prod Bool Nr) (s t : Prod Nat Nat) ↦ bstep b (Prod.mk (Prod.fst (gp m (Int.toNat (Nat.cast i : Int)))) (Prod.snd (gp m (Int.toNat (Nat.cast i : Int))))) (Prod.mk (Prod.fst (gp m (Int.toNat (Go.IntKind.wrap Go.IntKind.i64 (HAdd.hAdd (Nat.cast i : Int) (1 : Int)))))) (Prod.snd (gp m (Int.toNat (Go.IntKind.wrap Go.IntKind.i64 (HAdd.hAdd (Nat.cast i : Int) (1 : Int))))))) s t) (Prod.mk (Prod.fst b) { far := Nr.far (Prod.snd b), ax := Nr.ax (Prod.snd b), ay := Nr.ay (Prod.snd b), bx := Nr.bx (Prod.snd b), by' := Nr.by' (Prod.snd b) })))))])] = R)) (False)) (False)) (AT.tup [(.one (.int .i64 ((Nat.cast (codeX (XE.x (3 : Nat))) : Int)))), (.fn (Go.Fn.func (82 : Go.FuncId)) [] [(.lp ((1000 : Nat)) ((0 : Nat))), (.lp ((1001 : Nat)) ((0 : Nat))), (.lp ((1002 : Nat)) ((0 : Nat)))]), (.one (.lp ((2 : Nat)) ((0 : Nat)))), (.agg [(.int .u8 kd), (.flt rd), (.sl m)]), (.one (.int .i64 ((Nat.cast n : Int)))), (.agg [(.int .u8 kd2), (.flt rd2), (.sl m2)]), (.agg [(.bool (Prod.fst b))]), (.agg [(.flt (Nr.far (Prod.snd b))), (.flt (Nr.ax (Prod.snd b))), (.flt (Nr.ay (Prod.snd b))), (.flt (Nr.bx (Prod.snd b))), (.flt (Nr.by' (Prod.snd b)))])] = R)) : xcode (tb 49 [] [(82, e82)] []) b81a (mkS (vl81a .n) [.fn (.func 82) [] [.lp 1000 0, .lp 1001 0, .lp 1002 0], .one (.lp 2 0), .agg [.int .u8 kd, .flt rd, .sl m], .one (.int .i64 n), .one (.int .i64 i), .one (.int .i64 n), .agg [.int .u8 kd2, .flt rd2, .sl m2], .agg [.bool (b).1], .agg [.flt (b).2.far, .flt (b).2.ax, .flt (b).2.ay, .flt (b).2.bx, .flt (b).2.by']]) (fun e σ => obsT vl81a e σ = R) := by_kernel (q := cond (Decidable.decide (LT.lt (Nat.cast i : Int) (Nat.cast n : Int))) (cond (inRange ((Nat.cast i : Int)) (List.length m)) (cond (inRange (Go.IntKind.wrap Go.IntKind.i64 (HAdd.hAdd (Nat.cast i : Int) (1 : Int))) (List.length m)) (And (LE.le (1 : Nat) (List.length m2)) (AT.tup [(.one (.int .i64 ((Nat.cast (codeX XE.n) : Int)))), (.fn (Go.Fn.func (82 : Go.FuncId)) [] [(.lp ((1000 : Nat)) ((0 : Nat))), (.lp ((1001 : Nat)) ((0 : Nat))), (.lp ((1002 : Nat)) ((0 : Nat)))]), (.one (.lp ((2 : Nat)) ((0 : Nat)))), (.agg [(.int .u8 kd), (.flt rd), (.sl m)]), (.one (.int .i64 ((Nat.cast n : Int)))), (.one (.int .i64 (Go.IntKind.wrap Go.IntKind.i64 (HAdd.hAdd (Nat.cast i : Int) (1 : Int))))), (.one (.int .i64 ((Nat.cast n : Int)))), (.agg [(.int .u8 kd2), (.flt rd2), (.sl m2)]), (.agg [(.bool (Prod.fst (sidesF kd2 m2 (fun (b : Prod Bool Nr) (s t : Prod Nat Nat) ↦ bstep b (Prod.mk (Prod.fst (gp m (Int.toNat (Nat.cast i : Int)))) (Prod.snd (gp m (Int.toNat (Nat.cast i : Int))))) (Prod.mk (Prod.fst (gp m (Int.toNat (Go.IntKind.wrap Go.IntKind.i64 (HAdd.hAdd (Nat.cast i : Int) (1 : Int)))))) (Prod.snd (gp m (Int.toNat (Go.IntKind.wrap Go.IntKind.i64 (HAdd.hAdd (Nat.cast i : Int) (1 : Int))))))) s t) (Prod.mk (Prod.fst b) { far := Nr.far (Prod.snd b), ax := Nr.ax (Prod.snd b), ay := Nr.ay (Prod.snd b), bx := Nr.bx (Prod.snd b), by' := Nr.by' (Prod.snd b) }))))]), (.agg [(.flt (Nr.far (Prod.snd (sidesF kd2 m2 (fun (b : Prod Bool Nr) (s t : Prod Nat Nat) ↦ bstep b (Prod.mk (Prod.fst (gp m (Int.toNat (Nat.cast i : Int)))) (Prod.snd (gp m (Int.toNat (Nat.cast i : Int))))) (Prod.mk (Prod.fst (gp m (Int.toNat (Go.IntKind.wrap Go.IntKind.i64 (HAdd.hAdd (Nat.cast i : Int) (1 : Int)))))) (Prod.snd (gp m (Int.toNat (Go.IntKind.wrap Go.IntKind.i64 (HAdd.hAdd (Nat.cast i : Int) (1 : Int))))))) s t) (Prod.mk (Prod.fst b) { far := Nr.far (Prod.snd b), ax := Nr.ax (Prod.snd b), ay := Nr.ay (Prod.snd b), bx := Nr.bx (Prod.snd b), by' := Nr.by' (Prod.snd b) }))))), (.flt (Nr.ax (Prod.snd (sidesF kd2 m2 (fun (b : Prod Bool Nr) (s t : Prod Nat Nat) ↦ bstep b (Prod.mk (Prod.fst (gp m (Int.toNat (Nat.cast i : Int)))) (Prod.snd (gp m (Int.toNat (Nat.cast i : Int))))) (Prod.mk (Prod.fst (gp m (Int.toNat (Go.IntKind.wrap Go.IntKind.i64 (HAdd.hAdd (Nat.cast i : Int) (1 : Int)))))) (Prod.snd (gp m (Int.toNat (Go.IntKind.wrap Go.IntKind.i64 (HAdd.hAdd (Nat.cast i : Int) (1 : Int))))))) s t) (Prod.mk (Prod.fst b) { far := Nr.far (Prod.snd b), ax := Nr.ax (Prod.snd b), ay := Nr.ay (Prod.snd b), bx := Nr.bx (Prod.snd b), by' := Nr.by' (Prod.snd b) }))))), (.flt (Nr.ay (Prod.snd (sidesF kd2 m2 (fun (b : Prod Bool Nr) (s t : Prod Nat Nat) ↦ bstep b (Prod.mk (Prod.fst (gp m (Int.toNat (Nat.cast i : Int)))) (Prod.snd (gp m (Int.toNat (Nat.cast i : Int))))) (Prod.mk (Prod.fst (gp m (Int.toNat (Go.IntKind.wrap Go.IntKind.i64 (HAdd.hAdd (Nat.cast i : Int) (1 : Int)))))) (Prod.snd (gp m (Int.toNat (Go.IntKind.wrap Go.IntKind.i64 (HAdd.hAdd (Nat.cast i : Int) (1 : Int))))))) s t) (Prod.mk (Prod.fst b) { far := Nr.far (Prod.snd b), ax := Nr.ax (Prod.snd b), ay := Nr.ay (Prod.snd b), bx := Nr.bx (Prod.snd b), by' := Nr.by' (Prod.snd b) }))))), (.flt (Nr.bx (Prod.snd (sidesF kd2 m2 (fun (b : Prod Bool Nr) (s t : Prod Nat Nat) ↦ bstep b (Prod.mk (Prod.fst (gp m (Int.toNat (Nat.cast i : Int)))) (Prod.snd (gp m (Int.toNat (Nat.cast i : Int))))) (Prod.mk (Prod.fst (gp m (Int.toNat (Go.IntKind.wrap Go.IntKind.i64 (HAdd.hAdd (Nat.cast i : Int) (1 : Int)))))) (Prod.snd (gp m (Int.toNat (Go.IntKind.wrap Go.IntKind.i64 (HAdd.hAdd (Nat.cast i : Int) (1 : Int))))))) s t) (Prod.mk (Prod.fst b) { far := Nr.far (Prod.snd b), ax := Nr.ax (Prod.snd b), ay := Nr.ay (Prod.snd b), bx := Nr.bx (Prod.snd b), by' := Nr.by' (Prod.snd b) }))))), (.flt (Nr.by' (Prod.snd (sidesF kd2 m2 (fun (b : Prod Bool Nr) (s t : Prod Nat Nat) ↦ bstep b (Prod.mk (Prod.fst (gp m (Int.toNat (Nat.cast i : Int)))) (Prod.snd (gp m (Int.toNat (Nat.cast i : Int))))) (Prod.mk (Prod.fst (gp m (Int.toNat (Go.IntKind.wrap Go.IntKind.i64 (HAdd.hAdd (Nat.cast i : Int) (1 : Int)))))) (Prod.snd (gp m (Int.toNat (Go.IntKind.wrap Go.IntKind.i64 (HAdd.hAdd (Nat.cast i : Int) (1 : Int))))))) s t) (Prod.mk (Prod.fst b) { far := Nr.far (Prod.snd b), ax := Nr.ax (Prod.snd b), ay := Nr.ay (Prod.snd b), bx := Nr.bx (Prod.snd b), by' := Nr.by' (Prod.snd b) })))))])] = R)) (False)) (False)) (AT.tup [(.one (.int .i64 ((Nat.cast (codeX (XE.x (3 : Nat))) : Int)))), (.fn (Go.Fn.func (82 : Go.FuncId)) [] [(.lp ((1000 : Nat)) ((0 : Nat))), (.lp ((1001 : Nat)) ((0 : Nat))), (.lp ((1002 : Nat)) ((0 : Nat)))]), (.one (.lp ((2 : Nat)) ((0 : Nat)))), (.agg [(.int .u8 kd), (.flt rd), (.sl m)]), (.one (.int .i64 ((Nat.cast n : Int)))), (.agg [(.int .u8 kd2), (.flt rd2), (.sl m2)]), (.agg [(.bool (Prod.fst b))]), (.agg [(.flt (Nr.far (Prod.snd b))), (.flt (Nr.ax (Prod.snd b))), (.flt (Nr.ay (Prod.snd b))), (.flt (Nr.bx (Prod.snd b))), (.flt (Nr.by' (Prod.snd b)))])] = R)) (by kernel_rfl) h

structure Cx81a where
  (kd : Int) (rd : Nat) (m : List (Nat × Nat)) (n : Nat) (kd2 : Int) (rd2 : Nat) (m2 : List (Nat × Nat))
def f81a (c : Cx81a) (i : Nat) (b : Bool × Nr) : Bool × Nr := (fun b p q => sidesF c.kd2 c.m2 (fun b s t => bstep b p q s t) b) b (gp c.m i) (gp c.m (i + 1))
def s81a (σ : St) (K : XE → St → Prop) : Prop :=
  match getLVs σ (vl81a .n) with
  | some [.fn (.func 82) [] [.lp 1000 0, .lp 1001 0, .lp 1002 0], .one (.lp 2 0), .agg [.int .u8 kd, .flt rd, .sl m], .one (.int .i64 n), .one (.int .i64 0), .one (.int .i64 n'), .agg [.int .u8 kd2, .flt rd2, .sl m2], .agg [.bool fst], .agg [.flt f, .flt ax, .flt ay, .flt bx, .flt by_]] =>
    (n' = n ∧ n = ((m.length - 1 : Nat) : Int) ∧ 1 ≤ m.length ∧ m.length ≤ 8796093022208 ∧ 1 ≤ m2.length) ∧ K (.x 3) ⟨[(1, .av (.fn (.func 82) [] [.lp 1000 0, .lp 1001 0, .lp 1002 0])), (2, .av (.one (.lp 2 0))), (4, .av (.one (.int .i64 n)))], (2, .cells [.int .u8 kd, .flt rd, .sl m]) :: zipF 1000 [.cells [.int .u8 kd2, .flt rd2, .sl m2], .cells [.bool (foldI (f81a ⟨kd, rd, m, m.length - 1, kd2, rd2, m2⟩) 0 (m.length - 1) (fst, ⟨f, ax, ay, bx, by_⟩)).1], .cells [.flt (foldI (f81a ⟨kd, rd, m, m.length - 1, kd2, rd2, m2⟩) 0 (m.length - 1) (fst, ⟨f, ax, ay, bx, by_⟩)).2.far, .flt (foldI (f81a ⟨kd, rd, m, m.length - 1, kd2, rd2, m2⟩) 0 (m.length - 1) (fst, ⟨f, ax, ay, bx, by_⟩)).2.ax, .flt (foldI (f81a ⟨kd, rd, m, m.length - 1, kd2, rd2, m2⟩) 0 (m.length - 1) (fst, ⟨f, ax, ay, bx, by_⟩)).2.ay, .flt (foldI (f81a ⟨kd, rd, m, m.length - 1, kd2, rd2, m2⟩) 0 (m.length - 1) (fst, ⟨f, ax, ay, bx, by_⟩)).2.bx, .flt (foldI (f81a ⟨kd, rd, m, m.length - 1, kd2, rd2, m2⟩) 0 (m.length - 1) (fst, ⟨f, ax, ay, bx, by_⟩)).2.by']]⟩
  | _ => False
theorem lo81a : LoopOk Pr (tb 49 [] [(82, e82)] []) b81a s81a := by
  refine fold_ok (tb_ok (fnNil _) (fnBCons c82 (fnBNil _))) (vl := vl81a) (Ctx := Cx81a) (B := Bool × Nr)
    (enc := fun c i b => [.fn (.func 82) [] [.lp 1000 0, .lp 1001 0, .lp 1002 0], .one (.lp 2 0), .agg [.int .u8 c.kd, .flt c.rd, .sl c.m], .one (.int .i64 c.n), .one (.int .i64 i), .one (.int .i64 c.n), .agg [.int .u8 c.kd2, .flt c.rd2, .sl c.m2], .agg [.bool (b).1], .agg [.flt (b).2.far, .flt (b).2.ax, .flt (b).2.ay, .flt (b).2.bx, .flt (b).2.by']])
    (N := fun c => c.n) (f := f81a) (xd := 3) (done := fun c b => [.fn (.func 82) [] [.lp 1000 0, .lp 1001 0, .lp 1002 0], .one (.lp 2 0), .agg [.int .u8 c.kd, .flt c.rd, .sl c.m], .one (.int .i64 c.n), .agg [.int .u8 c.kd2, .flt c.rd2, .sl c.m2], .agg [.bool (b).1], .agg [.flt (b).2.far, .flt (b).2.ax, .flt (b).2.ay, .flt (b).2.bx, .flt (b).2.by']])
    (pre := fun c => c.n + 1 ≤ c.m.length ∧ c.m.length ≤ 8796093022208 ∧ 1 ≤ c.m2.length) (noLoops (by kernel_rfl)) ?_ ?_ ?_
  · intro σ K h
    unfold s81a at h
    split at h
    · rename_i kd rd m n n' kd2 rd2 m2 fst f ax ay bx by_ hg
      obtain ⟨⟨rfl, rfl, h1, h2, h5⟩, h⟩ := h
      exact ⟨⟨kd, rd, m, m.length - 1, kd2, rd2, m2⟩, 0, (fst, ⟨f, ax, ay, bx, by_⟩), ⟨by dsimp only; omega, h2, h5⟩, Nat.zero_le _, hg, h⟩
    · exact h.elim
  · intro c i b h
    exact ⟨rfl, rfl⟩
  · rintro ⟨kd, rd, m, n, kd2, rd2, m2⟩ i b ⟨h1, h2, h5⟩ hk hb
    dsimp only at h1 h2 hk ⊢
    apply t81a
    rw [dlt, inRange_nat, Int.toNat_natCast]
    by_cases hi : i < n
    · have hw : IntKind.i64.wrap ((i : Int) + 1) = ((i + 1 : Nat) : Int) := wrap_succ (by omega)
      have h3 : i < m.length := by omega
      have h4 : i + 1 < m.length := by omega
      rw [hw, inRange_nat, Int.toNat_natCast, decide_eq_true hi, decide_eq_true h3, decide_eq_true h4]
      exact ⟨h5, rfl⟩
    · rw [decide_eq_false hi]; rfl
theorem fW81a (kd : Int) (rd : Nat) (m : List (Nat × Nat)) (kd2 : Int) (rd2 : Nat) (m2 : List (Nat × Nat)) (b : Bool × Nr) (Q : AT → AT → Prop) (h : cond (BEq.beq kd (3 : Int)) (And (And (Eq (Go.IntKind.wrap Go.IntKind.i64 (HSub.hSub (Nat.cast (List.length m) : Int) (1 : Int))) (Go.IntKind.wrap Go.IntKind.i64 (HSub.hSub (Nat.cast (List.length m) : Int) (1 : Int)))) (And (Eq (Go.IntKind.wrap Go.IntKind.i64 (HSub.hSub (Nat.cast (List.length m) : Int) (1 : Int))) (Nat.cast (HSub.hSub (List.length m) (1 : Nat)) : Int)) (And (LE.le (1 : Nat) (List.length m)) (And (LE.le (List.length m) (8796093022208 : Nat)) (LE.le (1 : Nat) (List.length m2)))))) (cond (BEq.beq kd (2 : Int)) (Q (AT.tup []) (AT.tup [(.agg [(.int .u8 kd2), (.flt rd2), (.sl m2)]), (.agg [(.bool (Prod.fst (foldI (f81a { kd := kd, rd := rd, m := m, n := HSub.hSub (List.length m) (1 : Nat), kd2 := kd2, rd2 := rd2, m2 := m2 }) (0 : Nat) (HSub.hSub (List.length m) (1 : Nat)) (b))))]), (.agg [(.flt (Nr.far (Prod.snd (foldI (f81a { kd := kd, rd := rd, m := m, n := HSub.hSub (List.length m) (1 : Nat), kd2 := kd2, rd2 := rd2, m2 := m2 }) (0 : Nat) (HSub.hSub (List.length m) (1 : Nat)) (b))))), (.flt (Nr.ax (Prod.snd (foldI (f81a { kd := kd, rd := rd, m := m, n := HSub.hSub (List.length m) (1 : Nat), kd2 := kd2, rd2 := rd2, m2 := m2 }) (0 : Nat) (HSub.hSub (List.length m) (1 : Nat)) (b))))), (.flt (Nr.ay (Prod.snd (foldI (f81a { kd := kd, rd := rd, m := m, n := HSub.hSub (List.length m) (1 : Nat), kd2 := kd2, rd2 := rd2, m2 := m2 }) (0 : Nat) (HSub.hSub (List.length m) (1 : Nat)) (b))))), (.flt (Nr.bx (Prod.snd (foldI (f81a { kd := kd, rd := rd, m := m, n := HSub.hSub (List.length m) (1 : Nat), kd2 := kd2, rd2 := rd2, m2 := m2 }) (0 : Nat) (HSub.hSub (List.length m) (1 : Nat)) (b))))), (.flt (Nr.by' (Prod.snd (foldI (f81a { kd := kd, rd := rd, m := m, n := HSub.hSub (List.length m) (1 : Nat), kd2 := kd2, rd2 := rd2, m2 := m2 }) (0 : Nat) (HSub.hSub (List.length m) (1 : Nat)) (b)))))])])) (cond (inRange (Go.IntKind.wrap Go.IntKind.i64 (HSub.hSub (Nat.cast (List.length m) : Int) (1 : Int))) (List.length m)) (cond (inRange (0 : Int) (List.length m)) (And (LE.le (1 : Nat) (List.length m2)) (Q (AT.tup []) (AT.tup [(.agg [(.int .u8 kd2), (.flt rd2), (.sl m2)]), (.agg [(.bool (Prod.fst (sidesF kd2 m2 (fun (b : Prod Bool Nr) (s t : Prod Nat Nat) ↦ bstep b (gp m (Int.toNat (Go.IntKind.wrap Go.IntKind.i64 (HSub.hSub (Nat.cast (List.length m) : Int) (1 : Int))))) (gp m (Int.toNat (0 : Int))) s t) (foldI (f81a { kd := kd, rd := rd, m := m, n := HSub.hSub (List.length m) (1 : Nat), kd2 := kd2, rd2 := rd2, m2 := m2 }) (0 : Nat) (HSub.hSub (List.length m) (1 : Nat)) (b)))))]), (.agg [(.flt (Nr.far (Prod.snd (sidesF kd2 m2 (fun (b : Prod Bool Nr) (s t : Prod Nat Nat) ↦ bstep b (gp m (Int.toNat (Go.IntKind.wrap Go.IntKind.i64 (HSub.hSub (Nat.cast (List.length m) : Int) (1 : Int))))) (gp m (Int.toNat (0 : Int))) s t) (foldI (f81a { kd := kd, rd := rd, m := m, n := HSub.hSub (List.length m) (1 : Nat), kd2 := kd2, rd2 := rd2, m2 := m2 }) (0 : Nat) (HSub.hSub (List.length m) (1 : Nat)) (b)))))), (.flt (Nr.ax (Prod.snd (sidesF kd2 m2 (fun (b : Prod Bool Nr) (s t : Prod Nat Nat) ↦ bstep b (gp m (Int.toNat (Go.IntKind.wrap Go.IntKind.i64 (HSub.hSub (Nat.cast (List.length m) : Int) (1 : Int))))) (gp m (Int.toNat (0 : Int))) s t) (foldI (f81a { kd := kd, rd := rd, m := m, n := HSub.hSub (List.length m) (1 : Nat), kd2 := kd2, rd2 := rd2, m2 := m2 }) (0 : Nat) (HSub.hSub (List.length m) (1 : Nat)) (b)))))), (.flt (Nr.ay (Prod.snd (sidesF kd2 m2 (fun (b : Prod Bool Nr) (s t : Prod Nat Nat) ↦ bstep b (gp m (Int.toNat (Go.IntKind.wrap Go.IntKind.i64 (HSub.hSub (Nat.cast (List.length m) : Int) (1 : Int))))) (gp m (Int.toNat (0 : Int))) s t) (foldI (f81a { kd := kd, rd := rd, m := m, n := HSub.hSub (List.length m) (1 : Nat), kd2 := kd2, rd2 := rd2, m2 := m2 }) (0 : Nat) (HSub.hSub (List.length m) (1 : Nat)) (b)))))), (.flt (Nr.bx (Prod.snd (sidesF kd2 m2 (fun (b : Prod Bool Nr) (s t : Prod Nat Nat) ↦ bstep b (gp m (Int.toNat (Go.IntKind.wrap Go.IntKind.i64 (HSub.hSub (Nat.cast (List.length m) : Int) (1 : Int))))) (gp m (Int.toNat (0 : Int))) s t) (foldI (f81a { kd := kd, rd := rd, m := m, n := HSub.hSub (List.length m) (1 : Nat), kd2 := kd2, rd2 := rd2, m2 := m2 }) (0 : Nat) (HSub.hSub (List.length m) (1 : Nat)) (b)))))), (.flt (Nr.by' (Prod.snd (sidesF kd2 m2 (fun (b : Prod Bool Nr) (s t : Prod Nat Nat) ↦ bstep b (gp m (Int.toNat (Go.IntKind.wrap Go.IntKind.i64 (HSub.hSub (Nat.cast (List.length m) : Int) (1 : Int))))) (gp m (Int.toNat (0 : Int))) s t) (foldI (f81a { kd := kd, rd := rd, m := m, n := HSub.hSub (List.length m) (1 : Nat), kd2 := kd2, rd2 := rd2, m2 := m2 }) (0 : Nat) (HSub.hSub (List.length m) (1 : Nat)) (b))))))])]))) (False)) (False)))) (cond (BEq.beq kd (2 : Int)) (And (And (Eq (Go.IntKind.wrap Go.IntKind.i64 (HSub.hSub (Nat.cast (List.length m) : Int) (1 : Int))) (Go.IntKind.wrap Go.IntKind.i64 (HSub.hSub (Nat.cast (List.length m) : Int) (1 : Int)))) (And (Eq (Go.IntKind.wrap Go.IntKind.i64 (HSub.hSub (Nat.cast (List.length m) : Int) (1 : Int))) (Nat.cast (HSub.hSub (List.length m) (1 : Nat)) : Int)) (And (LE.le (1 : Nat) (List.length m)) (And (LE.le (List.length m) (8796093022208 : Nat)) (LE.le (1 : Nat) (List.length m2)))))) (cond (BEq.beq kd (2 : Int)) (Q (AT.tup []) (AT.tup [(.agg [(.int .u8 kd2), (.flt rd2), (.sl m2)]), (.agg [(.bool (Prod.fst (foldI (f81a { kd := kd, rd := rd, m := m, n := HSub.hSub (List.length m) (1 : Nat), kd2 := kd2, rd2 := rd2, m2 := m2 }) (0 : Nat) (HSub.hSub (List.length m) (1 : Nat)) (b))))]), (.agg [(.flt (Nr.far (Prod.snd (foldI (f81a { kd := kd, rd := rd, m := m, n := HSub.hSub (List.length m) (1 : Nat), kd2 := kd2, rd2 := rd2, m2 := m2 }) (0 : Nat) (HSub.hSub (List.length m) (1 : Nat)) (b))))), (.flt (Nr.ax (Prod.snd (foldI (f81a { kd := kd, rd := rd, m := m, n := HSub.hSub (List.length m) (1 : Nat), kd2 := kd2, rd2 := rd2, m2 := m2 }) (0 : Nat) (HSub.hSub (List.length m) (1 : Nat)) (b))))), (.flt (Nr.ay (Prod.snd (foldI (f81a { kd := kd, rd := rd, m := m, n := HSub.hSub (List.length m) (1 : Nat), kd2 := kd2, rd2 := rd2, m2 := m2 }) (0 : Nat) (HSub.hSub (List.length m) (1 : Nat)) (b))))), (.flt (Nr.bx (Prod.snd (foldI (f81a { kd := kd, rd := rd, m := m, n := HSub.hSub (List.length m) (1 : Nat), kd2 := kd2, rd2 := rd2, m2 := m2 }) (0 : Nat) (HSub.hSub (List.length m) (1 : Nat)) (b))))), (.flt (Nr.by' (Prod.snd (foldI (f81a { kd := kd, rd := rd, m := m, n := HSub.hSub (List.length m) (1 : Nat), kd2 := kd2, rd2 := rd2, m2 := m2 }) (0 : Nat) (HSub.hSub (List.length m) (1 : Nat)) (b)))))])])) (cond (inRange (Go.IntKind.wrap Go.IntKind.i64 (HSub.hSub (Nat.cast (List.length m) : Int) (1 : Int))) (List.length m)) (cond (inRange (0 : Int) (List.length m)) (And (LE.le (1 : Nat) (List.length m2)) (Q (AT.tup []) (AT.tup [(.agg [(.int .u8 kd2), (.flt rd2), (.sl m2)]), (.agg [(.bool (Prod.fst (sidesF kd2 m2 (fun (b : Prod Bool Nr) (s t : Prod Nat Nat) ↦ bstep b (gp m (Int.toNat (Go.IntKind.wrap Go.IntKind.i64 (HSub.hSub (Nat.cast (List.length m) : Int) (1 : Int))))) (gp m (Int.toNat (0 : Int))) s t) (foldI (f81a { kd := kd, rd := rd, m := m, n := HSub.hSub (List.length m) (1 : Nat), kd2 := kd2, rd2 := rd2, m2 := m2 }) (0 : Nat) (HSub.hSub (List.length m) (1 : Nat)) (b)))))]), (.agg [(.flt (Nr.far (Prod.snd (sidesF kd2 m2 (fun (b : Prod Bool Nr) (s t : Prod Nat Nat) ↦ bstep b (gp m (Int.toNat (Go.IntKind.wrap Go.IntKind.i64 (HSub.hSub (Nat.cast (List.length m) : Int) (1 : Int))))) (gp m (Int.toNat (0 : Int))) s t) (foldI (f81a { kd := kd, rd := rd, m := m, n := HSub.hSub (List.length m) (1 : Nat), kd2 := kd2, rd2 := rd2, m2 := m2 }) (0 : Nat) (HSub.hSub (List.length m) (1 : Nat)) (b)))))), (.flt (Nr.ax (Prod.snd (sidesF kd2 m2 (fun (b : Prod Bool Nr) (s t : Prod Nat Nat) ↦ bstep b (gp m (Int.toNat (Go.IntKind.wrap Go.IntKind.i64 (HSub.hSub (Nat.cast (List.length m) : Int) (1 : Int))))) (gp m (Int.toNat (0 : Int))) s t) (foldI (f81a { kd := kd, rd := rd, m := m, n := HSub.hSub (List.length m) (1 : Nat), kd2 := kd2, rd2 := rd2, m2 := m2 }) (0 : Nat) (HSub.hSub (List.length m) (1 : Nat)) (b)))))), (.flt (Nr.ay (Prod.snd (sidesF kd2 m2 (fun (b : Prod Bool Nr) (s t : Prod Nat Nat) ↦ bstep b (gp m (Int.toNat (Go.IntKind.wrap Go.IntKind.i64 (HSub.hSub (Nat.cast (List.length m) : Int) (1 : Int))))) (gp m (Int.toNat (0 : Int))) s t) (foldI (f81a { kd := kd, rd := rd, m := m, n := HSub.hSub (List.length m) (1 : Nat), kd2 := kd2, rd2 := rd2, m2 := m2 }) (0 : Nat) (HSub.hSub (List.length m) (1 : Nat)) (b)))))), (.flt (Nr.bx (Prod.snd (sidesF kd2 m2 (fun (b : Prod Bool Nr) (s t : Prod Nat Nat) ↦ bstep b (gp m (Int.toNat (Go.IntKind.wrap Go.IntKind.i64 (HSub.hSub (Nat.cast (List.length m) : Int) (1 : Int))))) (gp m (Int.toNat (0 : Int))) s t) (foldI (f81a { kd := kd, rd := rd, m := m, n := HSub.hSub (List.length m) (1 : Nat), kd2 := kd2, rd2 := rd2, m2 := m2 }) (0 : Nat) (HSub.hSub (List.length m) (1 : Nat)) (b)))))), (.flt (Nr.by' (Prod.snd (sidesF kd2 m2 (fun (b : Prod Bool Nr) (s t : Prod Nat Nat) ↦ bstep b (gp m (Int.toNat (Go.IntKind.wrap Go.IntKind.i64 (HSub.hSub (Nat.cast (List.length m) : Int) (1 : Int))))) (gp m (Int.toNat (0 : Int))) s t) (foldI (f81a { kd := kd, rd := rd, m := m, n := HSub.hSub (List.length m) (1 : Nat), kd2 := kd2, rd2 := rd2, m2 := m2 }) (0 : Nat) (HSub.hSub (List.length m) (1 : Nat)) (b))))))])]))) (False)) (False)))) (cond (BEq.beq kd (1 : Int)) (cond (inRange (Go.IntKind.wrap Go.IntKind.i64 (HSub.hSub (Nat.cast (List.length m) : Int) (1 : Int))) (List.length m)) (cond (inRange (0 : Int) (List.length m)) (And (LE.le (1 : Nat) (List.length m2)) (Q (AT.tup []) (AT.tup [(.agg [(.int .u8 kd2), (.flt rd2), (.sl m2)]), (.agg [(.bool (Prod.fst (sidesF kd2 m2 (fun (b : Prod Bool Nr) (s t : Prod Nat Nat) ↦ bstep b (gp m (Int.toNat (Go.IntKind.wrap Go.IntKind.i64 (HSub.hSub (Nat.cast (List.length m) : Int) (1 : Int))))) (gp m (Int.toNat (0 : Int))) s t) (b))))]), (.agg [(.flt (Nr.far (Prod.snd (sidesF kd2 m2 (fun (b : Prod Bool Nr) (s t : Prod Nat Nat) ↦ bstep b (gp m (Int.toNat (Go.IntKind.wrap Go.IntKind.i64 (HSub.hSub (Nat.cast (List.length m) : Int) (1 : Int))))) (gp m (Int.toNat (0 : Int))) s t) (b))))), (.flt (Nr.ax (Prod.snd (sidesF kd2 m2 (fun (b : Prod Bool Nr) (s t : Prod Nat Nat) ↦ bstep b (gp m (Int.toNat (Go.IntKind.wrap Go.IntKind.i64 (HSub.hSub (Nat.cast (List.length m) : Int) (1 : Int))))) (gp m (Int.toNat (0 : Int))) s t) (b))))), (.flt (Nr.ay (Prod.snd (sidesF kd2 m2 (fun (b : Prod Bool Nr) (s t : Prod Nat Nat) ↦ bstep b (gp m (Int.toNat (Go.IntKind.wrap Go.IntKind.i64 (HSub.hSub (Nat.cast (List.length m) : Int) (1 : Int))))) (gp m (Int.toNat (0 : Int))) s t) (b))))), (.flt (Nr.bx (Prod.snd (sidesF kd2 m2 (fun (b : Prod Bool Nr) (s t : Prod Nat Nat) ↦ bstep b (gp m (Int.toNat (Go.IntKind.wrap Go.IntKind.i64 (HSub.hSub (Nat.cast (List.length m) : Int) (1 : Int))))) (gp m (Int.toNat (0 : Int))) s t) (b))))), (.flt (Nr.by' (Prod.snd (sidesF kd2 m2 (fun (b : Prod Bool Nr) (s t : Prod Nat Nat) ↦ bstep b (gp m (Int.toNat (Go.IntKind.wrap Go.IntKind.i64 (HSub.hSub (Nat.cast (List.length m) : Int) (1 : Int))))) (gp m (Int.toNat (0 : Int))) s t) (b)))))])]))) (False)) (False)) (Q (AT.tup []) (AT.tup [(.agg [(.int .u8 kd2), (.flt rd2), (.sl m2)]), (.agg [(.bool (Prod.fst b))]), (.agg [(.flt (Nr.far (Prod.snd b))), (.flt (Nr.ax (Prod.snd b))), (.flt (Nr.ay (Prod.snd b))), (.flt (Nr.bx (Prod.snd b))), (.flt (Nr.by' (Prod.snd b)))])]))))) : xfun (tb 49 [] [(82, e82)] [(7, s81a)]) (Try.f81.body.getD .skip) Try.f81.results.toList [.av (.agg [.int .u8 kd, .flt rd, .sl m]), .av (.fn (.func 82) [] [.lp 1000 0, .lp 1001 0, .lp 1002 0])] [(1000, .cells [.int .u8 kd2, .flt rd2, .sl m2]), (1001, .cells [.bool (b).1]), (1002, .cells [.flt (b).2.far, .flt (b).2.ax, .flt (b).2.ay, .flt (b).2.bx, .flt (b).2.by'])] (fun r bx => Q r (obsB [1000, 1001, 1002] bx)) := by_kernel (q := cond (BEq.beq kd (3 : Int)) (And (And (Eq (Go.IntKind.wrap Go.IntKind.i64 (HSub.hSub (Nat.cast (List.length m) : Int) (1 : Int))) (Go.IntKind.wrap Go.IntKind.i64 (HSub.hSub (Nat.cast (List.length m) : Int) (1 : Int)))) (And (Eq (Go.IntKind.wrap Go.IntKind.i64 (HSub.hSub (Nat.cast (List.length m) : Int) (1 : Int))) (Nat.cast (HSub.hSub (List.length m) (1 : Nat)) : Int)) (And (LE.le (1 : Nat) (List.length m)) (And (LE.le (List.length m) (8796093022208 : Nat)) (LE.le (1 : Nat) (List.length m2)))))) (cond (BEq.beq kd (2 : Int)) (Q (AT.tup []) (AT.tup [(.agg [(.int .u8 kd2), (.flt rd2), (.sl m2)]), (.agg [(.bool (Prod.fst (foldI (f81a { kd := kd, rd := rd, m := m, n := HSub.hSub (List.length m) (1 : Nat), kd2 := kd2, rd2 := rd2, m2 := m2 }) (0 : Nat) (HSub.hSub (List.length m) (1 : Nat)) (b))))]), (.agg [(.flt (Nr.far (Prod.snd (foldI (f81a { kd := kd, rd := rd, m := m, n := HSub.hSub (List.length m) (1 : Nat), kd2 := kd2, rd2 := rd2, m2 := m2 }) (0 : Nat) (HSub.hSub (List.length m) (1 : Nat)) (b))))), (.flt (Nr.ax (Prod.snd (foldI (f81a { kd := kd, rd := rd, m := m, n := HSub.hSub (List.length m) (1 : Nat), kd2 := kd2, rd2 := rd2, m2 := m2 }) (0 : Nat) (HSub.hSub (List.length m) (1 : Nat)) (b))))), (.flt (Nr.ay (Prod.snd (foldI (f81a { kd := kd, rd := rd, m := m, n := HSub.hSub (List.length m) (1 : Nat), kd2 := kd2, rd2 := rd2, m2 := m2 }) (0 : Nat) (HSub.hSub (List.length m) (1 : Nat)) (b))))), (.flt (Nr.bx (Prod.snd (foldI (f81a { kd := kd, rd := rd, m := m, n := HSub.hSub (List.length m) (1 : Nat), kd2 := kd2, rd2 := rd2, m2 := m2 }) (0 : Nat) (HSub.hSub (List.length m) (1 : Nat)) (b))))), (.flt (Nr.by' (Prod.snd (foldI (f81a { kd := kd, rd := rd, m := m, n := HSub.hSub (List.length m) (1 : Nat), kd2 := kd2, rd2 := rd2, m2 := m2 }) (0 : Nat) (HSub.hSub (List.length m) (1 : Nat)) (b)))))])])) (cond (inRange (Go.IntKind.wrap Go.IntKind.i64 (HSub.hSub (Nat.cast (List.length m) : Int) (1 : Int))) (List.length m)) (cond (inRange (0 : Int) (List.length m)) (And (LE.le (1 : Nat) (List.length m2)) (Q (AT.tup []) (AT.tup [(.agg [(.int .u8 kd2), (.flt rd2), (.sl m2)]), (.agg [(.bool (Prod.fst (sidesF kd2 m2 (fun (b : Prod Bool Nr) (s t : Prod Nat Nat) ↦ bstep b (gp m (Int.toNat (Go.IntKind.wrap Go.IntKind.i64 (HSub.hSub (Nat.cast (List.length m) : Int) (1 : Int))))) (gp m (Int.toNat (0 : Int))) s t) (foldI (f81a { kd := kd, rd := rd, m := m, n := HSub.hSub (List.length m) (1 : Nat), kd2 := kd2, rd2 := rd2, m2 := m2 }) (0 : Nat) (HSub.hSub (List.length m) (1 : Nat)) (b)))))]), (.agg [(.flt (Nr.far (Prod.snd (sidesF kd2 m2 (fun (b : Prod Bool Nr) (s t : Prod Nat Nat) ↦ bstep b (gp m (Int.toNat (Go.IntKind.wrap Go.IntKind.i64 (HSub.hSub (Nat.cast (List.length m) : Int) (1 : Int))))) (gp m (Int.toNat (0 : Int))) s t) (foldI (f81a { kd := kd, rd := rd, m := m, n := HSub.hSub (List.length m) (1 : Nat), kd2 := kd2, rd2 := rd2, m2 := m2 }) (0 : Nat) (HSub.hSub (List.length m) (1 : Nat)) (b)))))), (.flt (Nr.ax (Prod.snd (sidesF kd2 m2 (fun (b : Prod Bool Nr) (s t : Prod Nat Nat) ↦ bstep b (gp m (Int.toNat (Go.IntKind.wrap Go.IntKind.i64 (HSub.hSub (Nat.cast (List.length m) : Int) (1 : Int))))) (gp m (Int.toNat (0 : Int))) s t) (foldI (f81a { kd := kd, rd := rd, m := m, n := HSub.hSub (List.length m) (1 : Nat), kd2 := kd2, rd2 := rd2, m2 := m2 }) (0 : Nat) (HSub.hSub (List.length m) (1 : Nat)) (b)))))), (.flt (Nr.ay (Prod.snd (sidesF kd2 m2 (fun (b : Prod Bool Nr) (s t : Prod Nat Nat) ↦ bstep b (gp m (Int.toNat (Go.IntKind.wrap Go.IntKind.i64 (HSub.hSub (Nat.cast (List.length m) : Int) (1 : Int))))) (gp m (Int.toNat (0 : Int))) s t) (foldI (f81a { kd := kd, rd := rd, m := m, n := HSub.hSub (List.length m) (1 : Nat), kd2 := kd2, rd2 := rd2, m2 := m2 }) (0 : Nat) (HSub.hSub (List.length m) (1 : Nat)) (b)))))), (.flt (Nr.bx (Prod.snd (sidesF kd2 m2 (fun (b : Prod Bool Nr) (s t : Prod Nat Nat) ↦ bstep b (gp m (Int.toNat (Go.IntKind.wrap Go.IntKind.i64 (HSub.hSub (Nat.cast (List.length m) : Int) (1 : Int))))) (gp m (Int.toNat (0 : Int))) s t) (foldI (f81a { kd := kd, rd := rd, m := m, n := HSub.hSub (List.length m) (1 : Nat), kd2 := kd2, rd2 := rd2, m2 := m2 }) (0 : Nat) (HSub.hSub (List.length m) (1 : Nat)) (b)))))), (.flt (Nr.by' (Prod.snd (sidesF kd2 m2 (fun (b : Prod Bool Nr) (s t : Prod Nat Nat) ↦ bstep b (gp m (Int.toNat (Go.IntKind.wrap Go.IntKind.i64 (HSub.hSub (Nat.cast (List.length m) : Int) (1 : Int))))) (gp m (Int.toNat (0 : Int))) s t) (foldI (f81a { kd := kd, rd := rd, m := m, n := HSub.hSub (List.length m) (1 : Nat), kd2 := kd2, rd2 := rd2, m2 := m2 }) (0 : Nat) (HSub.hSub (List.length m) (1 : Nat)) (b))))))])]))) (False)) (False)))) (cond (BEq.beq kd (2 : Int)) (And (And (Eq (Go.IntKind.wrap Go.IntKind.i64 (HSub.hSub (Nat.cast (List.length m) : Int) (1 : Int))) (Go.IntKind.wrap Go.IntKind.i64 (HSub.hSub (Nat.cast (List.length m) : Int) (1 : Int)))) (And (Eq (Go.IntKind.wrap Go.IntKind.i64 (HSub.hSub (Nat.cast (List.length m) : Int) (1 : Int))) (Nat.cast (HSub.hSub (List.length m) (1 : Nat)) : Int)) (And (LE.le (1 : Nat) (List.length m)) (And (LE.le (List.length m) (8796093022208 : Nat)) (LE.le (1 : Nat) (List.length m2)))))) (cond (BEq.beq kd (2 : Int)) (Q (AT.tup []) (AT.tup [(.agg [(.int .u8 kd2), (.flt rd2), (.sl m2)]), (.agg [(.bool (Prod.fst (foldI (f81a { kd := kd, rd := rd, m := m, n := HSub.hSub (List.length m) (1 : Nat), kd2 := kd2, rd2 := rd2, m2 := m2 }) (0 : Nat) (HSub.hSub (List.length m) (1 : Nat)) (b))))]), (.agg [(.flt (Nr.far (Prod.snd (foldI (f81a { kd := kd, rd := rd, m := m, n := HSub.hSub (List.length m) (1 : Nat), kd2 := kd2, rd2 := rd2, m2 := m2 }) (0 : Nat) (HSub.hSub (List.length m) (1 : Nat)) (b))))), (.flt (Nr.ax (Prod.snd (foldI (f81a { kd := kd, rd := rd, m := m, n := HSub.hSub (List.length m) (1 : Nat), kd2 := kd2, rd2 := rd2, m2 := m2 }) (0 : Nat) (HSub.hSub (List.length m) (1 : Nat)) (b))))), (.flt (Nr.ay (Prod.snd (foldI (f81a { kd := kd, rd := rd, m := m, n := HSub.hSub (List.length m) (1 : Nat), kd2 := kd2, rd2 := rd2, m2 := m2 }) (0 : Nat) (HSub.hSub (List.length m) (1 : Nat)) (b))))), (.flt (Nr.bx (Prod.snd (foldI (f81a { kd := kd, rd := rd, m := m, n := HSub.hSub (List.length m) (1 : Nat), kd2 := kd2, rd2 := rd2, m2 := m2 }) (0 : Nat) (HSub.hSub (List.length m) (1 : Nat)) (b))))), (.flt (Nr.by' (Prod.snd (foldI (f81a { kd := kd, rd := rd, m := m, n := HSub.hSub (List.length m) (1 : Nat), kd2 := kd2, rd2 := rd2, m2 := m2 }) (0 : Nat) (HSub.hSub (List.length m) (1 : Nat)) (b)))))])])) (cond (inRange (Go.IntKind.wrap Go.IntKind.i64 (HSub.hSub (Nat.cast (List.length m) : Int) (1 : Int))) (List.length m)) (cond (inRange (0 : Int) (List.length m)) (And (LE.le (1 : Nat) (List.length m2)) (Q (AT.tup []) (AT.tup [(.agg [(.int .u8 kd2), (.flt rd2), (.sl m2)]), (.agg [(.bool (Prod.fst (sidesF kd2 m2 (fun (b : Prod Bool Nr) (s t : Prod Nat Nat) ↦ bstep b (gp m (Int.toNat (Go.IntKind.wrap Go.IntKind.i64 (HSub.hSub (Nat.cast (List.length m) : Int) (1 : Int))))) (gp m (Int.toNat (0 : Int))) s t) (foldI (f81a { kd := kd, rd := rd, m := m, n := HSub.hSub (List.length m) (1 : Nat), kd2 := kd2, rd2 := rd2, m2 := m2 }) (0 : Nat) (HSub.hSub (List.length m) (1 : Nat)) (b)))))]), (.agg [(.flt (Nr.far (Prod.snd (sidesF kd2 m2 (fun (b : Prod Bool Nr) (s t : Prod Nat Nat) ↦ bstep b (gp m (Int.toNat (Go.IntKind.wrap Go.IntKind.i64 (HSub.hSub (Nat.cast (List.length m) : Int) (1 : Int))))) (gp m (Int.toNat (0 : Int))) s t) (foldI (f81a { kd := kd, rd := rd, m := m, n := HSub.hSub (List.length m) (1 : Nat), kd2 := kd2, rd2 := rd2, m2 := m2 }) (0 : Nat) (HSub.hSub (List.length m) (1 : Nat)) (b)))))), (.flt (Nr.ax (Prod.snd (sidesF kd2 m2 (fun (b : Prod Bool Nr) (s t : Prod Nat Nat) ↦ bstep b (gp m (Int.toNat (Go.IntKind.wrap Go.IntKind.i64 (HSub.hSub (Nat.cast (List.length m) : Int) (1 : Int))))) (gp m (Int.toNat (0 : Int))) s t) (foldI (f81a { kd := kd, rd := rd, m := m, n := HSub.hSub (List.length m) (1 : Nat), kd2 := kd2, rd2 := rd2, m2 := m2 }) (0 : Nat) (HSub.hSub (List.length m) (1 : Nat)) (b)))))), (.flt (Nr.ay (Prod.snd (sidesF kd2 m2 (fun (b : Prod Bool Nr) (s t : Prod Nat Nat) ↦ bstep b (gp m (Int.toNat (Go.IntKind.wrap Go.IntKind.i64 (HSub.hSub (Nat.cast (List.length m) : Int) (1 : Int))))) (gp m (Int.toNat (0 : Int))) s t) (foldI (f81a { kd := kd, rd := rd, m := m, n := HSub.hSub (List.length m) (1 : Nat), kd2 := kd2, rd2 := rd2, m2 := m2 }) (0 : Nat) (HSub.hSub (List.length m) (1 : Nat)) (b)))))), (.flt (Nr.bx (Prod.snd (sidesF kd2 m2 (fun (b : Prod Bool Nr) (s t : Prod Nat Nat) ↦ bstep b (gp m (Int.toNat (Go.IntKind.wrap Go.IntKind.i64 (HSub.hSub (Nat.cast (List.length m) : Int) (1 : Int))))) (gp m (Int.toNat (0 : Int))) s t) (foldI (f81a { kd := kd, rd := rd, m := m, n := HSub.hSub (List.length m) (1 : Nat), kd2 := kd2, rd2 := rd2, m2 := m2 }) (0 : Nat) (HSub.hSub (List.length m) (1 : Nat)) (b)))))), (.flt (Nr.by' (Prod.snd (sidesF kd2 m2 (fun (b : Prod Bool Nr) (s t : Prod Nat Nat) ↦ bstep b (gp m (Int.toNat (Go.IntKind.wrap Go.IntKind.i64 (HSub.hSub (Nat.cast (List.length m) : Int) (1 : Int))))) (gp m (Int.toNat (0 : Int))) s t) (foldI (f81a { kd := kd, rd := rd, m := m, n := HSub.hSub (List.length m) (1 : Nat), kd2 := kd2, rd2 := rd2, m2 := m2 }) (0 : Nat) (HSub.hSub (List.length m) (1 : Nat)) (b))))))])]))) (False)) (False)))) (cond (BEq.beq kd (1 : Int)) (cond (inRange (Go.IntKind.wrap Go.IntKind.i64 (HSub.hSub (Nat.cast (List.length m) : Int) (1 : Int))) (List.length m)) (cond (inRange (0 : Int) (List.length m)) (And (LE.le (1 : Nat) (List.length m2)) (Q (AT.tup []) (AT.tup [(.agg [(.int .u8 kd2), (.flt rd2), (.sl m2)]), (.agg [(.bool (Prod.fst (sidesF kd2 m2 (fun (b : Prod Bool Nr) (s t : Prod Nat Nat) ↦ bstep b (gp m (Int.toNat (Go.IntKind.wrap Go.IntKind.i64 (HSub.hSub (Nat.cast (List.length m) : Int) (1 : Int))))) (gp m (Int.toNat (0 : Int))) s t) (b))))]), (.agg [(.flt (Nr.far (Prod.snd (sidesF kd2 m2 (fun (b : Prod Bool Nr) (s t : Prod Nat Nat) ↦ bstep b (gp m (Int.toNat (Go.IntKind.wrap Go.IntKind.i64 (HSub.hSub (Nat.cast (List.length m) : Int) (1 : Int))))) (gp m (Int.toNat (0 : Int))) s t) (b))))), (.flt (Nr.ax (Prod.snd (sidesF kd2 m2 (fun (b : Prod Bool Nr) (s t : Prod Nat Nat) ↦ bstep b (gp m (Int.toNat (Go.IntKind.wrap Go.IntKind.i64 (HSub.hSub (Nat.cast (List.length m) : Int) (1 : Int))))) (gp m (Int.toNat (0 : Int))) s t) (b))))), (.flt (Nr.ay (Prod.snd (sidesF kd2 m2 (fun (b : Prod Bool Nr) (s t : Prod Nat Nat) ↦ bstep b (gp m (Int.toNat (Go.IntKind.wrap Go.IntKind.i64 (HSub.hSub (Nat.cast (List.length m) : Int) (1 : Int))))) (gp m (Int.toNat (0 : Int))) s t) (b))))), (.flt (Nr.bx (Prod.snd (sidesF kd2 m2 (fun (b : Prod Bool Nr) (s t : Prod Nat Nat) ↦ bstep b (gp m (Int.toNat (Go.IntKind.wrap Go.IntKind.i64 (HSub.hSub (Nat.cast (List.length m) : Int) (1 : Int))))) (gp m (Int.toNat (0 : Int))) s t) (b))))), (.flt (Nr.by' (Prod.snd (sidesF kd2 m2 (fun (b : Prod Bool Nr) (s t : Prod Nat Nat) ↦ bstep b (gp m (Int.toNat (Go.IntKind.wrap Go.IntKind.i64 (HSub.hSub (Nat.cast (List.length m) : Int) (1 : Int))))) (gp m (Int.toNat (0 : Int))) s t) (b)))))])]))) (False)) (False)) (Q (AT.tup []) (AT.tup [(.agg [(.int .u8 kd2), (.flt rd2), (.sl m2)]), (.agg [(.bool (Prod.fst b))]), (.agg [(.flt (Nr.far (Prod.snd b))), (.flt (Nr.ax (Prod.snd b))), (.flt (Nr.ay (Prod.snd b))), (.flt (Nr.bx (Prod.snd b))), (.flt (Nr.by' (Prod.snd b)))])]))))) (by kernel_rfl) h

def e81a : EntB := ⟨fun l bx_ K => match l with
  | [.av (.agg [.int .u8 kd, .flt rd, .sl m]), .av (.fn (.func 82) [] [.lp S 0, .lp F 0, .lp G 0])] =>
    (match lk bx_ S, lk bx_ F, lk bx_ G with
    | some (.cells [.int .u8 kd2, .flt rd2, .sl m2]), some (.cells [.bool fst]), some (.cells [.flt f, .flt ax, .flt ay, .flt bx, .flt by_]) =>
      bif distinct [S, F, G] then (1 ≤ m.length ∧ 1 ≤ m2.length) ∧ K (.tup []) (zipR [S, F, G] [.cells [.int .u8 kd2, .flt rd2, .sl m2], .cells [.bool (sidesF kd m (fun b p q => sidesF kd2 m2 (fun b s t => bstep b p q s t) b) (fst, ⟨f, ax, ay, bx, by_⟩)).1], .cells [.flt (sidesF kd m (fun b p q => sidesF kd2 m2 (fun b s t => bstep b p q s t) b) (fst, ⟨f, ax, ay, bx, by_⟩)).2.far, .flt (sidesF kd m (fun b p q => sidesF kd2 m2 (fun b s t => bstep b p q s t) b) (fst, ⟨f, ax, ay, bx, by_⟩)).2.ax, .flt (sidesF kd m (fun b p q => sidesF kd2 m2 (fun b s t => bstep b p q s t) b) (fst, ⟨f, ax, ay, bx, by_⟩)).2.ay, .flt (sidesF kd m (fun b p q => sidesF kd2 m2 (fun b s t => bstep b p q s t) b) (fst, ⟨f, ax, ay, bx, by_⟩)).2.bx, .flt (sidesF kd m (fun b p q => sidesF kd2 m2 (fun b s t => bstep b p q s t) b) (fst, ⟨f, ax, ay, bx, by_⟩)).2.by']] bx_) else False
    | _, _, _ => False)
  | _ => False⟩
theorem c81a : CallOkB Pr 81 e81a := by
  refine callOkB_of (T := tb 49 [] [(82, e82)] [(7, s81a)]) (tb_ok (fnNil _) (fnBCons c82 (fnBNil _))) Try.func81 rfl (by decide) rfl (loops1 (by kernel_rfl) rfl lo81a) ?_
  intro l bx_ K hLB h
  unfold e81a at h
  dsimp only at h
  split at h
  · rename_i kd rd m S F G
    have hm : m.length ≤ 8796093022208 := hLB (.av (.agg [.int .u8 kd, .flt rd, .sl m])) (by simp) (.sl m) (by simp)
    split at h
    · rename_i kd2 rd2 m2 fst f ax ay bx by_ h1 h2 h3
      cases hd : distinct [S, F, G] with
      | false => rw [hd] at h; exact h.elim
      | true =>
        rw [hd] at h
        rw [cond_true] at h
        obtain ⟨⟨hl, h5⟩, h⟩ := h
        have hlk : lkAll bx_ [S, F, G] [.cells [.int .u8 kd2, .flt rd2, .sl m2], .cells [.bool fst], .cells [.flt f, .flt ax, .flt ay, .flt bx, .flt by_]] := by simp only [lkAll, h1, h2, h3, and_self]
        have hx := fW81a kd rd m kd2 rd2 m2 (fst, ⟨f, ax, ay, bx, by_⟩) (fun r X => r = .tup [] ∧ X = .tup (([.cells [.int .u8 kd2, .flt rd2, .sl m2], .cells [.bool (sidesF kd m (fun b p q => sidesF kd2 m2 (fun b s t => bstep b p q s t) b) (fst, ⟨f, ax, ay, bx, by_⟩)).1], .cells [.flt (sidesF kd m (fun b p q => sidesF kd2 m2 (fun b s t => bstep b p q s t) b) (fst, ⟨f, ax, ay, bx, by_⟩)).2.far, .flt (sidesF kd m (fun b p q => sidesF kd2 m2 (fun b s t => bstep b p q s t) b) (fst, ⟨f, ax, ay, bx, by_⟩)).2.ax, .flt (sidesF kd m (fun b p q => sidesF kd2 m2 (fun b s t => bstep b p q s t) b) (fst, ⟨f, ax, ay, bx, by_⟩)).2.ay, .flt (sidesF kd m (fun b p q => sidesF kd2 m2 (fun b s t => bstep b p q s t) b) (fst, ⟨f, ax, ay, bx, by_⟩)).2.bx, .flt (sidesF kd m (fun b p q => sidesF kd2 m2 (fun b s t => bstep b p q s t) b) (fst, ⟨f, ax, ay, bx, by_⟩)).2.by']] : List Bx).map encB)) ?_
        · exact canonB [.av (.agg [.int .u8 kd, .flt rd, .sl m]), .av (.fn (.func 82) [] [.lp 1000 0, .lp 1001 0, .lp 1002 0])] [S, F, G] [.cells [.int .u8 kd2, .flt rd2, .sl m2], .cells [.bool fst], .cells [.flt f, .flt ax, .flt ay, .flt bx, .flt by_]] [.cells [.int .u8 kd2, .flt rd2, .sl m2], .cells [.bool (sidesF kd m (fun b p q => sidesF kd2 m2 (fun b s t => bstep b p q s t) b) (fst, ⟨f, ax, ay, bx, by_⟩)).1], .cells [.flt (sidesF kd m (fun b p q => sidesF kd2 m2 (fun b s t => bstep b p q s t) b) (fst, ⟨f, ax, ay, bx, by_⟩)).2.far, .flt (sidesF kd m (fun b p q => sidesF kd2 m2 (fun b s t => bstep b p q s t) b) (fst, ⟨f, ax, ay, bx, by_⟩)).2.ax, .flt (sidesF kd m (fun b p q => sidesF kd2 m2 (fun b s t => bstep b p q s t) b) (fst, ⟨f, ax, ay, bx, by_⟩)).2.ay, .flt (sidesF kd m (fun b p q => sidesF kd2 m2 (fun b s t => bstep b p q s t) b) (fst, ⟨f, ax, ay, bx, by_⟩)).2.bx, .flt (sidesF kd m (fun b p q => sidesF kd2 m2 (fun b s t => bstep b p q s t) b) (fst, ⟨f, ax, ay, bx, by_⟩)).2.by']] (.tup []) (by kernel_rfl) (by kernel_rfl) (by kernel_rfl) hlk hd (by kernel_rfl) (by kernel_rfl) (by kernel_rfl) (by kernel_rfl) hx h
        have hw : IntKind.i64.wrap ((m.length : Int) - 1) = ((m.length - 1 : Nat) : Int) := by
          rw [show ((m.length : Int) - 1) = ((m.length - 1 : Nat) : Int) by omega]; exact wrap_nat (by omega)
        have h3 : inRange (((m.length - 1 : Nat) : Int)) m.length = true := by rw [inRange_nat]; exact decide_eq_true (by omega)
        have h4 : inRange (0 : Int) m.length = true := by rw [show (0 : Int) = ((0 : Nat) : Int) from rfl, inRange_nat]; exact decide_eq_true (by omega)
        rw [hw, h3, h4]
        unfold sidesF
        by_cases k3 : kd = 3
        · subst k3; exact ⟨⟨rfl, rfl, hl, hm, h5⟩, h5, rfl, rfl⟩
        · have e3 : (kd == (3 : Int)) = false := by simpa using k3
          rw [e3]
          cases (kd == (2 : Int)) <;> cases (kd == (1 : Int)) <;> first
            | exact ⟨rfl, rfl⟩
            | exact ⟨⟨rfl, rfl, hl, hm, h5⟩, rfl, rfl⟩
            | exact ⟨h5, rfl, rfl⟩
    · exact h.elim
  · exact h.elim

end Go.Proofs.Ythopjahoaljhaaa.X

/-! ## near.cores. -/
set_option linter.unusedVariables false
set_option linter.unusedSimpArgs false
set_option maxRecDepth 100000
namespace Go.Proofs.Ythopjahoaljhaaa.X
open Go Go.RowKit

theorem fW41 (ka : Int) (ra : Nat) (la : List (Nat × Nat)) (kb : Int) (rb : Nat) (lb : List (Nat × Nat)) (Q : AT → AT → Prop) (h : cond (near_holds_2 ka ra la lb) (Q (AT.av (.agg [(.flt ((0 : Nat))), (.flt (near_holds_0 ka ra la lb)), (.flt (near_holds_1 ka ra la lb)), (.flt (near_holds_0 ka ra la lb)), (.flt (near_holds_1 ka ra la lb))])) (AT.tup [])) (cond (near_holds_2 kb rb lb la) (Q (AT.av (.agg [(.flt ((0 : Nat))), (.flt (near_holds_0 kb rb lb la)), (.flt (near_holds_1 kb rb lb la)), (.flt (near_holds_0 kb rb lb la)), (.flt (near_holds_1 kb rb lb la))])) (AT.tup [])) (And (And (LE.le (1 : Nat) (List.length la)) (LE.le (1 : Nat) (List.length lb))) (Q (AT.av (.agg [(.flt (Nr.far (Prod.snd (sidesF ka la (fun (b : Prod Bool Nr) (p q : Prod Nat Nat) ↦ sidesF kb lb (fun (b : Prod Bool Nr) (s t : Prod Nat Nat) ↦ bstep b p q s t) b) (Prod.mk Bool.true { far := (0 : Nat), ax := (0 : Nat), ay := (0 : Nat), bx := (0 : Nat), by' := (0 : Nat) }))))), (.flt (Nr.ax (Prod.snd (sidesF ka la (fun (b : Prod Bool Nr) (p q : Prod Nat Nat) ↦ sidesF kb lb (fun (b : Prod Bool Nr) (s t : Prod Nat Nat) ↦ bstep b p q s t) b) (Prod.mk Bool.true { far := (0 : Nat), ax := (0 : Nat), ay := (0 : Nat), bx := (0 : Nat), by' := (0 : Nat) }))))), (.flt (Nr.ay (Prod.snd (sidesF ka la (fun (b : Prod Bool Nr) (p q : Prod Nat Nat) ↦ sidesF kb lb (fun (b : Prod Bool Nr) (s t : Prod Nat Nat) ↦ bstep b p q s t) b) (Prod.mk Bool.true { far := (0 : Nat), ax := (0 : Nat), ay := (0 : Nat), bx := (0 : Nat), by' := (0 : Nat) }))))), (.flt (Nr.bx (Prod.snd (sidesF ka la (fun (b : Prod Bool Nr) (p q : Prod Nat Nat) ↦ sidesF kb lb (fun (b : Prod Bool Nr) (s t : Prod Nat Nat) ↦ bstep b p q s t) b) (Prod.mk Bool.true { far := (0 : Nat), ax := (0 : Nat), ay := (0 : Nat), bx := (0 : Nat), by' := (0 : Nat) }))))), (.flt (Nr.by' (Prod.snd (sidesF ka la (fun (b : Prod Bool Nr) (p q : Prod Nat Nat) ↦ sidesF kb lb (fun (b : Prod Bool Nr) (s t : Prod Nat Nat) ↦ bstep b p q s t) b) (Prod.mk Bool.true { far := (0 : Nat), ax := (0 : Nat), ay := (0 : Nat), bx := (0 : Nat), by' := (0 : Nat) })))))])) (AT.tup []))))) : xfun (tb 33 [(80, e80)] [(81, e81a)] []) (Try.f41.body.getD .skip) Try.f41.results.toList [.av (.agg [.int .u8 ka, .flt ra, .sl la]), .av (.agg [.int .u8 kb, .flt rb, .sl lb])] [] (fun r bx => Q r (obsB [] bx)) := by_kernel (q := cond (near_holds_2 ka ra la lb) (Q (AT.av (.agg [(.flt ((0 : Nat))), (.flt (near_holds_0 ka ra la lb)), (.flt (near_holds_1 ka ra la lb)), (.flt (near_holds_0 ka ra la lb)), (.flt (near_holds_1 ka ra la lb))])) (AT.tup [])) (cond (near_holds_2 kb rb lb la) (Q (AT.av (.agg [(.flt ((0 : Nat))), (.flt (near_holds_0 kb rb lb la)), (.flt (near_holds_1 kb rb lb la)), (.flt (near_holds_0 kb rb lb la)), (.flt (near_holds_1 kb rb lb la))])) (AT.tup [])) (And (And (LE.le (1 : Nat) (List.length la)) (LE.le (1 : Nat) (List.length lb))) (Q (AT.av (.agg [(.flt (Nr.far (Prod.snd (sidesF ka la (fun (b : Prod Bool Nr) (p q : Prod Nat Nat) ↦ sidesF kb lb (fun (b : Prod Bool Nr) (s t : Prod Nat Nat) ↦ bstep b p q s t) b) (Prod.mk Bool.true { far := (0 : Nat), ax := (0 : Nat), ay := (0 : Nat), bx := (0 : Nat), by' := (0 : Nat) }))))), (.flt (Nr.ax (Prod.snd (sidesF ka la (fun (b : Prod Bool Nr) (p q : Prod Nat Nat) ↦ sidesF kb lb (fun (b : Prod Bool Nr) (s t : Prod Nat Nat) ↦ bstep b p q s t) b) (Prod.mk Bool.true { far := (0 : Nat), ax := (0 : Nat), ay := (0 : Nat), bx := (0 : Nat), by' := (0 : Nat) }))))), (.flt (Nr.ay (Prod.snd (sidesF ka la (fun (b : Prod Bool Nr) (p q : Prod Nat Nat) ↦ sidesF kb lb (fun (b : Prod Bool Nr) (s t : Prod Nat Nat) ↦ bstep b p q s t) b) (Prod.mk Bool.true { far := (0 : Nat), ax := (0 : Nat), ay := (0 : Nat), bx := (0 : Nat), by' := (0 : Nat) }))))), (.flt (Nr.bx (Prod.snd (sidesF ka la (fun (b : Prod Bool Nr) (p q : Prod Nat Nat) ↦ sidesF kb lb (fun (b : Prod Bool Nr) (s t : Prod Nat Nat) ↦ bstep b p q s t) b) (Prod.mk Bool.true { far := (0 : Nat), ax := (0 : Nat), ay := (0 : Nat), bx := (0 : Nat), by' := (0 : Nat) }))))), (.flt (Nr.by' (Prod.snd (sidesF ka la (fun (b : Prod Bool Nr) (p q : Prod Nat Nat) ↦ sidesF kb lb (fun (b : Prod Bool Nr) (s t : Prod Nat Nat) ↦ bstep b p q s t) b) (Prod.mk Bool.true { far := (0 : Nat), ax := (0 : Nat), ay := (0 : Nat), bx := (0 : Nat), by' := (0 : Nat) })))))])) (AT.tup []))))) (by kernel_rfl) h

def near_cores (ka : Int) (ra : Nat) (la : List (Nat × Nat)) (kb : Int) (rb : Nat) (lb : List (Nat × Nat)) : Nr :=
  bif near_holds_2 ka ra la lb then ⟨0, near_holds_0 ka ra la lb, near_holds_1 ka ra la lb, near_holds_0 ka ra la lb, near_holds_1 ka ra la lb⟩
  else bif near_holds_2 kb rb lb la then ⟨0, near_holds_0 kb rb lb la, near_holds_1 kb rb lb la, near_holds_0 kb rb lb la, near_holds_1 kb rb lb la⟩
  else (sidesF ka la (fun b p q => sidesF kb lb (fun b s t => bstep b p q s t) b) (true, ⟨0, 0, 0, 0, 0⟩)).2
def d41 : List AT → Option AT
  | [.av (.agg [.int .u8 ka, .flt ra, .sl la]), .av (.agg [.int .u8 kb, .flt rb, .sl lb])] => bif Nat.ble 1 la.length && Nat.ble 1 lb.length then some (.av (.agg [.flt (near_cores ka ra la kb rb lb).far, .flt (near_cores ka ra la kb rb lb).ax, .flt (near_cores ka ra la kb rb lb).ay, .flt (near_cores ka ra la kb rb lb).bx, .flt (near_cores ka ra la kb rb lb).by'])) else none
  | _ => none
def e41 : Ent := ⟨d41, fun l K => match l with
  | [.av (.agg [.int .u8 ka, .flt ra, .sl la]), .av (.agg [.int .u8 kb, .flt rb, .sl lb])] => bif Nat.ble 1 la.length && Nat.ble 1 lb.length then K (.av (.agg [.flt (near_cores ka ra la kb rb lb).far, .flt (near_cores ka ra la kb rb lb).ax, .flt (near_cores ka ra la kb rb lb).ay, .flt (near_cores ka ra la kb rb lb).bx, .flt (near_cores ka ra la kb rb lb).by'])) else False
  | _ => False⟩
theorem k41 (l : List AT) (K : AT → Prop) (h : e41.k l K) : ∃ r, e41.d l = some r ∧ K r := by
  simp only [e41] at h ⊢
  unfold d41
  split at h
  · rename_i ka ra la kb rb lb
    revert h
    cases (Nat.ble 1 la.length && Nat.ble 1 lb.length) with
    | true => intro h; exact ⟨_, rfl, h⟩
    | false => intro h; exact h.elim
  · exact h.elim
theorem c41 : CallOk Pr 41 e41 := by
  refine callOk_auto (T := tb 33 [(80, e80)] [(81, e81a)] []) (tb_ok (fnCons c80 (fnNil _)) (fnBCons c81a (fnBNil _))) Try.func41 rfl (by decide) rfl rfl k41 ?_
  intro l r h hb
  change d41 l = some r at h
  unfold d41 at h
  split at h
  · rename_i ka ra la kb rb lb
    cases hc : (Nat.ble 1 la.length && Nat.ble 1 lb.length) with
    | false => rw [hc] at h; cases h
    | true =>
      rw [hc] at h
      cases h
      simp only [Bool.and_eq_true] at hc
      have h1 : 1 ≤ la.length := Nat.le_of_ble_eq_true hc.1
      have h2 : 1 ≤ lb.length := Nat.le_of_ble_eq_true hc.2
      refine ⟨rfl, rfl, ?_⟩
      refine fW41 ka ra la kb rb lb (fun r X => r = (.av (.agg [.flt (near_cores ka ra la kb rb lb).far, .flt (near_cores ka ra la kb rb lb).ax, .flt (near_cores ka ra la kb rb lb).ay, .flt (near_cores ka ra la kb rb lb).bx, .flt (near_cores ka ra la kb rb lb).by']))) ?_
      unfold near_cores
      cases near_holds_2 ka ra la lb with
      | true => rfl
      | false =>
        cases near_holds_2 kb rb lb la with
        | true => rfl
        | false => exact ⟨⟨h1, h2⟩, rfl⟩
  · cases h

end Go.Proofs.Ythopjahoaljhaaa.X

/-! ## Contracts of functions of the program, laid out by a program of mine (gen.py): what each gives, as a function of its arguments; floats up to the bits of a NaN. -/
set_option linter.unusedVariables false
set_option linter.unusedSimpArgs false
set_option maxRecDepth 100000
namespace Go.Proofs.Ythopjahoaljhaaa.X
open Go Go.RowKit

theorem ck1 {k : Int} {r : Nat} {l : List (Nat × Nat)} (h : (bne (shape_Check k r l) (0 : Int)) = false) : 1 ≤ l.length := by
  rcases l with _ | ⟨p, l⟩
  · exfalso
    unfold shape_Check shape_Check_v0 at h
    revert h
    cases (decide (k < 1)) <;> cases (decide (k > 3)) <;> simp
  · simp
theorem ckA {k k' : Int} {r r' : Nat} {l l' : List (Nat × Nat)} (h : (bne (shape_Check k r l) (0 : Int)) = false) (h' : (bne (shape_Check k' r' l') (0 : Int)) = false) (hc : (Nat.ble 1 l.length && Nat.ble 1 l'.length) = false) : False := by
  have h1 := ck1 h
  have h2 := ck1 h'
  rw [Nat.ble_eq_true_of_le h1, Nat.ble_eq_true_of_le h2] at hc
  cases hc

/-- tumble/near.Shapes -/
def near_Shapes_0 (a0 : Int) (a1 : Nat) (a2 : List (Nat × Nat)) (b0 : Int) (b1 : Nat) (b2 : List (Nat × Nat)) : Nat := cond (bne (shape_Check a0 a1 a2) (0 : Int)) ((0 : Nat)) (cond (bne (shape_Check b0 b1 b2) (0 : Int)) ((0 : Nat)) (cond (fGt (fsub (Nr.far (near_cores a0 a1 a2 b0 b1 b2)) (fadd a1 b1)) (0 : Nat)) (fsub (Nr.far (near_cores a0 a1 a2 b0 b1 b2)) (fadd a1 b1)) ((0 : Nat))))
def near_Shapes_1 (a0 : Int) (a1 : Nat) (a2 : List (Nat × Nat)) (b0 : Int) (b1 : Nat) (b2 : List (Nat × Nat)) : Nat := cond (bne (shape_Check a0 a1 a2) (0 : Int)) ((0 : Nat)) (cond (bne (shape_Check b0 b1 b2) (0 : Int)) ((0 : Nat)) (cond (vec_Unit_2 (vec_Sub_0 (Nr.bx (near_cores a0 a1 a2 b0 b1 b2)) (Nr.by' (near_cores a0 a1 a2 b0 b1 b2)) (Nr.ax (near_cores a0 a1 a2 b0 b1 b2)) (Nr.ay (near_cores a0 a1 a2 b0 b1 b2))) (vec_Sub_1 (Nr.bx (near_cores a0 a1 a2 b0 b1 b2)) (Nr.by' (near_cores a0 a1 a2 b0 b1 b2)) (Nr.ax (near_cores a0 a1 a2 b0 b1 b2)) (Nr.ay (near_cores a0 a1 a2 b0 b1 b2)))) (vec_More_0 (Nr.ax (near_cores a0 a1 a2 b0 b1 b2)) (Nr.ay (near_cores a0 a1 a2 b0 b1 b2)) a1 (vec_Unit_0 (vec_Sub_0 (Nr.bx (near_cores a0 a1 a2 b0 b1 b2)) (Nr.by' (near_cores a0 a1 a2 b0 b1 b2)) (Nr.ax (near_cores a0 a1 a2 b0 b1 b2)) (Nr.ay (near_cores a0 a1 a2 b0 b1 b2))) (vec_Sub_1 (Nr.bx (near_cores a0 a1 a2 b0 b1 b2)) (Nr.by' (near_cores a0 a1 a2 b0 b1 b2)) (Nr.ax (near_cores a0 a1 a2 b0 b1 b2)) (Nr.ay (near_cores a0 a1 a2 b0 b1 b2)))) (vec_Unit_1 (vec_Sub_0 (Nr.bx (near_cores a0 a1 a2 b0 b1 b2)) (Nr.by' (near_cores a0 a1 a2 b0 b1 b2)) (Nr.ax (near_cores a0 a1 a2 b0 b1 b2)) (Nr.ay (near_cores a0 a1 a2 b0 b1 b2))) (vec_Sub_1 (Nr.bx (near_cores a0 a1 a2 b0 b1 b2)) (Nr.by' (near_cores a0 a1 a2 b0 b1 b2)) (Nr.ax (near_cores a0 a1 a2 b0 b1 b2)) (Nr.ay (near_cores a0 a1 a2 b0 b1 b2))))) (Nr.ax (near_cores a0 a1 a2 b0 b1 b2))))
def near_Shapes_2 (a0 : Int) (a1 : Nat) (a2 : List (Nat × Nat)) (b0 : Int) (b1 : Nat) (b2 : List (Nat × Nat)) : Nat := cond (bne (shape_Check a0 a1 a2) (0 : Int)) ((0 : Nat)) (cond (bne (shape_Check b0 b1 b2) (0 : Int)) ((0 : Nat)) (cond (vec_Unit_2 (vec_Sub_0 (Nr.bx (near_cores a0 a1 a2 b0 b1 b2)) (Nr.by' (near_cores a0 a1 a2 b0 b1 b2)) (Nr.ax (near_cores a0 a1 a2 b0 b1 b2)) (Nr.ay (near_cores a0 a1 a2 b0 b1 b2))) (vec_Sub_1 (Nr.bx (near_cores a0 a1 a2 b0 b1 b2)) (Nr.by' (near_cores a0 a1 a2 b0 b1 b2)) (Nr.ax (near_cores a0 a1 a2 b0 b1 b2)) (Nr.ay (near_cores a0 a1 a2 b0 b1 b2)))) (vec_More_1 (Nr.ax (near_cores a0 a1 a2 b0 b1 b2)) (Nr.ay (near_cores a0 a1 a2 b0 b1 b2)) a1 (vec_Unit_0 (vec_Sub_0 (Nr.bx (near_cores a0 a1 a2 b0 b1 b2)) (Nr.by' (near_cores a0 a1 a2 b0 b1 b2)) (Nr.ax (near_cores a0 a1 a2 b0 b1 b2)) (Nr.ay (near_cores a0 a1 a2 b0 b1 b2))) (vec_Sub_1 (Nr.bx (near_cores a0 a1 a2 b0 b1 b2)) (Nr.by' (near_cores a0 a1 a2 b0 b1 b2)) (Nr.ax (near_cores a0 a1 a2 b0 b1 b2)) (Nr.ay (near_cores a0 a1 a2 b0 b1 b2)))) (vec_Unit_1 (vec_Sub_0 (Nr.bx (near_cores a0 a1 a2 b0 b1 b2)) (Nr.by' (near_cores a0 a1 a2 b0 b1 b2)) (Nr.ax (near_cores a0 a1 a2 b0 b1 b2)) (Nr.ay (near_cores a0 a1 a2 b0 b1 b2))) (vec_Sub_1 (Nr.bx (near_cores a0 a1 a2 b0 b1 b2)) (Nr.by' (near_cores a0 a1 a2 b0 b1 b2)) (Nr.ax (near_cores a0 a1 a2 b0 b1 b2)) (Nr.ay (near_cores a0 a1 a2 b0 b1 b2))))) (Nr.ay (near_cores a0 a1 a2 b0 b1 b2))))
def near_Shapes_3 (a0 : Int) (a1 : Nat) (a2 : List (Nat × Nat)) (b0 : Int) (b1 : Nat) (b2 : List (Nat × Nat)) : Nat := cond (bne (shape_Check a0 a1 a2) (0 : Int)) ((0 : Nat)) (cond (bne (shape_Check b0 b1 b2) (0 : Int)) ((0 : Nat)) (cond (vec_Unit_2 (vec_Sub_0 (Nr.bx (near_cores a0 a1 a2 b0 b1 b2)) (Nr.by' (near_cores a0 a1 a2 b0 b1 b2)) (Nr.ax (near_cores a0 a1 a2 b0 b1 b2)) (Nr.ay (near_cores a0 a1 a2 b0 b1 b2))) (vec_Sub_1 (Nr.bx (near_cores a0 a1 a2 b0 b1 b2)) (Nr.by' (near_cores a0 a1 a2 b0 b1 b2)) (Nr.ax (near_cores a0 a1 a2 b0 b1 b2)) (Nr.ay (near_cores a0 a1 a2 b0 b1 b2)))) (vec_More_0 (Nr.bx (near_cores a0 a1 a2 b0 b1 b2)) (Nr.by' (near_cores a0 a1 a2 b0 b1 b2)) (fneg b1) (vec_Unit_0 (vec_Sub_0 (Nr.bx (near_cores a0 a1 a2 b0 b1 b2)) (Nr.by' (near_cores a0 a1 a2 b0 b1 b2)) (Nr.ax (near_cores a0 a1 a2 b0 b1 b2)) (Nr.ay (near_cores a0 a1 a2 b0 b1 b2))) (vec_Sub_1 (Nr.bx (near_cores a0 a1 a2 b0 b1 b2)) (Nr.by' (near_cores a0 a1 a2 b0 b1 b2)) (Nr.ax (near_cores a0 a1 a2 b0 b1 b2)) (Nr.ay (near_cores a0 a1 a2 b0 b1 b2)))) (vec_Unit_1 (vec_Sub_0 (Nr.bx (near_cores a0 a1 a2 b0 b1 b2)) (Nr.by' (near_cores a0 a1 a2 b0 b1 b2)) (Nr.ax (near_cores a0 a1 a2 b0 b1 b2)) (Nr.ay (near_cores a0 a1 a2 b0 b1 b2))) (vec_Sub_1 (Nr.bx (near_cores a0 a1 a2 b0 b1 b2)) (Nr.by' (near_cores a0 a1 a2 b0 b1 b2)) (Nr.ax (near_cores a0 a1 a2 b0 b1 b2)) (Nr.ay (near_cores a0 a1 a2 b0 b1 b2))))) (Nr.bx (near_cores a0 a1 a2 b0 b1 b2))))
def near_Shapes_4 (a0 : Int) (a1 : Nat) (a2 : List (Nat × Nat)) (b0 : Int) (b1 : Nat) (b2 : List (Nat × Nat)) : Nat := cond (bne (shape_Check a0 a1 a2) (0 : Int)) ((0 : Nat)) (cond (bne (shape_Check b0 b1 b2) (0 : Int)) ((0 : Nat)) (cond (vec_Unit_2 (vec_Sub_0 (Nr.bx (near_cores a0 a1 a2 b0 b1 b2)) (Nr.by' (near_cores a0 a1 a2 b0 b1 b2)) (Nr.ax (near_cores a0 a1 a2 b0 b1 b2)) (Nr.ay (near_cores a0 a1 a2 b0 b1 b2))) (vec_Sub_1 (Nr.bx (near_cores a0 a1 a2 b0 b1 b2)) (Nr.by' (near_cores a0 a1 a2 b0 b1 b2)) (Nr.ax (near_cores a0 a1 a2 b0 b1 b2)) (Nr.ay (near_cores a0 a1 a2 b0 b1 b2)))) (vec_More_1 (Nr.bx (near_cores a0 a1 a2 b0 b1 b2)) (Nr.by' (near_cores a0 a1 a2 b0 b1 b2)) (fneg b1) (vec_Unit_0 (vec_Sub_0 (Nr.bx (near_cores a0 a1 a2 b0 b1 b2)) (Nr.by' (near_cores a0 a1 a2 b0 b1 b2)) (Nr.ax (near_cores a0 a1 a2 b0 b1 b2)) (Nr.ay (near_cores a0 a1 a2 b0 b1 b2))) (vec_Sub_1 (Nr.bx (near_cores a0 a1 a2 b0 b1 b2)) (Nr.by' (near_cores a0 a1 a2 b0 b1 b2)) (Nr.ax (near_cores a0 a1 a2 b0 b1 b2)) (Nr.ay (near_cores a0 a1 a2 b0 b1 b2)))) (vec_Unit_1 (vec_Sub_0 (Nr.bx (near_cores a0 a1 a2 b0 b1 b2)) (Nr.by' (near_cores a0 a1 a2 b0 b1 b2)) (Nr.ax (near_cores a0 a1 a2 b0 b1 b2)) (Nr.ay (near_cores a0 a1 a2 b0 b1 b2))) (vec_Sub_1 (Nr.bx (near_cores a0 a1 a2 b0 b1 b2)) (Nr.by' (near_cores a0 a1 a2 b0 b1 b2)) (Nr.ax (near_cores a0 a1 a2 b0 b1 b2)) (Nr.ay (near_cores a0 a1 a2 b0 b1 b2))))) (Nr.by' (near_cores a0 a1 a2 b0 b1 b2))))
def near_Shapes_5 (a0 : Int) (a1 : Nat) (a2 : List (Nat × Nat)) (b0 : Int) (b1 : Nat) (b2 : List (Nat × Nat)) : Int := cond (bne (shape_Check a0 a1 a2) (0 : Int)) (shape_Check a0 a1 a2) (cond (bne (shape_Check b0 b1 b2) (0 : Int)) (shape_Check b0 b1 b2) ((0 : Int)))
def d7 : List AT → Option AT
  | [.av (.agg [.int .u8 a0, .flt a1, .sl a2]), .av (.agg [.int .u8 b0, .flt b1, .sl b2])] => some (.tup [(.agg [(.flt (near_Shapes_0 a0 a1 a2 b0 b1 b2)), (.flt (near_Shapes_1 a0 a1 a2 b0 b1 b2)), (.flt (near_Shapes_2 a0 a1 a2 b0 b1 b2)), (.flt (near_Shapes_3 a0 a1 a2 b0 b1 b2)), (.flt (near_Shapes_4 a0 a1 a2 b0 b1 b2))]), (.one (.int .i64 (near_Shapes_5 a0 a1 a2 b0 b1 b2)))])
  | _ => none
def e7 : Ent := .of d7
theorem c7 : CallOk Pr 7 e7 := by
  refine callOk_auto (T := tb 66 [(8, e8), (13, e13), (41, e41), (42, e42), (43, e43)] [] []) (tb_ok (fnCons c8 (fnCons c13 (fnCons c41 (fnCons c42 (fnCons c43 (fnNil _)))))) (fnBNil _)) Try.func7 rfl (by decide) rfl rfl (Ent.of_k d7) ?_
  intro l r h hb
  change d7 l = some r at h
  unfold d7 at h
  split at h
  · rename_i a0 a1 a2 b0 b1 b2
    cases h
    refine ⟨rfl, rfl, by_kernel (q := cond (bne (shape_Check a0 a1 a2) (0 : Int)) (AT.tup [(.agg [(.flt ((0 : Nat))), (.flt ((0 : Nat))), (.flt ((0 : Nat))), (.flt ((0 : Nat))), (.flt ((0 : Nat)))]), (.one (.int .i64 (shape_Check a0 a1 a2)))] = (.tup [(.agg [(.flt (near_Shapes_0 a0 a1 a2 b0 b1 b2)), (.flt (near_Shapes_1 a0 a1 a2 b0 b1 b2)), (.flt (near_Shapes_2 a0 a1 a2 b0 b1 b2)), (.flt (near_Shapes_3 a0 a1 a2 b0 b1 b2)), (.flt (near_Shapes_4 a0 a1 a2 b0 b1 b2))]), (.one (.int .i64 (near_Shapes_5 a0 a1 a2 b0 b1 b2)))])) (cond (bne (shape_Check b0 b1 b2) (0 : Int)) (AT.tup [(.agg [(.flt ((0 : Nat))), (.flt ((0 : Nat))), (.flt ((0 : Nat))), (.flt ((0 : Nat))), (.flt ((0 : Nat)))]), (.one (.int .i64 (shape_Check b0 b1 b2)))] = (.tup [(.agg [(.flt (near_Shapes_0 a0 a1 a2 b0 b1 b2)), (.flt (near_Shapes_1 a0 a1 a2 b0 b1 b2)), (.flt (near_Shapes_2 a0 a1 a2 b0 b1 b2)), (.flt (near_Shapes_3 a0 a1 a2 b0 b1 b2)), (.flt (near_Shapes_4 a0 a1 a2 b0 b1 b2))]), (.one (.int .i64 (near_Shapes_5 a0 a1 a2 b0 b1 b2)))])) (cond (Bool.and (Nat.ble (1 : Nat) (List.length a2)) (Nat.ble (1 : Nat) (List.length b2))) (cond (vec_Unit_2 (vec_Sub_0 (Nr.bx (near_cores a0 a1 a2 b0 b1 b2)) (Nr.by' (near_cores a0 a1 a2 b0 b1 b2)) (Nr.ax (near_cores a0 a1 a2 b0 b1 b2)) (Nr.ay (near_cores a0 a1 a2 b0 b1 b2))) (vec_Sub_1 (Nr.bx (near_cores a0 a1 a2 b0 b1 b2)) (Nr.by' (near_cores a0 a1 a2 b0 b1 b2)) (Nr.ax (near_cores a0 a1 a2 b0 b1 b2)) (Nr.ay (near_cores a0 a1 a2 b0 b1 b2)))) (cond (fGt (fsub (Nr.far (near_cores a0 a1 a2 b0 b1 b2)) (fadd a1 b1)) (0 : Nat)) (AT.tup [(.agg [(.flt (fsub (Nr.far (near_cores a0 a1 a2 b0 b1 b2)) (fadd a1 b1))), (.flt (vec_More_0 (Nr.ax (near_cores a0 a1 a2 b0 b1 b2)) (Nr.ay (near_cores a0 a1 a2 b0 b1 b2)) a1 (vec_Unit_0 (vec_Sub_0 (Nr.bx (near_cores a0 a1 a2 b0 b1 b2)) (Nr.by' (near_cores a0 a1 a2 b0 b1 b2)) (Nr.ax (near_cores a0 a1 a2 b0 b1 b2)) (Nr.ay (near_cores a0 a1 a2 b0 b1 b2))) (vec_Sub_1 (Nr.bx (near_cores a0 a1 a2 b0 b1 b2)) (Nr.by' (near_cores a0 a1 a2 b0 b1 b2)) (Nr.ax (near_cores a0 a1 a2 b0 b1 b2)) (Nr.ay (near_cores a0 a1 a2 b0 b1 b2)))) (vec_Unit_1 (vec_Sub_0 (Nr.bx (near_cores a0 a1 a2 b0 b1 b2)) (Nr.by' (near_cores a0 a1 a2 b0 b1 b2)) (Nr.ax (near_cores a0 a1 a2 b0 b1 b2)) (Nr.ay (near_cores a0 a1 a2 b0 b1 b2))) (vec_Sub_1 (Nr.bx (near_cores a0 a1 a2 b0 b1 b2)) (Nr.by' (near_cores a0 a1 a2 b0 b1 b2)) (Nr.ax (near_cores a0 a1 a2 b0 b1 b2)) (Nr.ay (near_cores a0 a1 a2 b0 b1 b2)))))), (.flt (vec_More_1 (Nr.ax (near_cores a0 a1 a2 b0 b1 b2)) (Nr.ay (near_cores a0 a1 a2 b0 b1 b2)) a1 (vec_Unit_0 (vec_Sub_0 (Nr.bx (near_cores a0 a1 a2 b0 b1 b2)) (Nr.by' (near_cores a0 a1 a2 b0 b1 b2)) (Nr.ax (near_cores a0 a1 a2 b0 b1 b2)) (Nr.ay (near_cores a0 a1 a2 b0 b1 b2))) (vec_Sub_1 (Nr.bx (near_cores a0 a1 a2 b0 b1 b2)) (Nr.by' (near_cores a0 a1 a2 b0 b1 b2)) (Nr.ax (near_cores a0 a1 a2 b0 b1 b2)) (Nr.ay (near_cores a0 a1 a2 b0 b1 b2)))) (vec_Unit_1 (vec_Sub_0 (Nr.bx (near_cores a0 a1 a2 b0 b1 b2)) (Nr.by' (near_cores a0 a1 a2 b0 b1 b2)) (Nr.ax (near_cores a0 a1 a2 b0 b1 b2)) (Nr.ay (near_cores a0 a1 a2 b0 b1 b2))) (vec_Sub_1 (Nr.bx (near_cores a0 a1 a2 b0 b1 b2)) (Nr.by' (near_cores a0 a1 a2 b0 b1 b2)) (Nr.ax (near_cores a0 a1 a2 b0 b1 b2)) (Nr.ay (near_cores a0 a1 a2 b0 b1 b2)))))), (.flt (vec_More_0 (Nr.bx (near_cores a0 a1 a2 b0 b1 b2)) (Nr.by' (near_cores a0 a1 a2 b0 b1 b2)) (fneg b1) (vec_Unit_0 (vec_Sub_0 (Nr.bx (near_cores a0 a1 a2 b0 b1 b2)) (Nr.by' (near_cores a0 a1 a2 b0 b1 b2)) (Nr.ax (near_cores a0 a1 a2 b0 b1 b2)) (Nr.ay (near_cores a0 a1 a2 b0 b1 b2))) (vec_Sub_1 (Nr.bx (near_cores a0 a1 a2 b0 b1 b2)) (Nr.by' (near_cores a0 a1 a2 b0 b1 b2)) (Nr.ax (near_cores a0 a1 a2 b0 b1 b2)) (Nr.ay (near_cores a0 a1 a2 b0 b1 b2)))) (vec_Unit_1 (vec_Sub_0 (Nr.bx (near_cores a0 a1 a2 b0 b1 b2)) (Nr.by' (near_cores a0 a1 a2 b0 b1 b2)) (Nr.ax (near_cores a0 a1 a2 b0 b1 b2)) (Nr.ay (near_cores a0 a1 a2 b0 b1 b2))) (vec_Sub_1 (Nr.bx (near_cores a0 a1 a2 b0 b1 b2)) (Nr.by' (near_cores a0 a1 a2 b0 b1 b2)) (Nr.ax (near_cores a0 a1 a2 b0 b1 b2)) (Nr.ay (near_cores a0 a1 a2 b0 b1 b2)))))), (.flt (vec_More_1 (Nr.bx (near_cores a0 a1 a2 b0 b1 b2)) (Nr.by' (near_cores a0 a1 a2 b0 b1 b2)) (fneg b1) (vec_Unit_0 (vec_Sub_0 (Nr.bx (near_cores a0 a1 a2 b0 b1 b2)) (Nr.by' (near_cores a0 a1 a2 b0 b1 b2)) (Nr.ax (near_cores a0 a1 a2 b0 b1 b2)) (Nr.ay (near_cores a0 a1 a2 b0 b1 b2))) (vec_Sub_1 (Nr.bx (near_cores a0 a1 a2 b0 b1 b2)) (Nr.by' (near_cores a0 a1 a2 b0 b1 b2)) (Nr.ax (near_cores a0 a1 a2 b0 b1 b2)) (Nr.ay (near_cores a0 a1 a2 b0 b1 b2)))) (vec_Unit_1 (vec_Sub_0 (Nr.bx (near_cores a0 a1 a2 b0 b1 b2)) (Nr.by' (near_cores a0 a1 a2 b0 b1 b2)) (Nr.ax (near_cores a0 a1 a2 b0 b1 b2)) (Nr.ay (near_cores a0 a1 a2 b0 b1 b2))) (vec_Sub_1 (Nr.bx (near_cores a0 a1 a2 b0 b1 b2)) (Nr.by' (near_cores a0 a1 a2 b0 b1 b2)) (Nr.ax (near_cores a0 a1 a2 b0 b1 b2)) (Nr.ay (near_cores a0 a1 a2 b0 b1 b2))))))]), (.one (.int .i64 ((0 : Int))))] = (.tup [(.agg [(.flt (near_Shapes_0 a0 a1 a2 b0 b1 b2)), (.flt (near_Shapes_1 a0 a1 a2 b0 b1 b2)), (.flt (near_Shapes_2 a0 a1 a2 b0 b1 b2)), (.flt (near_Shapes_3 a0 a1 a2 b0 b1 b2)), (.flt (near_Shapes_4 a0 a1 a2 b0 b1 b2))]), (.one (.int .i64 (near_Shapes_5 a0 a1 a2 b0 b1 b2)))])) (AT.tup [(.agg [(.flt ((0 : Nat))), (.flt (vec_More_0 (Nr.ax (near_cores a0 a1 a2 b0 b1 b2)) (Nr.ay (near_cores a0 a1 a2 b0 b1 b2)) a1 (vec_Unit_0 (vec_Sub_0 (Nr.bx (near_cores a0 a1 a2 b0 b1 b2)) (Nr.by' (near_cores a0 a1 a2 b0 b1 b2)) (Nr.ax (near_cores a0 a1 a2 b0 b1 b2)) (Nr.ay (near_cores a0 a1 a2 b0 b1 b2))) (vec_Sub_1 (Nr.bx (near_cores a0 a1 a2 b0 b1 b2)) (Nr.by' (near_cores a0 a1 a2 b0 b1 b2)) (Nr.ax (near_cores a0 a1 a2 b0 b1 b2)) (Nr.ay (near_cores a0 a1 a2 b0 b1 b2)))) (vec_Unit_1 (vec_Sub_0 (Nr.bx (near_cores a0 a1 a2 b0 b1 b2)) (Nr.by' (near_cores a0 a1 a2 b0 b1 b2)) (Nr.ax (near_cores a0 a1 a2 b0 b1 b2)) (Nr.ay (near_cores a0 a1 a2 b0 b1 b2))) (vec_Sub_1 (Nr.bx (near_cores a0 a1 a2 b0 b1 b2)) (Nr.by' (near_cores a0 a1 a2 b0 b1 b2)) (Nr.ax (near_cores a0 a1 a2 b0 b1 b2)) (Nr.ay (near_cores a0 a1 a2 b0 b1 b2)))))), (.flt (vec_More_1 (Nr.ax (near_cores a0 a1 a2 b0 b1 b2)) (Nr.ay (near_cores a0 a1 a2 b0 b1 b2)) a1 (vec_Unit_0 (vec_Sub_0 (Nr.bx (near_cores a0 a1 a2 b0 b1 b2)) (Nr.by' (near_cores a0 a1 a2 b0 b1 b2)) (Nr.ax (near_cores a0 a1 a2 b0 b1 b2)) (Nr.ay (near_cores a0 a1 a2 b0 b1 b2))) (vec_Sub_1 (Nr.bx (near_cores a0 a1 a2 b0 b1 b2)) (Nr.by' (near_cores a0 a1 a2 b0 b1 b2)) (Nr.ax (near_cores a0 a1 a2 b0 b1 b2)) (Nr.ay (near_cores a0 a1 a2 b0 b1 b2)))) (vec_Unit_1 (vec_Sub_0 (Nr.bx (near_cores a0 a1 a2 b0 b1 b2)) (Nr.by' (near_cores a0 a1 a2 b0 b1 b2)) (Nr.ax (near_cores a0 a1 a2 b0 b1 b2)) (Nr.ay (near_cores a0 a1 a2 b0 b1 b2))) (vec_Sub_1 (Nr.bx (near_cores a0 a1 a2 b0 b1 b2)) (Nr.by' (near_cores a0 a1 a2 b0 b1 b2)) (Nr.ax (near_cores a0 a1 a2 b0 b1 b2)) (Nr.ay (near_cores a0 a1 a2 b0 b1 b2)))))), (.flt (vec_More_0 (Nr.bx (near_cores a0 a1 a2 b0 b1 b2)) (Nr.by' (near_cores a0 a1 a2 b0 b1 b2)) (fneg b1) (vec_Unit_0 (vec_Sub_0 (Nr.bx (near_cores a0 a1 a2 b0 b1 b2)) (Nr.by' (near_cores a0 a1 a2 b0 b1 b2)) (Nr.ax (near_cores a0 a1 a2 b0 b1 b2)) (Nr.ay (near_cores a0 a1 a2 b0 b1 b2))) (vec_Sub_1 (Nr.bx (near_cores a0 a1 a2 b0 b1 b2)) (Nr.by' (near_cores a0 a1 a2 b0 b1 b2)) (Nr.ax (near_cores a0 a1 a2 b0 b1 b2)) (Nr.ay (near_cores a0 a1 a2 b0 b1 b2)))) (vec_Unit_1 (vec_Sub_0 (Nr.bx (near_cores a0 a1 a2 b0 b1 b2)) (Nr.by' (near_cores a0 a1 a2 b0 b1 b2)) (Nr.ax (near_cores a0 a1 a2 b0 b1 b2)) (Nr.ay (near_cores a0 a1 a2 b0 b1 b2))) (vec_Sub_1 (Nr.bx (near_cores a0 a1 a2 b0 b1 b2)) (Nr.by' (near_cores a0 a1 a2 b0 b1 b2)) (Nr.ax (near_cores a0 a1 a2 b0 b1 b2)) (Nr.ay (near_cores a0 a1 a2 b0 b1 b2)))))), (.flt (vec_More_1 (Nr.bx (near_cores a0 a1 a2 b0 b1 b2)) (Nr.by' (near_cores a0 a1 a2 b0 b1 b2)) (fneg b1) (vec_Unit_0 (vec_Sub_0 (Nr.bx (near_cores a0 a1 a2 b0 b1 b2)) (Nr.by' (near_cores a0 a1 a2 b0 b1 b2)) (Nr.ax (near_cores a0 a1 a2 b0 b1 b2)) (Nr.ay (near_cores a0 a1 a2 b0 b1 b2))) (vec_Sub_1 (Nr.bx (near_cores a0 a1 a2 b0 b1 b2)) (Nr.by' (near_cores a0 a1 a2 b0 b1 b2)) (Nr.ax (near_cores a0 a1 a2 b0 b1 b2)) (Nr.ay (near_cores a0 a1 a2 b0 b1 b2)))) (vec_Unit_1 (vec_Sub_0 (Nr.bx (near_cores a0 a1 a2 b0 b1 b2)) (Nr.by' (near_cores a0 a1 a2 b0 b1 b2)) (Nr.ax (near_cores a0 a1 a2 b0 b1 b2)) (Nr.ay (near_cores a0 a1 a2 b0 b1 b2))) (vec_Sub_1 (Nr.bx (near_cores a0 a1 a2 b0 b1 b2)) (Nr.by' (near_cores a0 a1 a2 b0 b1 b2)) (Nr.ax (near_cores a0 a1 a2 b0 b1 b2)) (Nr.ay (near_cores a0 a1 a2 b0 b1 b2))))))]), (.one (.int .i64 ((0 : Int))))] = (.tup [(.agg [(.flt (near_Shapes_0 a0 a1 a2 b0 b1 b2)), (.flt (near_Shapes_1 a0 a1 a2 b0 b1 b2)), (.flt (near_Shapes_2 a0 a1 a2 b0 b1 b2)), (.flt (near_Shapes_3 a0 a1 a2 b0 b1 b2)), (.flt (near_Shapes_4 a0 a1 a2 b0 b1 b2))]), (.one (.int .i64 (near_Shapes_5 a0 a1 a2 b0 b1 b2)))]))) (cond (fGt (fsub (Nr.far (near_cores a0 a1 a2 b0 b1 b2)) (fadd a1 b1)) (0 : Nat)) (AT.tup [(.agg [(.flt (fsub (Nr.far (near_cores a0 a1 a2 b0 b1 b2)) (fadd a1 b1))), (.flt (Nr.ax (near_cores a0 a1 a2 b0 b1 b2))), (.flt (Nr.ay (near_cores a0 a1 a2 b0 b1 b2))), (.flt (Nr.bx (near_cores a0 a1 a2 b0 b1 b2))), (.flt (Nr.by' (near_cores a0 a1 a2 b0 b1 b2)))]), (.one (.int .i64 ((0 : Int))))] = (.tup [(.agg [(.flt (near_Shapes_0 a0 a1 a2 b0 b1 b2)), (.flt (near_Shapes_1 a0 a1 a2 b0 b1 b2)), (.flt (near_Shapes_2 a0 a1 a2 b0 b1 b2)), (.flt (near_Shapes_3 a0 a1 a2 b0 b1 b2)), (.flt (near_Shapes_4 a0 a1 a2 b0 b1 b2))]), (.one (.int .i64 (near_Shapes_5 a0 a1 a2 b0 b1 b2)))])) (AT.tup [(.agg [(.flt ((0 : Nat))), (.flt (Nr.ax (near_cores a0 a1 a2 b0 b1 b2))), (.flt (Nr.ay (near_cores a0 a1 a2 b0 b1 b2))), (.flt (Nr.bx (near_cores a0 a1 a2 b0 b1 b2))), (.flt (Nr.by' (near_cores a0 a1 a2 b0 b1 b2)))]), (.one (.int .i64 ((0 : Int))))] = (.tup [(.agg [(.flt (near_Shapes_0 a0 a1 a2 b0 b1 b2)), (.flt (near_Shapes_1 a0 a1 a2 b0 b1 b2)), (.flt (near_Shapes_2 a0 a1 a2 b0 b1 b2)), (.flt (near_Shapes_3 a0 a1 a2 b0 b1 b2)), (.flt (near_Shapes_4 a0 a1 a2 b0 b1 b2))]), (.one (.int .i64 (near_Shapes_5 a0 a1 a2 b0 b1 b2)))])))) (False)))) (by kernel_rfl) ?_⟩
    unfold near_Shapes_0 near_Shapes_1 near_Shapes_2 near_Shapes_3 near_Shapes_4 near_Shapes_5
    cases hc1 : (bne (shape_Check a0 a1 a2) (0 : Int)) with
    | true =>
        rfl
    | false =>
        cases hc2 : (bne (shape_Check b0 b1 b2) (0 : Int)) with
        | true =>
            rfl
        | false =>
            cases hc3 : (Bool.and (Nat.ble (1 : Nat) (List.length a2)) (Nat.ble (1 : Nat) (List.length b2))) with
            | true =>
                cases hc4 : (vec_Unit_2 (vec_Sub_0 (Nr.bx (near_cores a0 a1 a2 b0 b1 b2)) (Nr.by' (near_cores a0 a1 a2 b0 b1 b2)) (Nr.ax (near_cores a0 a1 a2 b0 b1 b2)) (Nr.ay (near_cores a0 a1 a2 b0 b1 b2))) (vec_Sub_1 (Nr.bx (near_cores a0 a1 a2 b0 b1 b2)) (Nr.by' (near_cores a0 a1 a2 b0 b1 b2)) (Nr.ax (near_cores a0 a1 a2 b0 b1 b2)) (Nr.ay (near_cores a0 a1 a2 b0 b1 b2)))) with
                | true =>
                    cases hc5 : (fGt (fsub (Nr.far (near_cores a0 a1 a2 b0 b1 b2)) (fadd a1 b1)) (0 : Nat)) with
                    | true =>
                        rfl
                    | false =>
                        rfl
                | false =>
                    cases hc6 : (fGt (fsub (Nr.far (near_cores a0 a1 a2 b0 b1 b2)) (fadd a1 b1)) (0 : Nat)) with
                    | true =>
                        rfl
                    | false =>
                        rfl
            | false =>
                exact ckA hc1 hc2 hc3
  · cases h

end Go.Proofs.Ythopjahoaljhaaa.X

/-! ## Contracts of functions of the program, laid out by a program of mine (gen.py): what each gives, as a function of its arguments; floats up to the bits of a NaN. -/
set_option linter.unusedVariables false
set_option linter.unusedSimpArgs false
set_option maxRecDepth 100000
namespace Go.Proofs.Ythopjahoaljhaaa.X
open Go Go.RowKit

/-- tumble/near.Over -/
def near_Over_0 (a0 : Int) (a1 : Nat) (a2 : List (Nat × Nat)) (b0 : Int) (b1 : Nat) (b2 : List (Nat × Nat)) : Bool := ((BEq.beq (near_Shapes_5 a0 a1 a2 b0 b1 b2) (0 : Int)) && (fEq (near_Shapes_0 a0 a1 a2 b0 b1 b2) (0 : Nat)))
def near_Over_1 (a0 : Int) (a1 : Nat) (a2 : List (Nat × Nat)) (b0 : Int) (b1 : Nat) (b2 : List (Nat × Nat)) : Int := near_Shapes_5 a0 a1 a2 b0 b1 b2
def d9 : List AT → Option AT
  | [.av (.agg [.int .u8 a0, .flt a1, .sl a2]), .av (.agg [.int .u8 b0, .flt b1, .sl b2])] => some (.tup [(.one (.bool (near_Over_0 a0 a1 a2 b0 b1 b2))), (.one (.int .i64 (near_Over_1 a0 a1 a2 b0 b1 b2)))])
  | _ => none
def e9 : Ent := .of d9
theorem c9 : CallOk Pr 9 e9 := by
  refine callOk_auto (T := tb 22 [(7, e7)] [] []) (tb_ok (fnCons c7 (fnNil _)) (fnBNil _)) Try.func9 rfl (by decide) rfl rfl (Ent.of_k d9) ?_
  intro l r h hb
  change d9 l = some r at h
  unfold d9 at h
  split at h
  · rename_i a0 a1 a2 b0 b1 b2
    cases h
    refine ⟨rfl, rfl, by_kernel (q := cond (BEq.beq (near_Shapes_5 a0 a1 a2 b0 b1 b2) (0 : Int)) (cond (fEq (near_Shapes_0 a0 a1 a2 b0 b1 b2) (0 : Nat)) (AT.tup [(.one (.bool Bool.true)), (.one (.int .i64 (near_Shapes_5 a0 a1 a2 b0 b1 b2)))] = (.tup [(.one (.bool (near_Over_0 a0 a1 a2 b0 b1 b2))), (.one (.int .i64 (near_Over_1 a0 a1 a2 b0 b1 b2)))])) (AT.tup [(.one (.bool Bool.false)), (.one (.int .i64 (near_Shapes_5 a0 a1 a2 b0 b1 b2)))] = (.tup [(.one (.bool (near_Over_0 a0 a1 a2 b0 b1 b2))), (.one (.int .i64 (near_Over_1 a0 a1 a2 b0 b1 b2)))]))) (AT.tup [(.one (.bool Bool.false)), (.one (.int .i64 (near_Shapes_5 a0 a1 a2 b0 b1 b2)))] = (.tup [(.one (.bool (near_Over_0 a0 a1 a2 b0 b1 b2))), (.one (.int .i64 (near_Over_1 a0 a1 a2 b0 b1 b2)))]))) (by kernel_rfl) ?_⟩
    unfold near_Over_0 near_Over_1
    cases (BEq.beq (near_Shapes_5 a0 a1 a2 b0 b1 b2) (0 : Int)) with
    | true =>
        cases (fEq (near_Shapes_0 a0 a1 a2 b0 b1 b2) (0 : Nat)) with
        | true =>
            rfl
        | false =>
            rfl
    | false =>
        rfl
  · cases h

end Go.Proofs.Ythopjahoaljhaaa.X
