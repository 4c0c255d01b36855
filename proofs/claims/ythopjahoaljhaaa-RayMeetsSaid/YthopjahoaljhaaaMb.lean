/- The executor's tables for this program: what is known of its types. (and what goes with it: 12 parts.) -/
import Derived.Test.YthopjahoaljhaaaMa
import Derived.Test.YthopjahoaljhaaaProg
import Derived.Laws.StructEq
import Derived.KernelRfl
import Derived.LoopN
/-! ## The executor's tables for this program: what is known of its types. -/
set_option linter.unusedVariables false
set_option linter.unusedSimpArgs false
namespace Go.Proofs.Ythopjahoaljhaaa.X
open Go Go.RowKit

noncomputable abbrev Pr : Program := Try.prog

theorem tiok {P : Program} {t : Nat} {i : TI} (zv : Value) (d : TypeDesc) (h1 : (P.info? t).map (fun i => (i.zero, i.size)) = some (some zv, i.size)) (h2 : P.underlying t = some d) (h3 : isAggD d = i.agg)
    (hz : absL zv.cells.toList = some i.zero) (zn : noNm i.zero = true)
    (str : ∀ (f off sz : Nat), i.flds[f]? = some (off, sz) → ∃ fs, P.underlying t = some (.struct fs) ∧ fs.toList.mapM (fun f => (P.info? f.type).map fun i => (f.offset, i.size)) = some i.flds)
    (eqv : i.eqf = true → P.eqGuardType P.depth t = false ∧ ∀ w (xs ys : List Nat), xs.length = i.size → ys.length = i.size →
    (Op.equal t (.agg (xs.map (Value.float .f64)).toArray) (.agg (ys.map (Value.float .f64)).toArray)).run P w = .ok (eqn xs ys) w) : TIOk P t i := by
  cases hi : P.info? t with
  | none => rw [hi] at h1; cases h1
  | some inf =>
    rw [hi] at h1
    simp only [Option.map_some, Option.some.injEq, Prod.mk.injEq] at h1
    exact ⟨⟨inf, d, zv, hi, h2, h1.2, h3, h1.1, fun C => absL_sound C hz⟩, zn, str, eqv⟩

def sflds (P : Program) (t : Nat) : Option (Option (List (Nat × Nat))) :=
  match P.underlying t with
  | some (.struct fs) => some (fs.toList.mapM fun f => (P.info? f.type).map fun i => (f.offset, i.size))
  | _ => none
theorem str_of {P : Program} {t : Nat} {l : List (Nat × Nat)} (h : sflds P t = some (some l)) : ∃ fs, P.underlying t = some (.struct fs) ∧ fs.toList.mapM (fun f => (P.info? f.type).map fun i => (f.offset, i.size)) = some l := by
  unfold sflds at h
  split at h
  · rename_i fs hfs; exact ⟨fs, hfs, Option.some.inj h⟩
  · cases h

/-- '==' of two floats inside. -/
theorem run_equalIn_float {P : Program} (w : World) (d : Nat) (t : TypeId) (a b : Nat) (h : P.underlying t = some (.float .f64)) : (Op.equalIn (d + 1) t (.float .f64 a) (.float .f64 b)).run P w = .ok (fEq a b) w := by
  simp [Op.equalIn, run_underlying h, Op.floatEq, fEq, FloatKind.format, F64]

theorem i22 : TIOk Pr 22 ⟨1, false, [], [.flt 0], false⟩ := tiok (.float .f64 0) (.float .f64) (by kernel_rfl) (by kernel_rfl) rfl (by kernel_rfl) rfl (by simp) (by simp)
theorem i3 : TIOk Pr 3 ⟨1, false, [], [.int .i64 0], false⟩ := tiok (.int .i64 0) (.int .i64) (by kernel_rfl) (by kernel_rfl) rfl (by kernel_rfl) rfl (by simp) (by simp)
theorem i4 : TIOk Pr 4 ⟨1, false, [], [.bool false], false⟩ := tiok (.bool false) .bool (by kernel_rfl) (by kernel_rfl) rfl (by kernel_rfl) rfl (by simp) (by simp)
theorem i5 : TIOk Pr 5 ⟨1, false, [], [.int .u8 0], false⟩ := tiok (.int .u8 0) (.int .u8) (by kernel_rfl) (by kernel_rfl) rfl (by kernel_rfl) rfl (by simp) (by simp)
theorem i31 : TIOk Pr 31 ⟨1, false, [], [.int .i64 0], false⟩ := tiok (.int .i64 0) (.int .i64) (by kernel_rfl) (by kernel_rfl) rfl (by kernel_rfl) rfl (by simp) (by simp)
theorem i23 : TIOk Pr 23 ⟨1, false, [], [.sl []], false⟩ := tiok (.slice none 0 0) (.slice 28) (by kernel_rfl) (by kernel_rfl) rfl (by kernel_rfl) rfl (by simp) (by simp)
theorem i99 : TIOk Pr 99 ⟨1, false, [], [.cpx 0 0], false⟩ := tiok (.complex .f64 0 0) (.complex .f64) (by kernel_rfl) (by kernel_rfl) rfl (by kernel_rfl) rfl (by simp) (by simp)

theorem u22 : Pr.underlying 22 = some (.float .f64) := by kernel_rfl
theorem fl28 : (Pr.fieldsOf 28).toList.map (fun f => (f.name != "_", f.type, f.offset)) = [(true, 22, 0), (true, 22, 1)] := by kernel_rfl

theorem part_f {P : Program} {w : World} {xs : Array Value} {o : Nat} {v : Value} (h : P.underlying 22 = some (.float .f64)) (hv : xs[o]? = some v) : (part 22 xs o).run P w = .ok v w := by
  simp [part, run_isAgg h, isAggD, hv]

theorem eqF28 (d : Nat) (w : World) (a b p q : Nat) : (Op.equalIn (d + 2) 28 (.agg #[.float .f64 a, .float .f64 b]) (.agg #[.float .f64 p, .float .f64 q])).run Pr w = .ok (fEq a p && fEq b q) w := by
  rw [run_equalIn_struct w (d + 1) 28 _ _ (by kernel_rfl) (by kernel_rfl)]
  have hf : (Pr.fieldsOf 28).toList = [⟨ "X", 22, 0, false, "", "", 0⟩, ⟨ "Y", 22, 1, false, "", "", 8⟩] := by kernel_rfl
  rw [hf]
  cases h1 : fEq a p <;> cases h2 : fEq b q <;>
  simp [Op.eqFields, part_f (P := Pr) u22, run_equalIn_float (P := Pr) w d 22 _ _ u22, h1, h2]
theorem part_v {w : World} {xs : Array Value} {o : Nat} : (part 28 xs o).run Pr w = .ok (.agg (xs.extract o (o + 2))) w := by
  have h1 : Pr.underlying 28 = some (.struct (Pr.fieldsOf 28)) := by kernel_rfl
  have h2 : (Pr.info? 28).map (·.size) = some 2 := by kernel_rfl
  cases hi : Pr.info? 28 with
  | none => rw [hi] at h2; cases h2
  | some inf =>
    rw [hi] at h2
    have h3 : inf.size = 2 := Option.some.inj h2
    simp [part, run_isAgg h1, isAggD, run_sizeOf' hi, h3]

theorem eqF30 (d : Nat) (w : World) (a b c e f p q r s t : Nat) :
    (Op.equalIn (d + 3) 30 (.agg #[.float .f64 a, .float .f64 b, .float .f64 c, .float .f64 e, .float .f64 f]) (.agg #[.float .f64 p, .float .f64 q, .float .f64 r, .float .f64 s, .float .f64 t])).run Pr w = .ok (fEq a p && (fEq b q && fEq c r && (fEq e s && fEq f t))) w := by
  rw [run_equalIn_struct w (d + 2) 30 _ _ (by kernel_rfl) (by kernel_rfl)]
  have hf : (Pr.fieldsOf 30).toList = [⟨ "Far", 22, 0, false, "", "", 0⟩, ⟨ "A", 28, 1, false, "", "", 8⟩, ⟨ "B", 28, 3, false, "", "", 24⟩] := by kernel_rfl
  rw [hf]
  cases h1 : fEq a p <;> cases h2 : (fEq b q && fEq c r) <;> cases h3 : (fEq e s && fEq f t) <;>
  simp [Op.eqFields, part_f (P := Pr) u22, run_equalIn_float (P := Pr) w (d + 1) 22 _ _ u22, part_v, eqF28, h1, h2, h3]
theorem eqF60 (d : Nat) (w : World) (b c e f q r s t : Nat) :
    (Op.equalIn (d + 3) 60 (.agg #[.float .f64 b, .float .f64 c, .float .f64 e, .float .f64 f]) (.agg #[.float .f64 q, .float .f64 r, .float .f64 s, .float .f64 t])).run Pr w = .ok (fEq b q && fEq c r && (fEq e s && fEq f t)) w := by
  rw [run_equalIn_struct w (d + 2) 60 _ _ (by kernel_rfl) (by kernel_rfl)]
  have hf : (Pr.fieldsOf 60).toList = [⟨ "Low", 28, 0, false, "", "", 0⟩, ⟨ "High", 28, 2, false, "", "", 16⟩] := by kernel_rfl
  rw [hf]
  cases h2 : (fEq b q && fEq c r) <;> cases h3 : (fEq e s && fEq f t) <;>
  simp [Op.eqFields, part_v, eqF28, h2, h3]

theorem i28 : TIOk Pr 28 ⟨2, true, [(0, 1), (1, 1)], [.flt 0, .flt 0], true⟩ := by
  refine tiok (.agg #[.float .f64 0, .float .f64 0]) (.struct (Pr.fieldsOf 28)) (by kernel_rfl) (by kernel_rfl) rfl (by kernel_rfl) rfl (fun _ _ _ _ => str_of (by kernel_rfl)) (fun _ => ⟨by kernel_rfl, ?_⟩)
  intro w xs ys hx hy
  match xs, ys, hx, hy with
  | [a, b], [p, q], _, _ => rw [show eqn [a, b] [p, q] = (fEq a p && fEq b q) by simp [eqn]]; exact eqF28 9998 w a b p q
theorem vec2_ : ∃ inf zv, Pr.info? TVec = some inf ∧ inf.size = 2 ∧ inf.zero = some zv ∧ inf.bytes = 16 ∧ zv.cells = #[.float .f64 0, .float .f64 0] := by
  have h : ((Pr.info? TVec).map fun i => (i.size, i.zero, i.bytes)) = some (2, some (.agg #[.float .f64 0, .float .f64 0]), 16) := by kernel_rfl
  cases hi : Pr.info? TVec with
  | none => rw [hi] at h; cases h
  | some inf =>
    rw [hi] at h
    simp only [Option.map_some, Option.some.injEq, Prod.mk.injEq] at h
    exact ⟨inf, _, rfl, h.1, h.2.1, h.2.2, rfl⟩
theorem i30 : TIOk Pr 30 ⟨5, true, [(0, 1), (1, 2), (3, 2)], [.flt 0, .flt 0, .flt 0, .flt 0, .flt 0], true⟩ := by
  refine tiok (.agg #[.float .f64 0, .float .f64 0, .float .f64 0, .float .f64 0, .float .f64 0]) (.struct (Pr.fieldsOf 30)) (by kernel_rfl) (by kernel_rfl) rfl (by kernel_rfl) rfl (fun _ _ _ _ => str_of (by kernel_rfl)) (fun _ => ⟨by kernel_rfl, ?_⟩)
  intro w xs ys hx hy
  match xs, ys, hx, hy with
  | [a, b, c, e, f], [p, q, r, s, t], _, _ =>
    rw [show eqn [a, b, c, e, f] [p, q, r, s, t] = (fEq a p && (fEq b q && fEq c r && (fEq e s && fEq f t))) by simp [eqn, Bool.and_assoc]]
    exact eqF30 9997 w a b c e f p q r s t
theorem i60 : TIOk Pr 60 ⟨4, true, [(0, 2), (2, 2)], [.flt 0, .flt 0, .flt 0, .flt 0], true⟩ := by
  refine tiok (.agg #[.float .f64 0, .float .f64 0, .float .f64 0, .float .f64 0]) (.struct (Pr.fieldsOf 60)) (by kernel_rfl) (by kernel_rfl) rfl (by kernel_rfl) rfl (fun _ _ _ _ => str_of (by kernel_rfl)) (fun _ => ⟨by kernel_rfl, ?_⟩)
  intro w xs ys hx hy
  match xs, ys, hx, hy with
  | [b, c, e, f], [q, r, s, t], _, _ =>
    rw [show eqn [b, c, e, f] [q, r, s, t] = (fEq b q && fEq c r && (fEq e s && fEq f t)) by simp [eqn, Bool.and_assoc]]
    exact eqF60 9997 w b c e f q r s t
theorem i48 : TIOk Pr 48 ⟨5, true, [(0, 2), (2, 2), (4, 1)], [.flt 0, .flt 0, .flt 0, .flt 0, .flt 0], false⟩ :=
  tiok (.agg #[.float .f64 0, .float .f64 0, .float .f64 0, .float .f64 0, .float .f64 0]) (.struct (Pr.fieldsOf 48)) (by kernel_rfl) (by kernel_rfl) rfl (by kernel_rfl) rfl (fun _ _ _ _ => str_of (by kernel_rfl)) (by simp)
theorem i25 : TIOk Pr 25 ⟨3, true, [(0, 1), (1, 1), (2, 1)], [.int .u8 0, .flt 0, .sl []], false⟩ :=
  tiok (.agg #[.int .u8 0, .float .f64 0, .slice none 0 0]) (.struct (Pr.fieldsOf 25)) (by kernel_rfl) (by kernel_rfl) rfl (by kernel_rfl) rfl (fun _ _ _ _ => str_of (by kernel_rfl)) (by simp)
theorem i101 : TIOk Pr 101 ⟨3, true, [(0, 2), (2, 1)], [.flt 0, .flt 0, .cpx 0 0], false⟩ :=
  tiok (.agg #[.float .f64 0, .float .f64 0, .complex .f64 0 0]) (.struct (Pr.fieldsOf 101)) (by kernel_rfl) (by kernel_rfl) rfl (by kernel_rfl) rfl (fun _ _ _ _ => str_of (by kernel_rfl)) (by simp)
theorem i127 : TIOk Pr 127 ⟨3, true, [(0, 2), (2, 1)], [.flt 0, .flt 0, .flt 0], false⟩ :=
  tiok (.agg #[.float .f64 0, .float .f64 0, .float .f64 0]) (.struct (Pr.fieldsOf 127)) (by kernel_rfl) (by kernel_rfl) rfl (by kernel_rfl) rfl (fun _ _ _ _ => str_of (by kernel_rfl)) (by simp)
theorem i129 : TIOk Pr 129 ⟨5, true, [(0, 2), (2, 2), (4, 1)], [.flt 0, .flt 0, .flt 0, .flt 0, .flt 0], false⟩ :=
  tiok (.agg #[.float .f64 0, .float .f64 0, .float .f64 0, .float .f64 0, .float .f64 0]) (.struct (Pr.fieldsOf 129)) (by kernel_rfl) (by kernel_rfl) rfl (by kernel_rfl) rfl (fun _ _ _ _ => str_of (by kernel_rfl)) (by simp)
theorem i110 : TIOk Pr 110 ⟨15, true, [], [.flt 0, .flt 0, .flt 0, .flt 0, .flt 0, .flt 0, .flt 0, .flt 0, .flt 0, .flt 0, .flt 0, .flt 0, .flt 0, .flt 0, .flt 0], false⟩ :=
  tiok (.agg #[.float .f64 0, .float .f64 0, .float .f64 0, .float .f64 0, .float .f64 0, .float .f64 0, .float .f64 0, .float .f64 0, .float .f64 0, .float .f64 0, .float .f64 0, .float .f64 0, .float .f64 0, .float .f64 0, .float .f64 0]) (.array 3 30) (by kernel_rfl) (by kernel_rfl) rfl (by kernel_rfl) rfl (by simp) (by simp)

def tis : List (Nat × TI) :=
  [(28, ⟨2, true, [(0, 1), (1, 1)], [.flt 0, .flt 0], true⟩), (22, ⟨1, false, [], [.flt 0], false⟩), (25, ⟨3, true, [(0, 1), (1, 1), (2, 1)], [.int .u8 0, .flt 0, .sl []], false⟩),
   (30, ⟨5, true, [(0, 1), (1, 2), (3, 2)], [.flt 0, .flt 0, .flt 0, .flt 0, .flt 0], true⟩), (48, ⟨5, true, [(0, 2), (2, 2), (4, 1)], [.flt 0, .flt 0, .flt 0, .flt 0, .flt 0], false⟩),
   (23, ⟨1, false, [], [.sl []], false⟩), (4, ⟨1, false, [], [.bool false], false⟩), (5, ⟨1, false, [], [.int .u8 0], false⟩), (3, ⟨1, false, [], [.int .i64 0], false⟩), (31, ⟨1, false, [], [.int .i64 0], false⟩),
   (60, ⟨4, true, [(0, 2), (2, 2)], [.flt 0, .flt 0, .flt 0, .flt 0], true⟩), (99, ⟨1, false, [], [.cpx 0 0], false⟩), (101, ⟨3, true, [(0, 2), (2, 1)], [.flt 0, .flt 0, .cpx 0 0], false⟩),
   (127, ⟨3, true, [(0, 2), (2, 1)], [.flt 0, .flt 0, .flt 0], false⟩), (129, ⟨5, true, [(0, 2), (2, 2), (4, 1)], [.flt 0, .flt 0, .flt 0, .flt 0, .flt 0], false⟩),
   (110, ⟨15, true, [], [.flt 0, .flt 0, .flt 0, .flt 0, .flt 0, .flt 0, .flt 0, .flt 0, .flt 0, .flt 0, .flt 0, .flt 0, .flt 0, .flt 0, .flt 0], false⟩)]
theorem lk_mem {α : Type} : ∀ {l : List (Nat × α)} {t : Nat} {v : α}, lk l t = some v → (t, v) ∈ l
  | [], t, v, h => by simp [lk] at h
  | (k, x) :: r, t, v, h => by
    rw [lk_cons] at h
    split at h
    · rename_i e; cases h; subst e; exact List.mem_cons_self
    · exact List.mem_cons_of_mem _ (lk_mem h)
theorem tis_ok : ∀ t i, lk tis t = some i → TIOk Pr t i := by
  intro t i h
  have := lk_mem h
  simp only [tis, List.mem_cons, List.not_mem_nil, or_false, Prod.mk.injEq] at this
  rcases this with ⟨rfl, rfl⟩ | ⟨rfl, rfl⟩ | ⟨rfl, rfl⟩ | ⟨rfl, rfl⟩ | ⟨rfl, rfl⟩ | ⟨rfl, rfl⟩ | ⟨rfl, rfl⟩ | ⟨rfl, rfl⟩ | ⟨rfl, rfl⟩ | ⟨rfl, rfl⟩ | ⟨rfl, rfl⟩ | ⟨rfl, rfl⟩ | ⟨rfl, rfl⟩ | ⟨rfl, rfl⟩ | ⟨rfl, rfl⟩ | ⟨rfl, rfl⟩
  · exact i28
  · exact i22
  · exact i25
  · exact i30
  · exact i48
  · exact i23
  · exact i4
  · exact i5
  · exact i3
  · exact i31
  · exact i60
  · exact i99
  · exact i101
  · exact i127
  · exact i129
  · exact i110

def arrs : List (Nat × (Nat × Nat × Bool)) := [(110, (3, 5, true))]
def invs : List (Nat × List (String × Nat)) :=
  [(127, [("tumble/shape.check", 128), ("tumble/shape.box", 127), ("tumble/shape.far", 129), ("tumble/shape.has", 130)]),
   (129, [("tumble/shape.check", 139), ("tumble/shape.box", 138), ("tumble/shape.far", 140), ("tumble/shape.has", 141)]),
   (130, [("tumble/shape.check", 143), ("tumble/shape.box", 142), ("tumble/shape.far", 144), ("tumble/shape.has", 145)])]
def tb (n : Nat) (fn : List (Nat × Ent)) (fnB : List (Nat × EntB)) (loop : List (Nat × (St → (XE → St → Prop) → Prop))) : Tb :=
  { n := n, ti := tis, arr := arrs, fn := fn, fnB := fnB, inv := invs, loop := loop }
theorem row_mem : ∀ {l : List (String × Nat)} {n : String} {k : Nat}, target.rowOf l n = some k → (n, k) ∈ l
  | [], n, k, h => by simp [target.rowOf] at h
  | (s, k') :: r, n, k, h => by
    simp only [target.rowOf] at h
    cases hb : (s == n) with
    | true => rw [hb] at h; cases h; rw [eq_of_beq hb]; exact List.mem_cons_self
    | false => rw [hb] at h; exact List.mem_cons_of_mem _ (row_mem h)
theorem m127_check (v : Value) (w : World) : (method (Pr.types.size + Made.depth) 127 v "tumble/shape.check").run Pr w = .ok (128, v) w := by kernel_rfl
theorem m127_box (v : Value) (w : World) : (method (Pr.types.size + Made.depth) 127 v "tumble/shape.box").run Pr w = .ok (127, v) w := by kernel_rfl
theorem m127_far (v : Value) (w : World) : (method (Pr.types.size + Made.depth) 127 v "tumble/shape.far").run Pr w = .ok (129, v) w := by kernel_rfl
theorem m127_has (v : Value) (w : World) : (method (Pr.types.size + Made.depth) 127 v "tumble/shape.has").run Pr w = .ok (130, v) w := by kernel_rfl
theorem m129_check (v : Value) (w : World) : (method (Pr.types.size + Made.depth) 129 v "tumble/shape.check").run Pr w = .ok (139, v) w := by kernel_rfl
theorem m129_box (v : Value) (w : World) : (method (Pr.types.size + Made.depth) 129 v "tumble/shape.box").run Pr w = .ok (138, v) w := by kernel_rfl
theorem m129_far (v : Value) (w : World) : (method (Pr.types.size + Made.depth) 129 v "tumble/shape.far").run Pr w = .ok (140, v) w := by kernel_rfl
theorem m129_has (v : Value) (w : World) : (method (Pr.types.size + Made.depth) 129 v "tumble/shape.has").run Pr w = .ok (141, v) w := by kernel_rfl
theorem m130_check (v : Value) (w : World) : (method (Pr.types.size + Made.depth) 130 v "tumble/shape.check").run Pr w = .ok (143, v) w := by kernel_rfl
theorem m130_box (v : Value) (w : World) : (method (Pr.types.size + Made.depth) 130 v "tumble/shape.box").run Pr w = .ok (142, v) w := by kernel_rfl
theorem m130_far (v : Value) (w : World) : (method (Pr.types.size + Made.depth) 130 v "tumble/shape.far").run Pr w = .ok (144, v) w := by kernel_rfl
theorem m130_has (v : Value) (w : World) : (method (Pr.types.size + Made.depth) 130 v "tumble/shape.has").run Pr w = .ok (145, v) w := by kernel_rfl
theorem inv_ok : ∀ t rows, lk invs t = some rows → Pr.concrete t = true ∧ ∀ name k, target.rowOf rows name = some k → ∀ v w, (method (Pr.types.size + Made.depth) t v name).run Pr w = .ok (k, v) w := by
  intro t rows h
  have := lk_mem h
  simp only [invs, List.mem_cons, List.not_mem_nil, or_false, Prod.mk.injEq] at this
  rcases this with ⟨rfl, rfl⟩ | ⟨rfl, rfl⟩ | ⟨rfl, rfl⟩
  all_goals
    refine ⟨by kernel_rfl, fun name k hk v w => ?_⟩
    have := row_mem hk
    simp only [List.mem_cons, List.not_mem_nil, or_false, Prod.mk.injEq] at this
    rcases this with ⟨rfl, rfl⟩ | ⟨rfl, rfl⟩ | ⟨rfl, rfl⟩ | ⟨rfl, rfl⟩
  · exact m127_check v w
  · exact m127_box v w
  · exact m127_far v w
  · exact m127_has v w
  · exact m129_check v w
  · exact m129_box v w
  · exact m129_far v w
  · exact m129_has v w
  · exact m130_check v w
  · exact m130_box v w
  · exact m130_far v w
  · exact m130_has v w

theorem sl23 : Pr.underlying TSl = some (.slice TVec) := by kernel_rfl
theorem sl130 : Pr.underlying TPoly = some (.slice TVec) := by kernel_rfl
theorem tb_ok {n : Nat} {fn : List (Nat × Ent)} {fnB : List (Nat × EntB)} {loop : List (Nat × (St → (XE → St → Prop) → Prop))}
    (hf : ∀ k e, lk fn k = some e → CallOk Pr k e) (hB : ∀ k e, lk fnB k = some e → CallOkB Pr k e) : TOk Pr (tb n fn fnB loop) where
  mixed := by kernel_rfl
  ti := tis_ok
  arr := by
    intro t len es ea h
    have := lk_mem h
    simp only [tb, arrs, List.mem_cons, List.not_mem_nil, or_false, Prod.mk.injEq] at this
    obtain ⟨rfl, rfl, rfl, rfl⟩ := this
    obtain ⟨inf, d, zv, h1, h2, h3, h4, _⟩ := i30.info
    exact ⟨30, inf, d, by kernel_rfl, h1, h3, h2, h4⟩
  sl := by
    intro t h
    simp only [isSl, Bool.or_eq_true] at h
    rcases h with h | h
    · have := Nat.eq_of_beq_eq_true h; subst this; exact sl23
    · have := Nat.eq_of_beq_eq_true h; subst this; exact sl130
  bool := by kernel_rfl
  cv := by
    intro src dst k h
    unfold cvK at h
    cases h1 : (Nat.beq dst 3 && (Nat.beq src 83 || Nat.beq src 53)) with
    | true =>
      rw [h1] at h
      simp only [cond_true, Option.some.injEq] at h
      subst h
      simp only [Bool.and_eq_true, Bool.or_eq_true] at h1
      obtain ⟨h2, h3⟩ := h1
      have := Nat.eq_of_beq_eq_true h2; subst this
      rcases h3 with h3 | h3
      · have := Nat.eq_of_beq_eq_true h3; subst this; exact ⟨⟨.int .u64, by kernel_rfl⟩, by kernel_rfl⟩
      · have := Nat.eq_of_beq_eq_true h3; subst this; exact ⟨⟨.int .i8, by kernel_rfl⟩, by kernel_rfl⟩
    | false =>
      rw [h1] at h
      simp only [cond_false] at h
      cases h2 : (Nat.beq dst 83 && Nat.beq src 3) with
      | true =>
        rw [h2] at h
        simp only [cond_true, Option.some.injEq] at h
        subst h
        simp only [Bool.and_eq_true] at h2
        have := Nat.eq_of_beq_eq_true h2.1; subst this
        have := Nat.eq_of_beq_eq_true h2.2; subst this
        exact ⟨⟨.int .i64, by kernel_rfl⟩, by kernel_rfl⟩
      | false => rw [h2] at h; cases h
  vec := by
    obtain ⟨inf, d, zv, h1, h2, h3, h4, h5, h6⟩ := i28.info
    refine ⟨inf, zv, h1, h3, h5, ?_⟩
    have := (h6 (bare No default)).1
    simpa using this.symm
  vec2 := vec2_
  fn := hf
  fnB := hB
  inv := inv_ok
end Go.Proofs.Ythopjahoaljhaaa.X

/-! ## What the printed contracts use: tables put together, and a goal put in another's place that the kernel finds to be the same. -/
set_option linter.unusedVariables false
set_option linter.unusedSimpArgs false
namespace Go.Proofs.Ythopjahoaljhaaa.X
open Go Go.RowKit

def Ent.of (d : List AT → Option AT) : Ent := ⟨d, fun l K => match d l with | some r => K r | none => False⟩
theorem Ent.of_k (d : List AT → Option AT) (l : List AT) (K : AT → Prop) (h : (Ent.of d).k l K) : ∃ r, (Ent.of d).d l = some r ∧ K r := by
  simp only [Ent.of] at h ⊢
  split at h
  · rename_i r hr; exact ⟨r, hr, h⟩
  · exact h.elim
theorem by_kernel {p q : Prop} (h : p = q) (hq : q) : p := h.symm ▸ hq
theorem noLoops {P : Program} {T : Tb} {c : Code} (h : loopsOf c = []) : LoopsOk P T c := fun b s hb => by rw [h] at hb; cases hb
theorem fnNil (P : Program) : ∀ k e, lk ([] : List (Nat × Ent)) k = some e → CallOk P k e := fun k e h => by simp [lk] at h
theorem fnCons {P : Program} {k : Nat} {e : Ent} {r : List (Nat × Ent)} (h : CallOk P k e) (hr : ∀ k e, lk r k = some e → CallOk P k e) : ∀ k' e', lk ((k, e) :: r) k' = some e' → CallOk P k' e' := by
  intro k' e' h'
  rw [lk_cons] at h'
  split at h'
  · rename_i he; cases h'; subst he; exact h
  · exact hr k' e' h'
theorem fnBNil (P : Program) : ∀ k e, lk ([] : List (Nat × EntB)) k = some e → CallOkB P k e := fun k e h => by simp [lk] at h
theorem fnBCons {P : Program} {k : Nat} {e : EntB} {r : List (Nat × EntB)} (h : CallOkB P k e) (hr : ∀ k e, lk r k = some e → CallOkB P k e) : ∀ k' e', lk ((k, e) :: r) k' = some e' → CallOkB P k' e' := by
  intro k' e' h'
  rw [lk_cons] at h'
  split at h'
  · rename_i he; cases h'; subst he; exact h
  · exact hr k' e' h'

theorem callOk_auto {T : Tb} (hT : TOk Pr T) {k : FuncId} {fn : Func} {code : Code} (hf : Pr.funcs[k]? = some fn) (hb : fn.body = some code) (hnm : (fn.name == "runtime.NumGoroutine") = false) (hn : T.n = fn.ntmps) (hl : loopsOf code = [])
    {e : Ent} (hk : ∀ l K, e.k l K → ∃ r, e.d l = some r ∧ K r)
    (h : ∀ l r, e.d l = some r → LBs l → Nat.ble l.length fn.ntmps = true ∧ noNmT [r] = true ∧ xfun T code fn.results.toList l [] (fun r' _ => r' = r)) : CallOk Pr k e :=
  callOk_of hT hf hb hnm hn (noLoops hl) hk fun l r hr hb => let ⟨h1, h2, h3⟩ := h l r hr hb; ⟨Nat.le_of_ble_eq_true h1, h2, h3⟩

/-! Functions without a body of Go. -/
theorem run_extern {P : Program} {k : FuncId} {fn : Func} (hf : P.funcs[k]? = some fn) (hb : fn.body = none) (hnm : (fn.name == "runtime.NumGoroutine") = false) (hnx : (Extern.findNext fn).isNone = true) {ex : Array Value → Sem Value} (hx : Extern.find fn = some ex)
    (vs : Array Value) (w : World) : (callFunc k vs).run P w = ((ex vs).run P w).andThen fun v w' => .ok (.value v) w' := by
  unfold callFunc
  simp only [Sem.run_bind, run_program, Result.andThen_ok, hf, hnm, hb, Option.isNone_none, Bool.false_eq_true, if_false, if_true, run_mark]
  rw [Option.isNone_iff_eq_none.1 hnx]
  simp [hx]
end Go.Proofs.Ythopjahoaljhaaa.X

/-! ## Contracts of functions of the program, laid out by a program of mine (gen.py): what each gives, as a function of its arguments; floats up to the bits of a NaN. -/
set_option linter.unusedVariables false
set_option linter.unusedSimpArgs false
set_option maxRecDepth 100000
namespace Go.Proofs.Ythopjahoaljhaaa.X
open Go Go.RowKit

/-- tumble/vec.Sub -/
def vec_Sub_0 (a0 : Nat) (a1 : Nat) (b0 : Nat) (b1 : Nat) : Nat := fsub a0 b0
def vec_Sub_1 (a0 : Nat) (a1 : Nat) (b0 : Nat) (b1 : Nat) : Nat := fsub a1 b1
def d13 : List AT → Option AT
  | [.av (.agg [.flt a0, .flt a1]), .av (.agg [.flt b0, .flt b1])] => some (.av (.agg [(.flt (vec_Sub_0 a0 a1 b0 b1)), (.flt (vec_Sub_1 a0 a1 b0 b1))]))
  | _ => none
def e13 : Ent := .of d13
theorem c13 : CallOk Pr 13 e13 := by
  refine callOk_auto (T := tb 16 [] [] []) (tb_ok (fnNil _) (fnBNil _)) Try.func13 rfl (by decide) rfl rfl (Ent.of_k d13) ?_
  intro l r h hb
  change d13 l = some r at h
  unfold d13 at h
  split at h
  · rename_i a0 a1 b0 b1
    cases h
    refine ⟨rfl, rfl, by_kernel (q := AT.av (.agg [(.flt (fsub a0 b0)), (.flt (fsub a1 b1))]) = (.av (.agg [(.flt (vec_Sub_0 a0 a1 b0 b1)), (.flt (vec_Sub_1 a0 a1 b0 b1))]))) (by kernel_rfl) ?_⟩
    unfold vec_Sub_0 vec_Sub_1
    rfl
  · cases h

/-- tumble/tumblelaw07.tiny -/
def law07_tiny (a : Nat) : Bool := ((fNe a (0 : Nat)) && ((fLt a (3256102530588868608 : Nat)) && (fGt a (12479474567443644416 : Nat))))
def d29 : List AT → Option AT
  | [.av (.one (.flt a))] => some (.av (.one (.bool (law07_tiny a))))
  | _ => none
def e29 : Ent := .of d29
theorem c29 : CallOk Pr 29 e29 := by
  refine callOk_auto (T := tb 13 [] [] []) (tb_ok (fnNil _) (fnBNil _)) Try.func29 rfl (by decide) rfl rfl (Ent.of_k d29) ?_
  intro l r h hb
  change d29 l = some r at h
  unfold d29 at h
  split at h
  · rename_i a
    cases h
    refine ⟨rfl, rfl, by_kernel (q := cond (fNe a (0 : Nat)) (cond (fLt a (3256102530588868608 : Nat)) (cond (fGt a (12479474567443644416 : Nat)) (AT.av (.one (.bool Bool.true)) = (.av (.one (.bool (law07_tiny a))))) (AT.av (.one (.bool Bool.false)) = (.av (.one (.bool (law07_tiny a)))))) (AT.av (.one (.bool Bool.false)) = (.av (.one (.bool (law07_tiny a)))))) (AT.av (.one (.bool Bool.false)) = (.av (.one (.bool (law07_tiny a)))))) (by kernel_rfl) ?_⟩
    unfold law07_tiny
    cases (fNe a (0 : Nat)) with
    | true =>
        cases (fLt a (3256102530588868608 : Nat)) with
        | true =>
            cases (fGt a (12479474567443644416 : Nat)) with
            | true =>
                rfl
            | false =>
                rfl
        | false =>
            rfl
    | false =>
        rfl
  · cases h

/-- tumble/tumblelaw10.v -/
def d36 : List AT → Option AT
  | [.av (.one (.flt a)), .av (.one (.flt b))] => some (.av (.agg [(.flt a), (.flt b)]))
  | _ => none
def e36 : Ent := .of d36
theorem c36 : CallOk Pr 36 e36 := by
  refine callOk_auto (T := tb 8 [] [] []) (tb_ok (fnNil _) (fnBNil _)) Try.func36 rfl (by decide) rfl rfl (Ent.of_k d36) ?_
  intro l r h hb
  change d36 l = some r at h
  unfold d36 at h
  split at h
  · rename_i a b
    cases h
    refine ⟨rfl, rfl, by_kernel (q := AT.av (.agg [(.flt a), (.flt b)]) = (.av (.agg [(.flt a), (.flt b)]))) (by kernel_rfl) ?_⟩
    rfl
  · cases h

/-- tumble/vec.More -/
def vec_More_0 (a0 : Nat) (a1 : Nat) (b : Nat) (c0 : Nat) (c1 : Nat) : Nat := fadd a0 (fmul b c0)
def vec_More_1 (a0 : Nat) (a1 : Nat) (b : Nat) (c0 : Nat) (c1 : Nat) : Nat := fadd a1 (fmul b c1)
def d43 : List AT → Option AT
  | [.av (.agg [.flt a0, .flt a1]), .av (.one (.flt b)), .av (.agg [.flt c0, .flt c1])] => some (.av (.agg [(.flt (vec_More_0 a0 a1 b c0 c1)), (.flt (vec_More_1 a0 a1 b c0 c1))]))
  | _ => none
def e43 : Ent := .of d43
theorem c43 : CallOk Pr 43 e43 := by
  refine callOk_auto (T := tb 22 [] [] []) (tb_ok (fnNil _) (fnBNil _)) Try.func43 rfl (by decide) rfl rfl (Ent.of_k d43) ?_
  intro l r h hb
  change d43 l = some r at h
  unfold d43 at h
  split at h
  · rename_i a0 a1 b c0 c1
    cases h
    refine ⟨rfl, rfl, by_kernel (q := AT.av (.agg [(.flt (fadd a0 (fmul b c0))), (.flt (fadd a1 (fmul b c1)))]) = (.av (.agg [(.flt (vec_More_0 a0 a1 b c0 c1)), (.flt (vec_More_1 a0 a1 b c0 c1))]))) (by kernel_rfl) ?_⟩
    unfold vec_More_0 vec_More_1
    rfl
  · cases h

/-- tumble/vec.Cross -/
def vec_Cross (a0 : Nat) (a1 : Nat) (b0 : Nat) (b1 : Nat) : Nat := fsub (fmul a0 b1) (fmul a1 b0)
def d54 : List AT → Option AT
  | [.av (.agg [.flt a0, .flt a1]), .av (.agg [.flt b0, .flt b1])] => some (.av (.one (.flt (vec_Cross a0 a1 b0 b1))))
  | _ => none
def e54 : Ent := .of d54
theorem c54 : CallOk Pr 54 e54 := by
  refine callOk_auto (T := tb 16 [] [] []) (tb_ok (fnNil _) (fnBNil _)) Try.func54 rfl (by decide) rfl rfl (Ent.of_k d54) ?_
  intro l r h hb
  change d54 l = some r at h
  unfold d54 at h
  split at h
  · rename_i a0 a1 b0 b1
    cases h
    refine ⟨rfl, rfl, by_kernel (q := AT.av (.one (.flt (fsub (fmul a0 b1) (fmul a1 b0)))) = (.av (.one (.flt (vec_Cross a0 a1 b0 b1))))) (by kernel_rfl) ?_⟩
    unfold vec_Cross
    rfl
  · cases h

/-- tumble/vec.Dot -/
def vec_Dot (a0 : Nat) (a1 : Nat) (b0 : Nat) (b1 : Nat) : Nat := fadd (fmul a0 b0) (fmul a1 b1)
def d58 : List AT → Option AT
  | [.av (.agg [.flt a0, .flt a1]), .av (.agg [.flt b0, .flt b1])] => some (.av (.one (.flt (vec_Dot a0 a1 b0 b1))))
  | _ => none
def e58 : Ent := .of d58
theorem c58 : CallOk Pr 58 e58 := by
  refine callOk_auto (T := tb 16 [] [] []) (tb_ok (fnNil _) (fnBNil _)) Try.func58 rfl (by decide) rfl rfl (Ent.of_k d58) ?_
  intro l r h hb
  change d58 l = some r at h
  unfold d58 at h
  split at h
  · rename_i a0 a1 b0 b1
    cases h
    refine ⟨rfl, rfl, by_kernel (q := AT.av (.one (.flt (fadd (fmul a0 b0) (fmul a1 b1)))) = (.av (.one (.flt (vec_Dot a0 a1 b0 b1))))) (by kernel_rfl) ?_⟩
    unfold vec_Dot
    rfl
  · cases h

/-- tumble/ray.part -/
def ray_part (a : Nat) : Bool := ((fGe a (0 : Nat)) && (fLe a (4607182418800017408 : Nat)))
def d59 : List AT → Option AT
  | [.av (.one (.flt a))] => some (.av (.one (.bool (ray_part a))))
  | _ => none
def e59 : Ent := .of d59
theorem c59 : CallOk Pr 59 e59 := by
  refine callOk_auto (T := tb 9 [] [] []) (tb_ok (fnNil _) (fnBNil _)) Try.func59 rfl (by decide) rfl rfl (Ent.of_k d59) ?_
  intro l r h hb
  change d59 l = some r at h
  unfold d59 at h
  split at h
  · rename_i a
    cases h
    refine ⟨rfl, rfl, by_kernel (q := cond (fGe a (0 : Nat)) (cond (fLe a (4607182418800017408 : Nat)) (AT.av (.one (.bool Bool.true)) = (.av (.one (.bool (ray_part a))))) (AT.av (.one (.bool Bool.false)) = (.av (.one (.bool (ray_part a)))))) (AT.av (.one (.bool Bool.false)) = (.av (.one (.bool (ray_part a)))))) (by kernel_rfl) ?_⟩
    unfold ray_part
    cases (fGe a (0 : Nat)) with
    | true =>
        cases (fLe a (4607182418800017408 : Nat)) with
        | true =>
            rfl
        | false =>
            rfl
    | false =>
        rfl
  · cases h

/-- tumble/num.Within[float64] -/
def num_Within (a : Nat) (b : Nat) : Bool := ((fLe (fneg b) a) && (fLe a b))
def d64 : List AT → Option AT
  | [.av (.one (.flt a)), .av (.one (.flt b))] => some (.av (.one (.bool (num_Within a b))))
  | _ => none
def e64 : Ent := .of d64
theorem c64 : CallOk Pr 64 e64 := by
  refine callOk_auto (T := tb 14 [] [] []) (tb_ok (fnNil _) (fnBNil _)) Try.func64 rfl (by decide) rfl rfl (Ent.of_k d64) ?_
  intro l r h hb
  change d64 l = some r at h
  unfold d64 at h
  split at h
  · rename_i a b
    cases h
    refine ⟨rfl, rfl, by_kernel (q := cond (fLe (fneg b) a) (cond (fLe a b) (AT.av (.one (.bool Bool.true)) = (.av (.one (.bool (num_Within a b))))) (AT.av (.one (.bool Bool.false)) = (.av (.one (.bool (num_Within a b)))))) (AT.av (.one (.bool Bool.false)) = (.av (.one (.bool (num_Within a b)))))) (by kernel_rfl) ?_⟩
    unfold num_Within
    cases (fLe (fneg b) a) with
    | true =>
        cases (fLe a b) with
        | true =>
            rfl
        | false =>
            rfl
    | false =>
        rfl
  · cases h

/-- tumble/tumblelaw07.v -/
def d69 : List AT → Option AT
  | [.av (.one (.flt a)), .av (.one (.flt b))] => some (.av (.agg [(.flt a), (.flt b)]))
  | _ => none
def e69 : Ent := .of d69
theorem c69 : CallOk Pr 69 e69 := by
  refine callOk_auto (T := tb 8 [] [] []) (tb_ok (fnNil _) (fnBNil _)) Try.func69 rfl (by decide) rfl rfl (Ent.of_k d69) ?_
  intro l r h hb
  change d69 l = some r at h
  unfold d69 at h
  split at h
  · rename_i a b
    cases h
    refine ⟨rfl, rfl, by_kernel (q := AT.av (.agg [(.flt a), (.flt b)]) = (.av (.agg [(.flt a), (.flt b)]))) (by kernel_rfl) ?_⟩
    rfl
  · cases h

/-- tumble/num.Clamp[float64] -/
def num_Clamp (a : Nat) (b : Nat) (c : Nat) : Nat := cond (fGt a b) (cond (fGt a c) (c) (a)) (b)
def d75 : List AT → Option AT
  | [.av (.one (.flt a)), .av (.one (.flt b)), .av (.one (.flt c))] => some (.av (.one (.flt (num_Clamp a b c))))
  | _ => none
def e75 : Ent := .of d75
theorem c75 : CallOk Pr 75 e75 := by
  refine callOk_auto (T := tb 19 [] [] []) (tb_ok (fnNil _) (fnBNil _)) Try.func75 rfl (by decide) rfl rfl (Ent.of_k d75) ?_
  intro l r h hb
  change d75 l = some r at h
  unfold d75 at h
  split at h
  · rename_i a b c
    cases h
    refine ⟨rfl, rfl, by_kernel (q := cond (fGt a b) (cond (fGt a c) (AT.av (.one (.flt c)) = (.av (.one (.flt (num_Clamp a b c))))) (AT.av (.one (.flt a)) = (.av (.one (.flt (num_Clamp a b c)))))) (AT.av (.one (.flt b)) = (.av (.one (.flt (num_Clamp a b c)))))) (by kernel_rfl) ?_⟩
    unfold num_Clamp
    cases (fGt a b) with
    | true =>
        cases (fGt a c) with
        | true =>
            rfl
        | false =>
            rfl
    | false =>
        rfl
  · cases h

/-- tumble/tumblelaw10.of -/
def d76 : List AT → Option AT
  | [.av (.one (.int .u8 a)), .av (.one (.flt b)), .av (.one (.sl c))] => some (.av (.agg [(.int .u8 a), (.flt b), (.sl c)]))
  | _ => none
def e76 : Ent := .of d76
theorem c76 : CallOk Pr 76 e76 := by
  refine callOk_auto (T := tb 11 [] [] []) (tb_ok (fnNil _) (fnBNil _)) Try.func76 rfl (by decide) rfl rfl (Ent.of_k d76) ?_
  intro l r h hb
  change d76 l = some r at h
  unfold d76 at h
  split at h
  · rename_i a b c
    cases h
    refine ⟨rfl, rfl, by_kernel (q := AT.av (.agg [(.int .u8 a), (.flt b), (.sl c)]) = (.av (.agg [(.int .u8 a), (.flt b), (.sl c)]))) (by kernel_rfl) ?_⟩
    rfl
  · cases h

/-- tumble/near.across -/
def near_across (a : Nat) (b : Nat) : Bool := cond (fGt a (0 : Nat)) (((fLt b (0 : Nat)) || ((fLt a (0 : Nat)) && (fGt b (0 : Nat))))) (((fLt a (0 : Nat)) && (fGt b (0 : Nat))))
def d77 : List AT → Option AT
  | [.av (.one (.flt a)), .av (.one (.flt b))] => some (.av (.one (.bool (near_across a b))))
  | _ => none
def e77 : Ent := .of d77
theorem c77 : CallOk Pr 77 e77 := by
  refine callOk_auto (T := tb 19 [] [] []) (tb_ok (fnNil _) (fnBNil _)) Try.func77 rfl (by decide) rfl rfl (Ent.of_k d77) ?_
  intro l r h hb
  change d77 l = some r at h
  unfold d77 at h
  split at h
  · rename_i a b
    cases h
    refine ⟨rfl, rfl, by_kernel (q := cond (fGt a (0 : Nat)) (cond (fLt b (0 : Nat)) (AT.av (.one (.bool Bool.true)) = (.av (.one (.bool (near_across a b))))) (cond (fLt a (0 : Nat)) (cond (fGt b (0 : Nat)) (AT.av (.one (.bool Bool.true)) = (.av (.one (.bool (near_across a b))))) (AT.av (.one (.bool Bool.false)) = (.av (.one (.bool (near_across a b)))))) (AT.av (.one (.bool Bool.false)) = (.av (.one (.bool (near_across a b))))))) (cond (fLt a (0 : Nat)) (cond (fGt b (0 : Nat)) (AT.av (.one (.bool Bool.true)) = (.av (.one (.bool (near_across a b))))) (AT.av (.one (.bool Bool.false)) = (.av (.one (.bool (near_across a b)))))) (AT.av (.one (.bool Bool.false)) = (.av (.one (.bool (near_across a b))))))) (by kernel_rfl) ?_⟩
    unfold near_across
    cases (fGt a (0 : Nat)) with
    | true =>
        cases (fLt b (0 : Nat)) with
        | true =>
            rfl
        | false =>
            cases (fLt a (0 : Nat)) with
            | true =>
                cases (fGt b (0 : Nat)) with
                | true =>
                    rfl
                | false =>
                    rfl
            | false =>
                rfl
    | false =>
        cases (fLt a (0 : Nat)) with
        | true =>
            cases (fGt b (0 : Nat)) with
            | true =>
                rfl
            | false =>
                rfl
        | false =>
            rfl
  · cases h

/-- tumble/num.Finite[float64] -/
def num_Finite (a : Nat) : Bool := (fEq (fsub a a) (0 : Nat))
def d84 : List AT → Option AT
  | [.av (.one (.flt a))] => some (.av (.one (.bool (num_Finite a))))
  | _ => none
def e84 : Ent := .of d84
theorem c84 : CallOk Pr 84 e84 := by
  refine callOk_auto (T := tb 7 [] [] []) (tb_ok (fnNil _) (fnBNil _)) Try.func84 rfl (by decide) rfl rfl (Ent.of_k d84) ?_
  intro l r h hb
  change d84 l = some r at h
  unfold d84 at h
  split at h
  · rename_i a
    cases h
    refine ⟨rfl, rfl, by_kernel (q := cond (fEq (fsub a a) (0 : Nat)) (AT.av (.one (.bool Bool.true)) = (.av (.one (.bool (num_Finite a))))) (AT.av (.one (.bool Bool.false)) = (.av (.one (.bool (num_Finite a)))))) (by kernel_rfl) ?_⟩
    unfold num_Finite
    cases (fEq (fsub a a) (0 : Nat)) with
    | true =>
        rfl
    | false =>
        rfl
  · cases h

/-- math.IsNaN -/
def math_IsNaN (a : Nat) : Bool := (fNe a a)
def d87 : List AT → Option AT
  | [.av (.one (.flt a))] => some (.av (.one (.bool (math_IsNaN a))))
  | _ => none
def e87 : Ent := .of d87
theorem c87 : CallOk Pr 87 e87 := by
  refine callOk_auto (T := tb 6 [] [] []) (tb_ok (fnNil _) (fnBNil _)) Try.func87 rfl (by decide) rfl rfl (Ent.of_k d87) ?_
  intro l r h hb
  change d87 l = some r at h
  unfold d87 at h
  split at h
  · rename_i a
    cases h
    refine ⟨rfl, rfl, by_kernel (q := cond (fNe a a) (AT.av (.one (.bool Bool.true)) = (.av (.one (.bool (math_IsNaN a))))) (AT.av (.one (.bool Bool.false)) = (.av (.one (.bool (math_IsNaN a)))))) (by kernel_rfl) ?_⟩
    unfold math_IsNaN
    cases (fNe a a) with
    | true =>
        rfl
    | false =>
        rfl
  · cases h

/-- tumble/vec.Neg -/
def vec_Neg_0 (a0 : Nat) (a1 : Nat) : Nat := fneg a0
def vec_Neg_1 (a0 : Nat) (a1 : Nat) : Nat := fneg a1
def d92 : List AT → Option AT
  | [.av (.agg [.flt a0, .flt a1])] => some (.av (.agg [(.flt (vec_Neg_0 a0 a1)), (.flt (vec_Neg_1 a0 a1))]))
  | _ => none
def e92 : Ent := .of d92
theorem c92 : CallOk Pr 92 e92 := by
  refine callOk_auto (T := tb 10 [] [] []) (tb_ok (fnNil _) (fnBNil _)) Try.func92 rfl (by decide) rfl rfl (Ent.of_k d92) ?_
  intro l r h hb
  change d92 l = some r at h
  unfold d92 at h
  split at h
  · rename_i a0 a1
    cases h
    refine ⟨rfl, rfl, by_kernel (q := AT.av (.agg [(.flt (fneg a0)), (.flt (fneg a1))]) = (.av (.agg [(.flt (vec_Neg_0 a0 a1)), (.flt (vec_Neg_1 a0 a1))]))) (by kernel_rfl) ?_⟩
    unfold vec_Neg_0 vec_Neg_1
    rfl
  · cases h

/-- tumble/num.none[float64] -/
def num_none (a : Nat) : Bool := (fNe a a)
def d101 : List AT → Option AT
  | [.av (.one (.flt a))] => some (.av (.one (.bool (num_none a))))
  | _ => none
def e101 : Ent := .of d101
theorem c101 : CallOk Pr 101 e101 := by
  refine callOk_auto (T := tb 6 [] [] []) (tb_ok (fnNil _) (fnBNil _)) Try.func101 rfl (by decide) rfl rfl (Ent.of_k d101) ?_
  intro l r h hb
  change d101 l = some r at h
  unfold d101 at h
  split at h
  · rename_i a
    cases h
    refine ⟨rfl, rfl, by_kernel (q := cond (fNe a a) (AT.av (.one (.bool Bool.true)) = (.av (.one (.bool (num_none a))))) (AT.av (.one (.bool Bool.false)) = (.av (.one (.bool (num_none a)))))) (by kernel_rfl) ?_⟩
    unfold num_none
    cases (fNe a a) with
    | true =>
        rfl
    | false =>
        rfl
  · cases h

/-- tumble/num.minus[float64] -/
def num_minus (a : Nat) : Bool := (fLt (fdiv (4607182418800017408 : Nat) a) (0 : Nat))
def d102 : List AT → Option AT
  | [.av (.one (.flt a))] => some (.av (.one (.bool (num_minus a))))
  | _ => none
def e102 : Ent := .of d102
theorem c102 : CallOk Pr 102 e102 := by
  refine callOk_auto (T := tb 6 [] [] []) (tb_ok (fnNil _) (fnBNil _)) Try.func102 rfl (by decide) rfl rfl (Ent.of_k d102) ?_
  intro l r h hb
  change d102 l = some r at h
  unfold d102 at h
  split at h
  · rename_i a
    cases h
    refine ⟨rfl, rfl, by_kernel (q := cond (fLt (fdiv (4607182418800017408 : Nat) a) (0 : Nat)) (AT.av (.one (.bool Bool.true)) = (.av (.one (.bool (num_minus a))))) (AT.av (.one (.bool Bool.false)) = (.av (.one (.bool (num_minus a)))))) (by kernel_rfl) ?_⟩
    unfold num_minus
    cases (fLt (fdiv (4607182418800017408 : Nat) a) (0 : Nat)) with
    | true =>
        rfl
    | false =>
        rfl
  · cases h

/-- tumble/vec.Left -/
def vec_Left_0 (a0 : Nat) (a1 : Nat) : Nat := fneg a1
def d103 : List AT → Option AT
  | [.av (.agg [.flt a0, .flt a1])] => some (.av (.agg [(.flt (vec_Left_0 a0 a1)), (.flt a0)]))
  | _ => none
def e103 : Ent := .of d103
theorem c103 : CallOk Pr 103 e103 := by
  refine callOk_auto (T := tb 9 [] [] []) (tb_ok (fnNil _) (fnBNil _)) Try.func103 rfl (by decide) rfl rfl (Ent.of_k d103) ?_
  intro l r h hb
  change d103 l = some r at h
  unfold d103 at h
  split at h
  · rename_i a0 a1
    cases h
    refine ⟨rfl, rfl, by_kernel (q := AT.av (.agg [(.flt (fneg a1)), (.flt a0)]) = (.av (.agg [(.flt (vec_Left_0 a0 a1)), (.flt a0)]))) (by kernel_rfl) ?_⟩
    unfold vec_Left_0
    rfl
  · cases h

/-- tumble/vec.Scale -/
def vec_Scale_0 (a0 : Nat) (a1 : Nat) (b : Nat) : Nat := fmul a0 b
def vec_Scale_1 (a0 : Nat) (a1 : Nat) (b : Nat) : Nat := fmul a1 b
def d105 : List AT → Option AT
  | [.av (.agg [.flt a0, .flt a1]), .av (.one (.flt b))] => some (.av (.agg [(.flt (vec_Scale_0 a0 a1 b)), (.flt (vec_Scale_1 a0 a1 b))]))
  | _ => none
def e105 : Ent := .of d105
theorem c105 : CallOk Pr 105 e105 := by
  refine callOk_auto (T := tb 14 [] [] []) (tb_ok (fnNil _) (fnBNil _)) Try.func105 rfl (by decide) rfl rfl (Ent.of_k d105) ?_
  intro l r h hb
  change d105 l = some r at h
  unfold d105 at h
  split at h
  · rename_i a0 a1 b
    cases h
    refine ⟨rfl, rfl, by_kernel (q := AT.av (.agg [(.flt (fmul a0 b)), (.flt (fmul a1 b))]) = (.av (.agg [(.flt (vec_Scale_0 a0 a1 b)), (.flt (vec_Scale_1 a0 a1 b))]))) (by kernel_rfl) ?_⟩
    unfold vec_Scale_0 vec_Scale_1
    rfl
  · cases h

/-- tumble/vec.Add -/
def vec_Add_0 (a0 : Nat) (a1 : Nat) (b0 : Nat) (b1 : Nat) : Nat := fadd a0 b0
def vec_Add_1 (a0 : Nat) (a1 : Nat) (b0 : Nat) (b1 : Nat) : Nat := fadd a1 b1
def d106 : List AT → Option AT
  | [.av (.agg [.flt a0, .flt a1]), .av (.agg [.flt b0, .flt b1])] => some (.av (.agg [(.flt (vec_Add_0 a0 a1 b0 b1)), (.flt (vec_Add_1 a0 a1 b0 b1))]))
  | _ => none
def e106 : Ent := .of d106
theorem c106 : CallOk Pr 106 e106 := by
  refine callOk_auto (T := tb 16 [] [] []) (tb_ok (fnNil _) (fnBNil _)) Try.func106 rfl (by decide) rfl rfl (Ent.of_k d106) ?_
  intro l r h hb
  change d106 l = some r at h
  unfold d106 at h
  split at h
  · rename_i a0 a1 b0 b1
    cases h
    refine ⟨rfl, rfl, by_kernel (q := AT.av (.agg [(.flt (fadd a0 b0)), (.flt (fadd a1 b1))]) = (.av (.agg [(.flt (vec_Add_0 a0 a1 b0 b1)), (.flt (vec_Add_1 a0 a1 b0 b1))]))) (by kernel_rfl) ?_⟩
    unfold vec_Add_0 vec_Add_1
    rfl
  · cases h

/-- tumble/turn.square -/
def turn_square (ar : Nat) (ai : Nat) : Nat := fadd (fmul ar ar) (fmul ai ai)
def d109 : List AT → Option AT
  | [.av (.one (.cpx ar ai))] => some (.av (.one (.flt (turn_square ar ai))))
  | _ => none
def e109 : Ent := .of d109
theorem c109 : CallOk Pr 109 e109 := by
  refine callOk_auto (T := tb 14 [] [] []) (tb_ok (fnNil _) (fnBNil _)) Try.func109 rfl (by decide) rfl rfl (Ent.of_k d109) ?_
  intro l r h hb
  change d109 l = some r at h
  unfold d109 at h
  split at h
  · rename_i ar ai
    cases h
    refine ⟨rfl, rfl, by_kernel (q := AT.av (.one (.flt (fadd (fmul ar ar) (fmul ai ai)))) = (.av (.one (.flt (turn_square ar ai))))) (by kernel_rfl) ?_⟩
    unfold turn_square
    rfl
  · cases h

/-- tumble/turn.Apply -/
def turn_Apply_0 (ar : Nat) (ai : Nat) (b0 : Nat) (b1 : Nat) : Nat := fsub (fmul ar b0) (fmul ai b1)
def turn_Apply_1 (ar : Nat) (ai : Nat) (b0 : Nat) (b1 : Nat) : Nat := fadd (fmul ai b0) (fmul ar b1)
def d110 : List AT → Option AT
  | [.av (.one (.cpx ar ai)), .av (.agg [.flt b0, .flt b1])] => some (.av (.agg [(.flt (turn_Apply_0 ar ai b0 b1)), (.flt (turn_Apply_1 ar ai b0 b1))]))
  | _ => none
def e110 : Ent := .of d110
theorem c110 : CallOk Pr 110 e110 := by
  refine callOk_auto (T := tb 28 [] [] []) (tb_ok (fnNil _) (fnBNil _)) Try.func110 rfl (by decide) rfl rfl (Ent.of_k d110) ?_
  intro l r h hb
  change d110 l = some r at h
  unfold d110 at h
  split at h
  · rename_i ar ai b0 b1
    cases h
    refine ⟨rfl, rfl, by_kernel (q := AT.av (.agg [(.flt (fsub (fmul ar b0) (fmul ai b1))), (.flt (fadd (fmul ai b0) (fmul ar b1)))]) = (.av (.agg [(.flt (turn_Apply_0 ar ai b0 b1)), (.flt (turn_Apply_1 ar ai b0 b1))]))) (by kernel_rfl) ?_⟩
    unfold turn_Apply_0 turn_Apply_1
    rfl
  · cases h

/-- tumble/shape.length -/
def shape_length (a : Nat) : Bool := ((fGe a (4472074429978902528 : Nat)) && (fLe a (4787326403894837248 : Nat)))
def d133 : List AT → Option AT
  | [.av (.one (.flt a))] => some (.av (.one (.bool (shape_length a))))
  | _ => none
def e133 : Ent := .of d133
theorem c133 : CallOk Pr 133 e133 := by
  refine callOk_auto (T := tb 9 [] [] []) (tb_ok (fnNil _) (fnBNil _)) Try.func133 rfl (by decide) rfl rfl (Ent.of_k d133) ?_
  intro l r h hb
  change d133 l = some r at h
  unfold d133 at h
  split at h
  · rename_i a
    cases h
    refine ⟨rfl, rfl, by_kernel (q := cond (fGe a (4472074429978902528 : Nat)) (cond (fLe a (4787326403894837248 : Nat)) (AT.av (.one (.bool Bool.true)) = (.av (.one (.bool (shape_length a))))) (AT.av (.one (.bool Bool.false)) = (.av (.one (.bool (shape_length a)))))) (AT.av (.one (.bool Bool.false)) = (.av (.one (.bool (shape_length a)))))) (by kernel_rfl) ?_⟩
    unfold shape_length
    cases (fGe a (4472074429978902528 : Nat)) with
    | true =>
        cases (fLe a (4787326403894837248 : Nat)) with
        | true =>
            rfl
        | false =>
            rfl
    | false =>
        rfl
  · cases h

end Go.Proofs.Ythopjahoaljhaaa.X

/-! ## Contracts of the functions that have no body of Go: sqrt, archMax, archTrunc, Float64bits, Float64frombits. -/
set_option linter.unusedVariables false
set_option linter.unusedSimpArgs false
namespace Go.Proofs.Ythopjahoaljhaaa.X
open Go Go.RowKit

theorem callOk_ext {k : FuncId} {fn : Func} (hf : Pr.funcs[k]? = some fn) (hb : fn.body = none) (hnm : (fn.name == "runtime.NumGoroutine") = false) (hnx : (Extern.findNext fn).isNone = true) {ex : Array Value → Sem Value} (hx : Extern.find fn = some ex)
    (d : List AT → Option AT) (h : ∀ l r, d l = some r → ∀ C w vs, ATs C l vs → ∃ v w', (ex vs.toArray).run Pr w = .ok v w' ∧ (∀ C', r.R C' v) ∧ (w' = w ∨ w' = w.drew)) : CallOk Pr k (.of d) := by
  refine ⟨Ent.of_k d, fun l r hr own w vs hown hvs => ?_⟩
  obtain ⟨v, w', h1, h2, h3⟩ := h l r hr _ w vs hvs
  refine .inl ⟨v, w', ?_, h2 _, Chg.of_draw h3⟩
  rw [run_extern hf hb hnm hnx hx, h1]
  rfl

def fmaxA (x y : Nat) : Nat :=
  let a := F64.read x
  let b := F64.read y
  if a == .infinity false || b == .infinity false then F64.write (.infinity false)
  else if a.isNaN || b.isNaN then qn
  else if a.isZero && b.isZero then (if a.neg == false then x else y)
  else if a.order b == some .gt then x else y
def ftruncA (x : Nat) : Nat :=
  match F64.read x with
  | .nan _ _ => qn
  | d => F64.write (d.integral .zero)

theorem args1 {C : Cx} {x : AC} {vs : List Value} (h : ATs C [.av (.one x)] vs) : ∃ v, vs = [v] ∧ x.R C v := h.inv1
theorem args2 {C : Cx} {x y : AC} {vs : List Value} (h : ATs C [.av (.one x), .av (.one y)] vs) : ∃ v u, vs = [v, u] ∧ x.R C v ∧ y.R C u := h.inv2

/-- math.sqrt -/
def d90 : List AT → Option AT
  | [.av (.one (.flt a))] => some (.av (.one (.flt (fsqrt a))))
  | _ => none
def e90 : Ent := .of d90
theorem c90 : CallOk Pr 90 e90 := by
  refine callOk_ext (fn := Try.f90) Try.func90 rfl (by decide) (by kernel_rfl) (ex := Extern.MathSqrt.sqrt) (by kernel_rfl) d90 ?_
  intro l r h C w vs hvs
  unfold d90 at h
  split at h
  · rename_i a
    cases h
    obtain ⟨v, rfl, b, rfl, _, rfl⟩ := args1 hvs
    obtain ⟨v, w', h1, h2, h3⟩ := run_sqrt Pr w b
    exact ⟨v, w', h1, fun C' => h2, h3⟩
  · cases h

theorem notN_infty (s : Bool) : isN (F64.write (.infinity s)) = false := isN_write rfl
theorem write_infty_lt (s : Bool) : F64.write (.infinity s) < 2 ^ 64 := by cases s <;> decide
theorem isN_arch : isN 0x7FF8000000000001 = true := by decide
theorem nz_eq_of_read {b : Nat} {d : Ieee.Datum} (h : F64.read b = d) (hd : d.isNaN = false) : nz b = b := nz_of_not (by unfold isN; rw [h]; exact hd)

def pickN (x y : Nat) : Nat :=
  if F64.read x == .infinity false || F64.read y == .infinity false then F64.write (.infinity false)
  else if (F64.read x).isNaN || (F64.read y).isNaN then 0x7FF8000000000001
  else if (F64.read x).isZero && (F64.read y).isZero then (if (F64.read x).neg == false then x else y)
  else if (F64.read x).order (F64.read y) == some .gt then x else y
theorem fmaxA_eq (x y : Nat) : fmaxA x y = (if F64.read x == .infinity false || F64.read y == .infinity false then F64.write (.infinity false)
  else if (F64.read x).isNaN || (F64.read y).isNaN then qn
  else if (F64.read x).isZero && (F64.read y).isZero then (if (F64.read x).neg == false then x else y)
  else if (F64.read x).order (F64.read y) == some .gt then x else y) := rfl
theorem pickN_lt (x y : Nat) (hx : x < 2 ^ 64) (hy : y < 2 ^ 64) : pickN x y < 2 ^ 64 := by
  unfold pickN
  split
  · exact write_infty_lt false
  split
  · decide
  split
  · split <;> assumption
  split <;> assumption
theorem inf_nz (x : Nat) : (F64.read x == .infinity false) = (F64.read (nz x) == .infinity false) := by
  rcases nz_cases x with ey | ⟨a, b, a', b', f, f'⟩
  · rw [ey]
  · rw [f, f']; rfl
theorem nan_nz (x : Nat) : (F64.read x).isNaN = (F64.read (nz x)).isNaN := (isN_nz x).symm
theorem pickN_nz (x y : Nat) : nz (pickN x y) = fmaxA (nz x) (nz y) := by
  rw [fmaxA_eq]
  unfold pickN
  rw [inf_nz x, inf_nz y, nan_nz x, nan_nz y]
  split
  · exact nz_of_not (notN_infty false)
  split
  · exact nz_of_nan isN_arch
  · rename_i h1 h2
    have hx : nz x = x := nz_of_not (by
      have : (F64.read (nz x)).isNaN = false := by
        cases h : (F64.read (nz x)).isNaN with
        | false => rfl
        | true => rw [h] at h2; simp at h2
      rw [← nan_nz] at this; exact this)
    have hy : nz y = y := nz_of_not (by
      have : (F64.read (nz y)).isNaN = false := by
        cases h : (F64.read (nz y)).isNaN with
        | false => rfl
        | true => rw [h] at h2; simp at h2
      rw [← nan_nz] at this; exact this)
    rw [hx, hy]
    split
    · split <;> assumption
    · split <;> assumption
theorem fmax_nz (x y : Nat) (hx : x < 2 ^ 64) (hy : y < 2 ^ 64) : ∃ r, (Extern.MathDim.pick "math.archMax" false .gt #[.float .f64 x, .float .f64 y]) = pure (.float .f64 r) ∧ r < 2 ^ 64 ∧ nz r = fmaxA (nz x) (nz y) :=
  ⟨pickN x y, rfl, pickN_lt x y hx hy, pickN_nz x y⟩
/-- math.archMax -/
def d45 : List AT → Option AT
  | [.av (.one (.flt a)), .av (.one (.flt b))] => some (.av (.one (.flt (fmaxA a b))))
  | _ => none
def e45 : Ent := .of d45
theorem c45 : CallOk Pr 45 e45 := by
  refine callOk_ext (fn := Try.f45) Try.func45 rfl (by decide) (by kernel_rfl) (ex := Extern.MathDim.pick "math.archMax" false .gt) (by kernel_rfl) d45 ?_
  intro l r h C w vs hvs
  unfold d45 at h
  split at h
  · rename_i a b
    cases h
    obtain ⟨v, u, rfl, ⟨x, rfl, hx, rfl⟩, ⟨y, rfl, hy, rfl⟩⟩ := args2 hvs
    obtain ⟨r, h1, h2, h3⟩ := fmax_nz x y hx hy
    refine ⟨.float .f64 r, w, by show (Extern.MathDim.pick _ _ _ #[_, _]).run Pr w = _; rw [h1]; rfl, fun C' => ⟨r, rfl, h2, h3⟩, .inl rfl⟩
  · cases h

theorem write_lt' {d : Ieee.Datum} : F64.write d < 2 ^ 64 := F64.write_lt d
theorem isN_write_nan (s : Bool) (t : Nat) (h : t % 2 ^ 52 ≠ 0) : isN (F64.write (.nan s t)) = true := by
  have hb : t % F64.binade = t % 2 ^ 52 := by rw [F64_binade]
  show isN (F64.word s (F64.infRung + t % F64.binade)) = true
  rw [hb]
  have hlt : t % 2 ^ 52 < 2 ^ 52 := Nat.mod_lt _ (by decide)
  generalize t % 2 ^ 52 = u at *
  unfold isN Ieee.Format.read Ieee.Format.word
  have e1 : (if s then F64.signWeight + (F64.infRung + u) else (F64.infRung + u)) % F64.signWeight = F64.infRung + u := by
    rw [F64_signWeight, F64_infRung]; split <;> omega
  rw [e1, F64_infRung, F64_binade]
  simp only []
  rw [if_neg (by omega), if_neg (by omega), if_neg (by omega)]
  rfl
theorem quiet_ne (t : Nat) : F64.quiet t % 2 ^ 52 ≠ 0 := by
  unfold Ieee.Format.quiet
  intro h
  have h2 : ((t ||| 2 ^ 51) % 2 ^ 52).testBit 51 = true := by
    rw [Nat.testBit_mod_two_pow, Nat.testBit_or, Nat.testBit_two_pow_self]; simp
  have h3 : (F64.fractionBits - 1) = 51 := by decide
  rw [h3] at h
  rw [h] at h2
  simp at h2
theorem trunc_eq (x : Nat) : Extern.MathFloor.toIntegral "math.archTrunc" .zero #[.float .f64 x] = (match F64.read x with
    | .nan s t =>
      if F64.quiet t = t then pure (.float .f64 x) else (do
      let kept ← choose (.extern "math.Floor,Ceil,Trunc,RoundToEven.signallingNaN kept" 2)
      pure (.float .f64 (if kept == 1 then x else F64.write (.nan s (F64.quiet t)))))
    | d => pure (.float .f64 (F64.write (d.integral .zero)))) := rfl
theorem quiet_run (P : Program) (w : World) (x : Nat) : ∃ v w', (Extern.MathFloor.toIntegral "math.archTrunc" .zero #[.float .f64 x]).run P w = .ok v w' ∧ (x < 2 ^ 64 → FR (ftruncA (nz x)) v) ∧ (w' = w ∨ w' = w.drew) := by
  rw [trunc_eq]
  cases hx : F64.read x with
  | number s m p =>
    have hn : isN x = false := by unfold isN; rw [hx]; rfl
    refine ⟨.float .f64 (F64.write ((Ieee.Datum.number s m p).integral .zero)), w, rfl, fun _ => ?_, .inl rfl⟩
    rw [nz_of_not hn]
    unfold ftruncA
    rw [hx]
    exact fr_of (isN_write rfl) (F64.write_lt _)
  | infinity s =>
    have hn : isN x = false := by unfold isN; rw [hx]; rfl
    refine ⟨.float .f64 (F64.write ((Ieee.Datum.infinity s).integral .zero)), w, rfl, fun _ => ?_, .inl rfl⟩
    rw [nz_of_not hn]
    unfold ftruncA
    rw [hx]
    exact fr_of (isN_write rfl) (F64.write_lt _)
  | nan s t =>
    have hn : isN x = true := by unfold isN; rw [hx]; rfl
    have hq : ftruncA (nz x) = qn := by rw [nz_of_nan hn]; unfold ftruncA; obtain ⟨s, t, e⟩ := read_nan isN_qn; rw [e]
    rw [hq]
    by_cases hk : F64.quiet t = t
    · exact ⟨.float .f64 x, w, by simp only [hk, if_true]; rfl, fun h => ⟨x, rfl, h, nz_of_nan hn⟩, .inl rfl⟩
    · refine ⟨_, w.drew, by simp only [hk, if_false]; simp [Question.forced]; rfl, fun h => ?_, .inr rfl⟩
      refine ⟨_, rfl, ?_, ?_⟩
      · split
        · exact h
        · exact F64.write_lt _
      · split
        · exact nz_of_nan hn
        · exact nz_of_nan (isN_write_nan _ _ (quiet_ne t))
/-- math.archTrunc -/
def d61 : List AT → Option AT
  | [.av (.one (.flt a))] => some (.av (.one (.flt (ftruncA a))))
  | _ => none
def e61 : Ent := .of d61
theorem c61 : CallOk Pr 61 e61 := by
  refine callOk_ext (fn := Try.f61) Try.func61 rfl (by decide) (by kernel_rfl) (ex := Extern.MathFloor.toIntegral "math.archTrunc" .zero) (by kernel_rfl) d61 ?_
  intro l r h C w vs hvs
  unfold d61 at h
  split at h
  · rename_i a
    cases h
    obtain ⟨v, rfl, b, rfl, hb, rfl⟩ := args1 hvs
    obtain ⟨v, w', h1, h2, h3⟩ := quiet_run Pr w b
    exact ⟨v, w', h1, fun C' => h2 hb, h3⟩
  · cases h

/-- math.Float64bits, of what is a number -/
def d49 : List AT → Option AT
  | [.av (.one (.flt a))] => bif isN a then none else some (.av (.one (.int .u64 a)))
  | _ => none
def e49 : Ent := ⟨d49, fun l K => match l with
  | [.av (.one (.flt a))] => bif isN a then False else K (.av (.one (.int .u64 a)))
  | _ => False⟩
theorem k49 (l : List AT) (K : AT → Prop) (h : e49.k l K) : ∃ r, e49.d l = some r ∧ K r := by
  simp only [e49] at h ⊢
  unfold d49
  split at h
  · rename_i a
    revert h
    cases isN a with
    | true => intro h; exact h.elim
    | false => intro h; exact ⟨_, rfl, h⟩
  · exact h.elim
theorem c49 : CallOk Pr 49 e49 := by
  have h0 := callOk_ext (fn := Try.f49) Try.func49 rfl (by decide) (by kernel_rfl) (ex := Extern.MathFloatBits.float64bits) (by kernel_rfl) d49 ?_
  · exact ⟨k49, h0.ok⟩
  intro l r h C w vs hvs
  unfold d49 at h
  split at h
  · rename_i a
    cases ha : isN a with
    | true => rw [ha] at h; cases h
    | false =>
      rw [ha] at h
      cases h
      obtain ⟨v, rfl, b, rfl, hb, rfl⟩ := args1 hvs
      rw [isN_nz] at ha
      rw [nz_of_not ha]
      exact ⟨.int .u64 b, w, rfl, fun C' => rfl, .inl rfl⟩
  · cases h
/-- math.Float64frombits -/
def d48 : List AT → Option AT
  | [.av (.one (.int .u64 n))] => bif decide (0 ≤ n) && decide (n < 18446744073709551616) then some (.av (.one (.flt (nz n.toNat)))) else none
  | _ => none
def e48 : Ent := ⟨d48, fun l K => match l with
  | [.av (.one (.int .u64 n))] => bif decide (0 ≤ n) && decide (n < 18446744073709551616) then K (.av (.one (.flt (nz n.toNat)))) else False
  | _ => False⟩
theorem k48 (l : List AT) (K : AT → Prop) (h : e48.k l K) : ∃ r, e48.d l = some r ∧ K r := by
  simp only [e48] at h ⊢
  unfold d48
  split at h
  · rename_i n
    revert h
    cases (decide (0 ≤ n) && decide (n < 18446744073709551616)) with
    | true => intro h; exact ⟨_, rfl, h⟩
    | false => intro h; exact h.elim
  · exact h.elim
theorem c48 : CallOk Pr 48 e48 := by
  have h0 := callOk_ext (fn := Try.f48) Try.func48 rfl (by decide) (by kernel_rfl) (ex := Extern.MathFloatBits.float64frombits) (by kernel_rfl) d48 ?_
  · exact ⟨k48, h0.ok⟩
  intro l r h C w vs hvs
  unfold d48 at h
  split at h
  · rename_i n
    cases hn : (decide (0 ≤ n) && decide (n < 18446744073709551616)) with
    | false => rw [hn] at h; cases h
    | true =>
      rw [hn] at h
      cases h
      obtain ⟨v, rfl, rfl⟩ := args1 hvs
      simp only [Bool.and_eq_true, decide_eq_true_eq] at hn
      refine ⟨.float .f64 n.toNat, w, rfl, fun C' => ⟨n.toNat, rfl, ?_, rfl⟩, .inl rfl⟩
      omega
  · cases h
/-- Is a whole number one of 64 bits? (Behind a choice, so that no walk looks into it.) -/
noncomputable def okU (n : Int) : Bool := Classical.choose (⟨_, rfl⟩ : ∃ b : Bool, b = (decide (0 ≤ n) && decide (n < 18446744073709551616)))
theorem okU_eq (n : Int) : okU n = (decide (0 ≤ n) && decide (n < 18446744073709551616)) := Classical.choose_spec (⟨_, rfl⟩ : ∃ b : Bool, b = (decide (0 ≤ n) && decide (n < 18446744073709551616)))
theorem okU_wrap (n : Int) : okU (IntKind.u64.wrap n) = true := by
  rw [okU_eq]
  have e1 : (2 : Int) ^ IntKind.u64.bits = 18446744073709551616 := by decide
  have e2 : IntKind.u64.signed = false := rfl
  unfold IntKind.wrap
  simp only [e1, e2, Bool.false_and, Bool.false_eq_true, if_false, Bool.and_eq_true, decide_eq_true_eq]
  omega
/-- math.Float64frombits -/
noncomputable def d48o : List AT → Option AT
  | [.av (.one (.int .u64 n))] => bif okU n then some (.av (.one (.flt (nz n.toNat)))) else none
  | _ => none
noncomputable def e48o : Ent := ⟨d48o, fun l K => match l with
  | [.av (.one (.int .u64 n))] => bif okU n then K (.av (.one (.flt (nz n.toNat)))) else False
  | _ => False⟩
theorem k48o (l : List AT) (K : AT → Prop) (h : e48o.k l K) : ∃ r, e48o.d l = some r ∧ K r := by
  simp only [e48o] at h ⊢
  unfold d48o
  split at h
  · rename_i n
    revert h
    cases okU n with
    | true => intro h; exact ⟨_, rfl, h⟩
    | false => intro h; exact h.elim
  · exact h.elim
theorem c48o : CallOk Pr 48 e48o := by
  have h0 := callOk_ext (fn := Try.f48) Try.func48 rfl (by decide) (by kernel_rfl) (ex := Extern.MathFloatBits.float64frombits) (by kernel_rfl) d48o ?_
  · exact ⟨k48o, h0.ok⟩
  intro l r h C w vs hvs
  unfold d48o at h
  split at h
  · rename_i n
    cases hn : okU n with
    | false => rw [hn] at h; cases h
    | true =>
      rw [hn] at h
      cases h
      obtain ⟨v, rfl, rfl⟩ := args1 hvs
      rw [okU_eq] at hn
      simp only [Bool.and_eq_true, decide_eq_true_eq] at hn
      refine ⟨.float .f64 n.toNat, w, rfl, fun C' => ⟨n.toNat, rfl, ?_, rfl⟩, .inl rfl⟩
      omega
  · cases h
end Go.Proofs.Ythopjahoaljhaaa.X

/-! ## Contracts of functions of the program, laid out by a program of mine (gen.py): what each gives, as a function of its arguments; floats up to the bits of a NaN. -/
set_option linter.unusedVariables false
set_option linter.unusedSimpArgs false
set_option maxRecDepth 100000
namespace Go.Proofs.Ythopjahoaljhaaa.X
open Go Go.RowKit

/-- tumble/vec.Square -/
def vec_Square (a0 : Nat) (a1 : Nat) : Nat := vec_Dot a0 a1 a0 a1
def d21 : List AT → Option AT
  | [.av (.agg [.flt a0, .flt a1])] => some (.av (.one (.flt (vec_Square a0 a1))))
  | _ => none
def e21 : Ent := .of d21
theorem c21 : CallOk Pr 21 e21 := by
  refine callOk_auto (T := tb 6 [(58, e58)] [] []) (tb_ok (fnCons c58 (fnNil _)) (fnBNil _)) Try.func21 rfl (by decide) rfl rfl (Ent.of_k d21) ?_
  intro l r h hb
  change d21 l = some r at h
  unfold d21 at h
  split at h
  · rename_i a0 a1
    cases h
    refine ⟨rfl, rfl, by_kernel (q := AT.av (.one (.flt (vec_Dot a0 a1 a0 a1))) = (.av (.one (.flt (vec_Square a0 a1))))) (by kernel_rfl) ?_⟩
    unfold vec_Square
    rfl
  · cases h

/-- tumble/tumblelaw07.times -/
def law07_times_0 (a0 : Nat) (a1 : Nat) (b : Nat) : Nat := fmul a0 b
def law07_times_1 (a0 : Nat) (a1 : Nat) (b : Nat) : Nat := fmul a1 b
def d27 : List AT → Option AT
  | [.av (.agg [.flt a0, .flt a1]), .av (.one (.flt b))] => some (.av (.agg [(.flt (law07_times_0 a0 a1 b)), (.flt (law07_times_1 a0 a1 b))]))
  | _ => none
def e27 : Ent := .of d27
theorem c27 : CallOk Pr 27 e27 := by
  refine callOk_auto (T := tb 14 [(69, e69)] [] []) (tb_ok (fnCons c69 (fnNil _)) (fnBNil _)) Try.func27 rfl (by decide) rfl rfl (Ent.of_k d27) ?_
  intro l r h hb
  change d27 l = some r at h
  unfold d27 at h
  split at h
  · rename_i a0 a1 b
    cases h
    refine ⟨rfl, rfl, by_kernel (q := AT.av (.agg [(.flt (fmul a0 b)), (.flt (fmul a1 b))]) = (.av (.agg [(.flt (law07_times_0 a0 a1 b)), (.flt (law07_times_1 a0 a1 b))]))) (by kernel_rfl) ?_⟩
    unfold law07_times_0 law07_times_1
    rfl
  · cases h

/-- tumble/vec.Within -/
def vec_Within (a0 : Nat) (a1 : Nat) (b : Nat) : Bool := ((num_Within a0 b) && (num_Within a1 b))
def d28 : List AT → Option AT
  | [.av (.agg [.flt a0, .flt a1]), .av (.one (.flt b))] => some (.av (.one (.bool (vec_Within a0 a1 b))))
  | _ => none
def e28 : Ent := .of d28
theorem c28 : CallOk Pr 28 e28 := by
  refine callOk_auto (T := tb 15 [(64, e64)] [] []) (tb_ok (fnCons c64 (fnNil _)) (fnBNil _)) Try.func28 rfl (by decide) rfl rfl (Ent.of_k d28) ?_
  intro l r h hb
  change d28 l = some r at h
  unfold d28 at h
  split at h
  · rename_i a0 a1 b
    cases h
    refine ⟨rfl, rfl, by_kernel (q := cond (num_Within a0 b) (cond (num_Within a1 b) (AT.av (.one (.bool Bool.true)) = (.av (.one (.bool (vec_Within a0 a1 b))))) (AT.av (.one (.bool Bool.false)) = (.av (.one (.bool (vec_Within a0 a1 b)))))) (AT.av (.one (.bool Bool.false)) = (.av (.one (.bool (vec_Within a0 a1 b)))))) (by kernel_rfl) ?_⟩
    unfold vec_Within
    cases (num_Within a0 b) with
    | true =>
        cases (num_Within a1 b) with
        | true =>
            rfl
        | false =>
            rfl
    | false =>
        rfl
  · cases h

/-- tumble/tumblelaw10.c -/
def law10_c_0  : Int := (1 : Int)
def law10_c_1  : Nat := (4607182418800017408 : Nat)
def law10_c_2  : List (Nat × Nat) := List.cons (Prod.mk (0 : Nat) (0 : Nat)) List.nil
def d37 : List AT → Option AT
  | [] => some (.av (.agg [(.int .u8 law10_c_0), (.flt law10_c_1), (.sl law10_c_2)]))
  | _ => none
def e37 : Ent := .of d37
theorem c37 : CallOk Pr 37 e37 := by
  refine callOk_auto (T := tb 4 [(36, e36), (76, e76)] [] []) (tb_ok (fnCons c36 (fnCons c76 (fnNil _))) (fnBNil _)) Try.func37 rfl (by decide) rfl rfl (Ent.of_k d37) ?_
  intro l r h hb
  change d37 l = some r at h
  unfold d37 at h
  split at h
  · cases h
    refine ⟨rfl, rfl, by_kernel (q := AT.av (.agg [(.int .u8 ((1 : Int))), (.flt ((4607182418800017408 : Nat))), (.sl (List.cons (Prod.mk (0 : Nat) (0 : Nat)) List.nil))]) = (.av (.agg [(.int .u8 law10_c_0), (.flt law10_c_1), (.sl law10_c_2)]))) (by kernel_rfl) ?_⟩
    unfold law10_c_0 law10_c_1 law10_c_2
    rfl
  · cases h

/-- tumble/tumblelaw10.s -/
def law10_s_0  : Int := (2 : Int)
def law10_s_1  : Nat := (4607182418800017408 : Nat)
def law10_s_2  : List (Nat × Nat) := List.cons (Prod.mk (0 : Nat) (4616189618054758400 : Nat)) (List.cons (Prod.mk (4620693217682128896 : Nat) (4616189618054758400 : Nat)) List.nil)
def d38 : List AT → Option AT
  | [] => some (.av (.agg [(.int .u8 law10_s_0), (.flt law10_s_1), (.sl law10_s_2)]))
  | _ => none
def e38 : Ent := .of d38
theorem c38 : CallOk Pr 38 e38 := by
  refine callOk_auto (T := tb 5 [(36, e36), (76, e76)] [] []) (tb_ok (fnCons c36 (fnCons c76 (fnNil _))) (fnBNil _)) Try.func38 rfl (by decide) rfl rfl (Ent.of_k d38) ?_
  intro l r h hb
  change d38 l = some r at h
  unfold d38 at h
  split at h
  · cases h
    refine ⟨rfl, rfl, by_kernel (q := AT.av (.agg [(.int .u8 ((2 : Int))), (.flt ((4607182418800017408 : Nat))), (.sl (List.cons (Prod.mk (0 : Nat) (4616189618054758400 : Nat)) (List.cons (Prod.mk (4620693217682128896 : Nat) (4616189618054758400 : Nat)) List.nil)))]) = (.av (.agg [(.int .u8 law10_s_0), (.flt law10_s_1), (.sl law10_s_2)]))) (by kernel_rfl) ?_⟩
    unfold law10_s_0 law10_s_1 law10_s_2
    rfl
  · cases h

/-- tumble/tumblelaw10.q -/
def law10_q_0  : Int := (3 : Int)
def law10_q_1  : Nat := (0 : Nat)
def law10_q_2  : List (Nat × Nat) := List.cons (Prod.mk (4613937818241073152 : Nat) (13830554455654793216 : Nat)) (List.cons (Prod.mk (4617315517961601024 : Nat) (13830554455654793216 : Nat)) (List.cons (Prod.mk (4617315517961601024 : Nat) (4607182418800017408 : Nat)) (List.cons (Prod.mk (4613937818241073152 : Nat) (4607182418800017408 : Nat)) List.nil)))
def d39 : List AT → Option AT
  | [] => some (.av (.agg [(.int .u8 law10_q_0), (.flt law10_q_1), (.sl law10_q_2)]))
  | _ => none
def e39 : Ent := .of d39
theorem c39 : CallOk Pr 39 e39 := by
  refine callOk_auto (T := tb 7 [(36, e36), (76, e76)] [] []) (tb_ok (fnCons c36 (fnCons c76 (fnNil _))) (fnBNil _)) Try.func39 rfl (by decide) rfl rfl (Ent.of_k d39) ?_
  intro l r h hb
  change d39 l = some r at h
  unfold d39 at h
  split at h
  · cases h
    refine ⟨rfl, rfl, by_kernel (q := AT.av (.agg [(.int .u8 ((3 : Int))), (.flt ((0 : Nat))), (.sl (List.cons (Prod.mk (4613937818241073152 : Nat) (13830554455654793216 : Nat)) (List.cons (Prod.mk (4617315517961601024 : Nat) (13830554455654793216 : Nat)) (List.cons (Prod.mk (4617315517961601024 : Nat) (4607182418800017408 : Nat)) (List.cons (Prod.mk (4613937818241073152 : Nat) (4607182418800017408 : Nat)) List.nil)))))]) = (.av (.agg [(.int .u8 law10_q_0), (.flt law10_q_1), (.sl law10_q_2)]))) (by kernel_rfl) ?_⟩
    unfold law10_q_0 law10_q_1 law10_q_2
    rfl
  · cases h

/-- math.Sqrt -/
def math_Sqrt (a : Nat) : Nat := fsqrt a
def d47 : List AT → Option AT
  | [.av (.one (.flt a))] => some (.av (.one (.flt (math_Sqrt a))))
  | _ => none
def e47 : Ent := .of d47
theorem c47 : CallOk Pr 47 e47 := by
  refine callOk_auto (T := tb 5 [(90, e90)] [] []) (tb_ok (fnCons c90 (fnNil _)) (fnBNil _)) Try.func47 rfl (by decide) rfl rfl (Ent.of_k d47) ?_
  intro l r h hb
  change d47 l = some r at h
  unfold d47 at h
  split at h
  · rename_i a
    cases h
    refine ⟨rfl, rfl, by_kernel (q := AT.av (.one (.flt (fsqrt a))) = (.av (.one (.flt (math_Sqrt a))))) (by kernel_rfl) ?_⟩
    unfold math_Sqrt
    rfl
  · cases h

/-- math.Inf -/
def math_Inf (a : Int) : Nat := cond (Decidable.decide (GE.ge a (0 : Int))) (nz (Int.toNat (9218868437227405312 : Int))) (nz (Int.toNat (18442240474082181120 : Int)))
def d57 : List AT → Option AT
  | [.av (.one (.int .i64 a))] => some (.av (.one (.flt (math_Inf a))))
  | _ => none
def e57 : Ent := .of d57
theorem c57 : CallOk Pr 57 e57 := by
  refine callOk_auto (T := tb 8 [(48, e48)] [] []) (tb_ok (fnCons c48 (fnNil _)) (fnBNil _)) Try.func57 rfl (by decide) rfl rfl (Ent.of_k d57) ?_
  intro l r h hb
  change d57 l = some r at h
  unfold d57 at h
  split at h
  · rename_i a
    cases h
    refine ⟨rfl, rfl, by_kernel (q := cond (Decidable.decide (GE.ge a (0 : Int))) (AT.av (.one (.flt (nz (Int.toNat (9218868437227405312 : Int))))) = (.av (.one (.flt (math_Inf a))))) (AT.av (.one (.flt (nz (Int.toNat (18442240474082181120 : Int))))) = (.av (.one (.flt (math_Inf a)))))) (by kernel_rfl) ?_⟩
    unfold math_Inf
    cases (Decidable.decide (GE.ge a (0 : Int))) with
    | true =>
        rfl
    | false =>
        rfl
  · cases h

/-- tumble/ray.hit -/
def ray_hit_0 (a0 : Nat) (a1 : Nat) (b0 : Nat) (b1 : Nat) (c : Nat) (d0 : Nat) (d1 : Nat) : Nat := vec_More_0 a0 a1 c b0 b1
def ray_hit_1 (a0 : Nat) (a1 : Nat) (b0 : Nat) (b1 : Nat) (c : Nat) (d0 : Nat) (d1 : Nat) : Nat := vec_More_1 a0 a1 c b0 b1
def d60 : List AT → Option AT
  | [.av (.agg [.flt a0, .flt a1]), .av (.agg [.flt b0, .flt b1]), .av (.one (.flt c)), .av (.agg [.flt d0, .flt d1])] => some (.av (.agg [(.flt (ray_hit_0 a0 a1 b0 b1 c d0 d1)), (.flt (ray_hit_1 a0 a1 b0 b1 c d0 d1)), (.flt d0), (.flt d1), (.flt c)]))
  | _ => none
def e60 : Ent := .of d60
theorem c60 : CallOk Pr 60 e60 := by
  refine callOk_auto (T := tb 16 [(43, e43)] [] []) (tb_ok (fnCons c43 (fnNil _)) (fnBNil _)) Try.func60 rfl (by decide) rfl rfl (Ent.of_k d60) ?_
  intro l r h hb
  change d60 l = some r at h
  unfold d60 at h
  split at h
  · rename_i a0 a1 b0 b1 c d0 d1
    cases h
    refine ⟨rfl, rfl, by_kernel (q := AT.av (.agg [(.flt (vec_More_0 a0 a1 c b0 b1)), (.flt (vec_More_1 a0 a1 c b0 b1)), (.flt d0), (.flt d1), (.flt c)]) = (.av (.agg [(.flt (ray_hit_0 a0 a1 b0 b1 c d0 d1)), (.flt (ray_hit_1 a0 a1 b0 b1 c d0 d1)), (.flt d0), (.flt d1), (.flt c)]))) (by kernel_rfl) ?_⟩
    unfold ray_hit_0 ray_hit_1
    rfl
  · cases h

/-- tumble/tumblelaw07.circle -/
def law07_circle_0  : Int := (1 : Int)
def law07_circle_1  : Nat := (4613937818241073152 : Nat)
def law07_circle_2  : List (Nat × Nat) := List.cons (Prod.mk (4607182418800017408 : Nat) (4611686018427387904 : Nat)) List.nil
def d66 : List AT → Option AT
  | [] => some (.av (.agg [(.int .u8 law07_circle_0), (.flt law07_circle_1), (.sl law07_circle_2)]))
  | _ => none
def e66 : Ent := .of d66
theorem c66 : CallOk Pr 66 e66 := by
  refine callOk_auto (T := tb 4 [(69, e69)] [] []) (tb_ok (fnCons c69 (fnNil _)) (fnBNil _)) Try.func66 rfl (by decide) rfl rfl (Ent.of_k d66) ?_
  intro l r h hb
  change d66 l = some r at h
  unfold d66 at h
  split at h
  · cases h
    refine ⟨rfl, rfl, by_kernel (q := AT.av (.agg [(.int .u8 ((1 : Int))), (.flt ((4613937818241073152 : Nat))), (.sl (List.cons (Prod.mk (4607182418800017408 : Nat) (4611686018427387904 : Nat)) List.nil))]) = (.av (.agg [(.int .u8 law07_circle_0), (.flt law07_circle_1), (.sl law07_circle_2)]))) (by kernel_rfl) ?_⟩
    unfold law07_circle_0 law07_circle_1 law07_circle_2
    rfl
  · cases h

/-- tumble/tumblelaw07.capsule -/
def law07_capsule_0  : Int := (2 : Int)
def law07_capsule_1  : Nat := (4607182418800017408 : Nat)
def law07_capsule_2  : List (Nat × Nat) := List.cons (Prod.mk (0 : Nat) (0 : Nat)) (List.cons (Prod.mk (4616189618054758400 : Nat) (0 : Nat)) List.nil)
def d67 : List AT → Option AT
  | [] => some (.av (.agg [(.int .u8 law07_capsule_0), (.flt law07_capsule_1), (.sl law07_capsule_2)]))
  | _ => none
def e67 : Ent := .of d67
theorem c67 : CallOk Pr 67 e67 := by
  refine callOk_auto (T := tb 5 [(69, e69)] [] []) (tb_ok (fnCons c69 (fnNil _)) (fnBNil _)) Try.func67 rfl (by decide) rfl rfl (Ent.of_k d67) ?_
  intro l r h hb
  change d67 l = some r at h
  unfold d67 at h
  split at h
  · cases h
    refine ⟨rfl, rfl, by_kernel (q := AT.av (.agg [(.int .u8 ((2 : Int))), (.flt ((4607182418800017408 : Nat))), (.sl (List.cons (Prod.mk (0 : Nat) (0 : Nat)) (List.cons (Prod.mk (4616189618054758400 : Nat) (0 : Nat)) List.nil)))]) = (.av (.agg [(.int .u8 law07_capsule_0), (.flt law07_capsule_1), (.sl law07_capsule_2)]))) (by kernel_rfl) ?_⟩
    unfold law07_capsule_0 law07_capsule_1 law07_capsule_2
    rfl
  · cases h

/-- tumble/tumblelaw07.square -/
def law07_square_0  : Int := (3 : Int)
def law07_square_1  : Nat := (0 : Nat)
def law07_square_2  : List (Nat × Nat) := List.cons (Prod.mk (0 : Nat) (0 : Nat)) (List.cons (Prod.mk (4611686018427387904 : Nat) (0 : Nat)) (List.cons (Prod.mk (4611686018427387904 : Nat) (4611686018427387904 : Nat)) (List.cons (Prod.mk (0 : Nat) (4611686018427387904 : Nat)) List.nil)))
def d68 : List AT → Option AT
  | [] => some (.av (.agg [(.int .u8 law07_square_0), (.flt law07_square_1), (.sl law07_square_2)]))
  | _ => none
def e68 : Ent := .of d68
theorem c68 : CallOk Pr 68 e68 := by
  refine callOk_auto (T := tb 7 [(69, e69)] [] []) (tb_ok (fnCons c69 (fnNil _)) (fnBNil _)) Try.func68 rfl (by decide) rfl rfl (Ent.of_k d68) ?_
  intro l r h hb
  change d68 l = some r at h
  unfold d68 at h
  split at h
  · cases h
    refine ⟨rfl, rfl, by_kernel (q := AT.av (.agg [(.int .u8 ((3 : Int))), (.flt ((0 : Nat))), (.sl (List.cons (Prod.mk (0 : Nat) (0 : Nat)) (List.cons (Prod.mk (4611686018427387904 : Nat) (0 : Nat)) (List.cons (Prod.mk (4611686018427387904 : Nat) (4611686018427387904 : Nat)) (List.cons (Prod.mk (0 : Nat) (4611686018427387904 : Nat)) List.nil)))))]) = (.av (.agg [(.int .u8 law07_square_0), (.flt law07_square_1), (.sl law07_square_2)]))) (by kernel_rfl) ?_⟩
    unfold law07_square_0 law07_square_1 law07_square_2
    rfl
  · cases h

/-- tumble/num.Most[float64] -/
def num_Most (a : Nat) (b : Nat) : Nat := cond (num_none a) (b) (cond (fGt b a) (b) (cond (fEq a (0 : Nat)) (cond (fEq b (0 : Nat)) (cond (num_minus a) (b) (a)) (a)) (a)))
def d74 : List AT → Option AT
  | [.av (.one (.flt a)), .av (.one (.flt b))] => some (.av (.one (.flt (num_Most a b))))
  | _ => none
def e74 : Ent := .of d74
theorem c74 : CallOk Pr 74 e74 := by
  refine callOk_auto (T := tb 26 [(101, e101), (102, e102)] [] []) (tb_ok (fnCons c101 (fnCons c102 (fnNil _))) (fnBNil _)) Try.func74 rfl (by decide) rfl rfl (Ent.of_k d74) ?_
  intro l r h hb
  change d74 l = some r at h
  unfold d74 at h
  split at h
  · rename_i a b
    cases h
    refine ⟨rfl, rfl, by_kernel (q := cond (num_none a) (AT.av (.one (.flt b)) = (.av (.one (.flt (num_Most a b))))) (cond (fGt b a) (AT.av (.one (.flt b)) = (.av (.one (.flt (num_Most a b))))) (cond (fEq a (0 : Nat)) (cond (fEq b (0 : Nat)) (cond (num_minus a) (AT.av (.one (.flt b)) = (.av (.one (.flt (num_Most a b))))) (AT.av (.one (.flt a)) = (.av (.one (.flt (num_Most a b)))))) (AT.av (.one (.flt a)) = (.av (.one (.flt (num_Most a b)))))) (AT.av (.one (.flt a)) = (.av (.one (.flt (num_Most a b)))))))) (by kernel_rfl) ?_⟩
    unfold num_Most
    cases (num_none a) with
    | true =>
        rfl
    | false =>
        cases (fGt b a) with
        | true =>
            rfl
        | false =>
            cases (fEq a (0 : Nat)) with
            | true =>
                cases (fEq b (0 : Nat)) with
                | true =>
                    cases (num_minus a) with
                    | true =>
                        rfl
                    | false =>
                        rfl
                | false =>
                    rfl
            | false =>
                rfl
  · cases h

/-- math.NaN -/
def math_NaN  : Nat := nz (Int.toNat (9221120237041090561 : Int))
def d88 : List AT → Option AT
  | [] => some (.av (.one (.flt math_NaN)))
  | _ => none
def e88 : Ent := .of d88
theorem c88 : CallOk Pr 88 e88 := by
  refine callOk_auto (T := tb 2 [(48, e48)] [] []) (tb_ok (fnCons c48 (fnNil _)) (fnBNil _)) Try.func88 rfl (by decide) rfl rfl (Ent.of_k d88) ?_
  intro l r h hb
  change d88 l = some r at h
  unfold d88 at h
  split at h
  · cases h
    refine ⟨rfl, rfl, by_kernel (q := AT.av (.one (.flt (nz (Int.toNat (9221120237041090561 : Int))))) = (.av (.one (.flt math_NaN)))) (by kernel_rfl) ?_⟩
    unfold math_NaN
    rfl
  · cases h

/-- tumble/turn.Check -/
def turn_Check (ar : Nat) (ai : Nat) : Int := cond (fGe (turn_square ar ai) (4607182418800009216 : Nat)) (cond (fLe (turn_square ar ai) (4607182418800021504 : Nat)) ((0 : Int)) ((30 : Int))) ((30 : Int))
def d107 : List AT → Option AT
  | [.av (.one (.cpx ar ai))] => some (.av (.one (.int .i64 (turn_Check ar ai))))
  | _ => none
def e107 : Ent := .of d107
theorem c107 : CallOk Pr 107 e107 := by
  refine callOk_auto (T := tb 12 [(109, e109)] [] []) (tb_ok (fnCons c109 (fnNil _)) (fnBNil _)) Try.func107 rfl (by decide) rfl rfl (Ent.of_k d107) ?_
  intro l r h hb
  change d107 l = some r at h
  unfold d107 at h
  split at h
  · rename_i ar ai
    cases h
    refine ⟨rfl, rfl, by_kernel (q := cond (fGe (turn_square ar ai) (4607182418800009216 : Nat)) (cond (fLe (turn_square ar ai) (4607182418800021504 : Nat)) (AT.av (.one (.int .i64 ((0 : Int)))) = (.av (.one (.int .i64 (turn_Check ar ai))))) (AT.av (.one (.int .i64 ((30 : Int)))) = (.av (.one (.int .i64 (turn_Check ar ai)))))) (AT.av (.one (.int .i64 ((30 : Int)))) = (.av (.one (.int .i64 (turn_Check ar ai)))))) (by kernel_rfl) ?_⟩
    unfold turn_Check
    cases (fGe (turn_square ar ai) (4607182418800009216 : Nat)) with
    | true =>
        cases (fLe (turn_square ar ai) (4607182418800021504 : Nat)) with
        | true =>
            rfl
        | false =>
            rfl
    | false =>
        rfl
  · cases h

/-- (tumble/frame.turned).apply -/
def frame_turned_apply_0 (ar : Nat) (ai : Nat) (b0 : Nat) (b1 : Nat) : Nat := turn_Apply_0 ar ai b0 b1
def frame_turned_apply_1 (ar : Nat) (ai : Nat) (b0 : Nat) (b1 : Nat) : Nat := turn_Apply_1 ar ai b0 b1
def d108 : List AT → Option AT
  | [.av (.one (.cpx ar ai)), .av (.agg [.flt b0, .flt b1])] => some (.av (.agg [(.flt (frame_turned_apply_0 ar ai b0 b1)), (.flt (frame_turned_apply_1 ar ai b0 b1))]))
  | _ => none
def e108 : Ent := .of d108
theorem c108 : CallOk Pr 108 e108 := by
  refine callOk_auto (T := tb 8 [(110, e110)] [] []) (tb_ok (fnCons c110 (fnNil _)) (fnBNil _)) Try.func108 rfl (by decide) rfl rfl (Ent.of_k d108) ?_
  intro l r h hb
  change d108 l = some r at h
  unfold d108 at h
  split at h
  · rename_i ar ai b0 b1
    cases h
    refine ⟨rfl, rfl, by_kernel (q := AT.av (.agg [(.flt (turn_Apply_0 ar ai b0 b1)), (.flt (turn_Apply_1 ar ai b0 b1))]) = (.av (.agg [(.flt (frame_turned_apply_0 ar ai b0 b1)), (.flt (frame_turned_apply_1 ar ai b0 b1))]))) (by kernel_rfl) ?_⟩
    unfold frame_turned_apply_0 frame_turned_apply_1
    rfl
  · cases h

/-- tumble/box.Grow -/
def box_Grow_0 (a0 : Nat) (a1 : Nat) (a2 : Nat) (a3 : Nat) (b : Nat) : Nat := vec_Sub_0 a0 a1 b b
def box_Grow_1 (a0 : Nat) (a1 : Nat) (a2 : Nat) (a3 : Nat) (b : Nat) : Nat := vec_Sub_1 a0 a1 b b
def box_Grow_2 (a0 : Nat) (a1 : Nat) (a2 : Nat) (a3 : Nat) (b : Nat) : Nat := vec_Add_0 a2 a3 b b
def box_Grow_3 (a0 : Nat) (a1 : Nat) (a2 : Nat) (a3 : Nat) (b : Nat) : Nat := vec_Add_1 a2 a3 b b
def d131 : List AT → Option AT
  | [.av (.agg [.flt a0, .flt a1, .flt a2, .flt a3]), .av (.one (.flt b))] => some (.av (.agg [(.flt (box_Grow_0 a0 a1 a2 a3 b)), (.flt (box_Grow_1 a0 a1 a2 a3 b)), (.flt (box_Grow_2 a0 a1 a2 a3 b)), (.flt (box_Grow_3 a0 a1 a2 a3 b))]))
  | _ => none
def e131 : Ent := .of d131
theorem c131 : CallOk Pr 131 e131 := by
  refine callOk_auto (T := tb 18 [(13, e13), (106, e106)] [] []) (tb_ok (fnCons c13 (fnCons c106 (fnNil _))) (fnBNil _)) Try.func131 rfl (by decide) rfl rfl (Ent.of_k d131) ?_
  intro l r h hb
  change d131 l = some r at h
  unfold d131 at h
  split at h
  · rename_i a0 a1 a2 a3 b
    cases h
    refine ⟨rfl, rfl, by_kernel (q := AT.av (.agg [(.flt (vec_Sub_0 a0 a1 b b)), (.flt (vec_Sub_1 a0 a1 b b)), (.flt (vec_Add_0 a2 a3 b b)), (.flt (vec_Add_1 a2 a3 b b))]) = (.av (.agg [(.flt (box_Grow_0 a0 a1 a2 a3 b)), (.flt (box_Grow_1 a0 a1 a2 a3 b)), (.flt (box_Grow_2 a0 a1 a2 a3 b)), (.flt (box_Grow_3 a0 a1 a2 a3 b))]))) (by kernel_rfl) ?_⟩
    unfold box_Grow_0 box_Grow_1 box_Grow_2 box_Grow_3
    rfl
  · cases h

/-- tumble/num.Least[float64] -/
def num_Least (a : Nat) (b : Nat) : Nat := cond (num_none a) (b) (cond (fLt b a) (b) (cond (fEq a (0 : Nat)) (cond (fEq b (0 : Nat)) (cond (num_minus b) (b) (a)) (a)) (a)))
def d137 : List AT → Option AT
  | [.av (.one (.flt a)), .av (.one (.flt b))] => some (.av (.one (.flt (num_Least a b))))
  | _ => none
def e137 : Ent := .of d137
theorem c137 : CallOk Pr 137 e137 := by
  refine callOk_auto (T := tb 26 [(101, e101), (102, e102)] [] []) (tb_ok (fnCons c101 (fnCons c102 (fnNil _))) (fnBNil _)) Try.func137 rfl (by decide) rfl rfl (Ent.of_k d137) ?_
  intro l r h hb
  change d137 l = some r at h
  unfold d137 at h
  split at h
  · rename_i a b
    cases h
    refine ⟨rfl, rfl, by_kernel (q := cond (num_none a) (AT.av (.one (.flt b)) = (.av (.one (.flt (num_Least a b))))) (cond (fLt b a) (AT.av (.one (.flt b)) = (.av (.one (.flt (num_Least a b))))) (cond (fEq a (0 : Nat)) (cond (fEq b (0 : Nat)) (cond (num_minus b) (AT.av (.one (.flt b)) = (.av (.one (.flt (num_Least a b))))) (AT.av (.one (.flt a)) = (.av (.one (.flt (num_Least a b)))))) (AT.av (.one (.flt a)) = (.av (.one (.flt (num_Least a b)))))) (AT.av (.one (.flt a)) = (.av (.one (.flt (num_Least a b)))))))) (by kernel_rfl) ?_⟩
    unfold num_Least
    cases (num_none a) with
    | true =>
        rfl
    | false =>
        cases (fLt b a) with
        | true =>
            rfl
        | false =>
            cases (fEq a (0 : Nat)) with
            | true =>
                cases (fEq b (0 : Nat)) with
                | true =>
                    cases (num_minus b) with
                    | true =>
                        rfl
                    | false =>
                        rfl
                | false =>
                    rfl
            | false =>
                rfl
  · cases h

end Go.Proofs.Ythopjahoaljhaaa.X

/-! ## Loops: what one round does to some slots and boxes, gone on with until it leaves. -/
set_option linter.unusedVariables false
set_option linter.unusedSimpArgs false
namespace Go.Proofs.Ythopjahoaljhaaa.X
open Go Go.RowKit

inductive LV where
  | t (k : Nat)
  | b (k : Nat)
def getLV (σ : St) : LV → Option AV
  | .t k => match lk σ.env k with
    | some (.av a) => some a
    | _ => none
  | .b k => match lk σ.bx k with
    | some (.cells l) => some (.agg l)
    | some (.arr l) => some (.one (.sl l))
    | none => none
def getLVs (σ : St) : List LV → Option (List AV)
  | [] => some []
  | v :: r => match getLV σ v, getLVs σ r with
    | some a, some l => some (a :: l)
    | _, _ => none
def mkE : List LV → List AV → List (Nat × AT)
  | .t k :: r, a :: s => (k, .av a) :: mkE r s
  | .b _ :: r, _ :: s => mkE r s
  | _, _ => []
def mkB : List LV → List AV → List (Nat × Bx)
  | .b k :: r, .agg l :: s => (k, .cells l) :: mkB r s
  | .b k :: r, .one (.sl l) :: s => (k, .arr l) :: mkB r s
  | _ :: r, _ :: s => mkB r s
  | _, _ => []
def mkS (vs : List LV) (l : List AV) : St := ⟨mkE vs l, mkB vs l⟩
def codeX : XE → Nat
  | .n => 0
  | .r => 1
  | .x id => id + 2
def obsT (vl : XE → List LV) (e : XE) (σ : St) : AT :=
  match getLVs σ (vl e) with
  | some l => .tup (.one (.int .i64 (codeX e)) :: l)
  | none => .tup []
/-- Names that occur are names of boxes. -/
def closedIn (bx : List (Nat × Bx)) : List Nat → Bool
  | [] => true
  | d :: r => (match lk bx d with | some _ => true | none => false) && closedIn bx r
def nmsE : List (Nat × AT) → List Nat
  | [] => []
  | (_, v) :: r => v.nms ++ nmsE r
def clOk (vs : List LV) (l : List AV) : Bool := closedIn (mkB vs l) (nmsE (mkE vs l))

theorem closedIn_mem {bx : List (Nat × Bx)} : ∀ {l : List Nat}, closedIn bx l = true → ∀ d ∈ l, (lk bx d).isSome = true
  | [], _, d, hd => by cases hd
  | x :: r, h, d, hd => by
    simp only [closedIn, Bool.and_eq_true] at h
    rcases List.mem_cons.1 hd with rfl | hd
    · revert h; cases lk bx d <;> simp
    · exact closedIn_mem h.2 d hd
theorem nmsE_mem : ∀ {l : List (Nat × AT)} {t : Nat} {v : AT}, lk l t = some v → ∀ d ∈ v.nms, d ∈ nmsE l
  | [], t, v, h => by simp [lk] at h
  | (k, u) :: r, t, v, h => by
    intro d hd
    rw [lk_cons] at h
    simp only [nmsE, List.mem_append]
    split at h
    · cases h; exact .inl hd
    · exact .inr (nmsE_mem h d hd)

/-- Less is known. -/
theorem Holds.forget {own0 : Nat → Prop} {S0 : Sx} {w0 : World} {n : Nat} {σ τ : St} {a : Act} {w : World} (h : Holds own0 S0 w0 n σ a w)
    (he : ∀ t v, lk τ.env t = some v → lk σ.env t = some v) (hb : ∀ d c, lk τ.bx d = some c → lk σ.bx d = some c)
    (hc : ∀ t v, lk τ.env t = some v → ∀ d ∈ v.nms, (lk τ.bx d).isSome = true) : Holds own0 S0 w0 n τ a w := by
  obtain ⟨β, hI⟩ := h
  have hs : ∀ d, (lk τ.bx d).isSome = true → (lk σ.bx d).isSome = true := by
    intro d hd
    obtain ⟨c, hc⟩ := Option.isSome_iff_exists.1 hd
    rw [hb d c hc]; rfl
  have ho : ∀ b, OW own0 (lk τ.bx) β b → OW own0 (lk σ.bx) β b := by
    rintro b (h | ⟨d, hd, e⟩)
    · exact .inl h
    · exact .inr ⟨d, hs d hd, e⟩
  refine ⟨β, hI.lt0, hI.chg, hI.defers, hI.size, fun d d' h1 h2 => hI.inj d d' (hs d h1) (hs d' h2), fun d hd => hI.lt d (hs d hd), fun d hd => hI.may d (hs d hd), fun d b hn hd hb' => hI.fix d b hn (hs d hd) hb', ?_, ?_⟩
  · intro d c hd
    exact (hI.box d c (hb d c hd)).go (C := cx own0 (lk σ.bx) β w) (C' := cx own0 (lk τ.bx) β w) ⟨fun _ _ _ => rfl, fun b _ hb' => ho b hb', fun d hd _ => by cases hd⟩ rfl
  · intro t v ht
    obtain ⟨x, h1, h2⟩ := hI.env t v (he t v ht)
    exact ⟨x, h1, AT.R.go (C := cx own0 (lk σ.bx) β w) (C' := cx own0 (lk τ.bx) β w) ⟨fun _ _ _ => rfl, fun b _ hb' => ho b hb', fun d hd _ => ⟨hc t v ht d hd, rfl⟩⟩ h2⟩

theorem getLVs_env : ∀ {vs : List LV} {l : List AV} {σ : St}, getLVs σ vs = some l → ∀ t v, lk (mkE vs l) t = some v → lk σ.env t = some v
  | [], l, σ, h, t, v, hv => by simp [mkE, lk] at hv
  | .t k :: r, l, σ, h, t, v, hv => by
    simp only [getLVs] at h
    split at h
    · rename_i a l' ha hl
      cases h
      simp only [mkE, lk_cons] at hv
      split at hv
      · rename_i hk
        cases hv; subst hk
        simp only [getLV] at ha
        split at ha
        · rename_i a' ha'; cases ha; exact ha'
        · cases ha
      · exact getLVs_env hl t v hv
    · cases h
  | .b k :: r, l, σ, h, t, v, hv => by
    simp only [getLVs] at h
    split at h
    · rename_i a l' ha hl
      cases h
      simp only [mkE] at hv
      exact getLVs_env hl t v hv
    · cases h
theorem getLVs_bx : ∀ {vs : List LV} {l : List AV} {σ : St}, getLVs σ vs = some l → ∀ d c, lk (mkB vs l) d = some c → lk σ.bx d = some c
  | [], l, σ, h, t, v, hv => by simp [mkB, lk] at hv
  | .b k :: r, l, σ, h, t, v, hv => by
    simp only [getLVs] at h
    split at h
    · rename_i a l' ha hl
      cases h
      simp only [getLV] at ha
      split at ha
      · rename_i m hm
        cases ha
        simp only [mkB, lk_cons] at hv
        split at hv
        · rename_i hk; cases hv; subst hk; exact hm
        · exact getLVs_bx hl t v hv
      · rename_i m hm
        cases ha
        simp only [mkB, lk_cons] at hv
        split at hv
        · rename_i hk; cases hv; subst hk; exact hm
        · exact getLVs_bx hl t v hv
      · cases ha
    · cases h
  | .t k :: r, l, σ, h, t, v, hv => by
    simp only [getLVs] at h
    split at h
    · rename_i a l' ha hl
      cases h
      simp only [mkB] at hv
      exact getLVs_bx hl t v hv
    · cases h

theorem Holds.mk {own0 : Nat → Prop} {S0 : Sx} {w0 : World} {n : Nat} {σ : St} {a : Act} {w : World} (h : Holds own0 S0 w0 n σ a w) {vs : List LV} {l : List AV}
    (hg : getLVs σ vs = some l) (hc : clOk vs l = true) : Holds own0 S0 w0 n (mkS vs l) a w :=
  h.forget (getLVs_env hg) (getLVs_bx hg) fun t v ht d hd => closedIn_mem hc d (nmsE_mem ht d hd)

/-! ### Rounds -/
def iter {X : Type} (step : X → Sum X (XE × List AV)) : Nat → X → Option (XE × List AV)
  | 0, _ => none
  | n + 1, x => match step x with
    | .inl y => iter step n y
    | .inr r => some r
def obsOf {X : Type} (enc : X → List AV) : Sum X (XE × List AV) → AT
  | .inl y => .tup (.one (.int .i64 0) :: enc y)
  | .inr (e, l) => .tup (.one (.int .i64 (codeX e)) :: l)

theorem codeX_inj {e e' : XE} (h : (codeX e : Int) = codeX e') : e = e' := by
  have h : codeX e = codeX e' := by omega
  cases e <;> cases e' <;> simp only [codeX] at h <;> first | rfl | omega | (congr; omega)
theorem obsT_eq {vl : XE → List LV} {e e' : XE} {σ : St} {l : List AV} (h : obsT vl e σ = .tup (.one (.int .i64 (codeX e')) :: l)) : e = e' ∧ getLVs σ (vl e) = some l := by
  unfold obsT at h
  split at h
  · rename_i l' hl
    simp only [AT.tup.injEq, List.cons.injEq, AV.one.injEq, AC.int.injEq, true_and] at h
    exact ⟨codeX_inj h.1, by rw [hl, h.2]⟩
  · simp at h

def LBl (vs : List LV) (l : List AV) : Prop := ∀ k m, lk (mkE vs l) k = some (.av (.one (.sl m))) → m.length ≤ LM
theorem Holds.lb {own0 : Nat → Prop} {S0 : Sx} {w0 : World} {n : Nat} {a : Act} {w : World} {vs : List LV} {l : List AV} (h : Holds own0 S0 w0 n (mkS vs l) a w) : LBl vs l := by
  obtain ⟨β, hI⟩ := h
  intro k m hk
  obtain ⟨x, _, h2⟩ := hI.env k _ hk
  exact h2.1
theorem loop_ok {P : Program} {T : Tb} (hT : TOk P T) {c : Code} {X : Type} {vl : XE → List LV} {enc : X → List AV} {step : X → Sum X (XE × List AV)} {pre : X → Prop} {s : St → (XE → St → Prop) → Prop}
    (hl : LoopsOk P T c)
    (hs : ∀ σ K, s σ K → ∃ x n e l, pre x ∧ getLVs σ (vl .n) = some (enc x) ∧ iter step n x = some (e, l) ∧ K e (mkS (vl e) l))
    (hc : ∀ x, pre x → clOk (vl .n) (enc x) = true ∧ ∀ e l, step x = .inr (e, l) → e ≠ .n ∧ clOk (vl e) l = true)
    (hp : ∀ x y, pre x → step x = .inl y → pre y)
    (hx : ∀ x, pre x → LBl (vl .n) (enc x) → xcode T c (mkS (vl .n) (enc x)) (fun e σ => obsT vl e σ = obsOf enc (step x))) : LoopOk P T c s := by
  intro own0 S0 w0 σ K a w Q h hH hQ
  obtain ⟨x, n, e, l, h1, h2, h3, h4⟩ := hs σ K h
  refine wp_loop_rounds n ?_
  have hH' := hH.mk h2 (hc x h1).1
  clear h2 h hH hs
  induction n generalizing x a w with
  | zero => simp [iter] at h3
  | succ n ih =>
    show c.wp P _ a w
    refine xcode_sound hT c hl (hx x h1 hH'.lb) hH' ?_
    intro e' σ' a' w' hK hH''
    simp only [iter] at h3
    split at h3
    · rename_i y hy
      rw [hy] at hK
      obtain ⟨rfl, hg⟩ := obsT_eq (e' := .n) hK
      have hpy := hp x y h1 hy
      exact ih a' w' y hpy h3 (hH''.mk hg (hc y hpy).1)
    · rename_i r hr
      rw [hr] at hK
      cases h3
      obtain ⟨rfl, hg⟩ := obsT_eq (e' := e) hK
      obtain ⟨hne, hcl⟩ := (hc x h1).2 _ _ hr
      have := hQ _ _ a' w' h4 (hH''.mk hg hcl)
      cases e' with
      | n => exact absurd rfl hne
      | r => exact this
      | x id => exact this
theorem loops1 {P : Program} {T : Tb} {c b : Code} (hb : loopsOf c = [b]) {s : St → (XE → St → Prop) → Prop} (hs : lk T.loop (loopKey b) = some s) (h : LoopOk P T b s) : LoopsOk P T c := by
  intro b' s' hb' hs'
  rw [hb] at hb'
  simp only [List.mem_singleton] at hb'
  subst hb'
  rw [hs] at hs'
  cases hs'
  exact h
theorem callOk_autoL {T : Tb} (hT : TOk Pr T) {k : FuncId} {fn : Func} {code : Code} (hf : Pr.funcs[k]? = some fn) (hb : fn.body = some code) (hnm : (fn.name == "runtime.NumGoroutine") = false) (hn : T.n = fn.ntmps) (hl : LoopsOk Pr T code)
    {e : Ent} (hk : ∀ l K, e.k l K → ∃ r, e.d l = some r ∧ K r)
    (h : ∀ l r, e.d l = some r → LBs l → Nat.ble l.length fn.ntmps = true ∧ noNmT [r] = true ∧ xfun T code fn.results.toList l [] (fun r' _ => r' = r)) : CallOk Pr k e :=
  callOk_of hT hf hb hnm hn hl hk fun l r hr hb => let ⟨h1, h2, h3⟩ := h l r hr hb; ⟨Nat.le_of_ble_eq_true h1, h2, h3⟩

/-! ### Whole numbers that count -/
theorem wrap_nat {n : Nat} (h : n < 9223372036854775808) : IntKind.i64.wrap (n : Int) = n := by
  unfold IntKind.wrap
  have e1 : (2 : Int) ^ IntKind.i64.bits = 18446744073709551616 := by decide
  have e2 : (2 : Int) ^ (IntKind.i64.bits - 1) = 9223372036854775808 := by decide
  have : ((n : Int) % 18446744073709551616) = n := by omega
  simp only [e1, e2, this]
  rw [if_neg]
  simp only [Bool.and_eq_true, decide_eq_true_eq, not_and]
  omega
theorem wrap_succ {n : Nat} (h : n + 1 < 9223372036854775808) : IntKind.i64.wrap ((n : Int) + 1) = ((n + 1 : Nat) : Int) := wrap_nat (n := n + 1) h
theorem wrap_add {n m : Nat} (h : n + m < 9223372036854775808) : IntKind.i64.wrap ((n : Int) + (m : Int)) = ((n + m : Nat) : Int) := wrap_nat (n := n + m) h
theorem inRange_nat (n len : Nat) : inRange (n : Int) len = decide (n < len) := by
  unfold inRange
  by_cases h : n < len <;> simp [h]
theorem dlt (a b : Nat) : decide ((a : Int) < (b : Int)) = decide (a < b) := by
  by_cases h : a < b <;> simp [h]
end Go.Proofs.Ythopjahoaljhaaa.X

/-! ## Contracts of functions of the program, laid out by a program of mine (gen.py): what each gives, as a function of its arguments; floats up to the bits of a NaN. -/
set_option linter.unusedVariables false
set_option linter.unusedSimpArgs false
set_option maxRecDepth 100000
namespace Go.Proofs.Ythopjahoaljhaaa.X
open Go Go.RowKit

/-- tumble/vec.Length -/
def vec_Length (a0 : Nat) (a1 : Nat) : Nat := math_Sqrt (vec_Square a0 a1)
def d12 : List AT → Option AT
  | [.av (.agg [.flt a0, .flt a1])] => some (.av (.one (.flt (vec_Length a0 a1))))
  | _ => none
def e12 : Ent := .of d12
theorem c12 : CallOk Pr 12 e12 := by
  refine callOk_auto (T := tb 6 [(21, e21), (47, e47)] [] []) (tb_ok (fnCons c21 (fnCons c47 (fnNil _))) (fnBNil _)) Try.func12 rfl (by decide) rfl rfl (Ent.of_k d12) ?_
  intro l r h hb
  change d12 l = some r at h
  unfold d12 at h
  split at h
  · rename_i a0 a1
    cases h
    refine ⟨rfl, rfl, by_kernel (q := AT.av (.one (.flt (math_Sqrt (vec_Square a0 a1)))) = (.av (.one (.flt (vec_Length a0 a1))))) (by kernel_rfl) ?_⟩
    unfold vec_Length
    rfl
  · cases h

/-- tumble/near.Point -/
def near_Point_0 (a0 : Nat) (a1 : Nat) (b0 : Nat) (b1 : Nat) (c0 : Nat) (c1 : Nat) : Nat := cond (fGt (vec_Square (vec_Sub_0 b0 b1 a0 a1) (vec_Sub_1 b0 b1 a0 a1)) (0 : Nat)) (vec_More_0 a0 a1 (num_Clamp (fdiv (vec_Dot (vec_Sub_0 c0 c1 a0 a1) (vec_Sub_1 c0 c1 a0 a1) (vec_Sub_0 b0 b1 a0 a1) (vec_Sub_1 b0 b1 a0 a1)) (vec_Square (vec_Sub_0 b0 b1 a0 a1) (vec_Sub_1 b0 b1 a0 a1))) (0 : Nat) (4607182418800017408 : Nat)) (vec_Sub_0 b0 b1 a0 a1) (vec_Sub_1 b0 b1 a0 a1)) (a0)
def near_Point_1 (a0 : Nat) (a1 : Nat) (b0 : Nat) (b1 : Nat) (c0 : Nat) (c1 : Nat) : Nat := cond (fGt (vec_Square (vec_Sub_0 b0 b1 a0 a1) (vec_Sub_1 b0 b1 a0 a1)) (0 : Nat)) (vec_More_1 a0 a1 (num_Clamp (fdiv (vec_Dot (vec_Sub_0 c0 c1 a0 a1) (vec_Sub_1 c0 c1 a0 a1) (vec_Sub_0 b0 b1 a0 a1) (vec_Sub_1 b0 b1 a0 a1)) (vec_Square (vec_Sub_0 b0 b1 a0 a1) (vec_Sub_1 b0 b1 a0 a1))) (0 : Nat) (4607182418800017408 : Nat)) (vec_Sub_0 b0 b1 a0 a1) (vec_Sub_1 b0 b1 a0 a1)) (a1)
def near_Point_2 (a0 : Nat) (a1 : Nat) (b0 : Nat) (b1 : Nat) (c0 : Nat) (c1 : Nat) : Nat := cond (fGt (vec_Square (vec_Sub_0 b0 b1 a0 a1) (vec_Sub_1 b0 b1 a0 a1)) (0 : Nat)) (num_Clamp (fdiv (vec_Dot (vec_Sub_0 c0 c1 a0 a1) (vec_Sub_1 c0 c1 a0 a1) (vec_Sub_0 b0 b1 a0 a1) (vec_Sub_1 b0 b1 a0 a1)) (vec_Square (vec_Sub_0 b0 b1 a0 a1) (vec_Sub_1 b0 b1 a0 a1))) (0 : Nat) (4607182418800017408 : Nat)) ((0 : Nat))
def d35 : List AT → Option AT
  | [.av (.agg [.flt a0, .flt a1]), .av (.agg [.flt b0, .flt b1]), .av (.agg [.flt c0, .flt c1])] => some (.tup [(.agg [(.flt (near_Point_0 a0 a1 b0 b1 c0 c1)), (.flt (near_Point_1 a0 a1 b0 b1 c0 c1))]), (.one (.flt (near_Point_2 a0 a1 b0 b1 c0 c1)))])
  | _ => none
def e35 : Ent := .of d35
theorem c35 : CallOk Pr 35 e35 := by
  refine callOk_auto (T := tb 33 [(13, e13), (21, e21), (43, e43), (58, e58), (75, e75)] [] []) (tb_ok (fnCons c13 (fnCons c21 (fnCons c43 (fnCons c58 (fnCons c75 (fnNil _)))))) (fnBNil _)) Try.func35 rfl (by decide) rfl rfl (Ent.of_k d35) ?_
  intro l r h hb
  change d35 l = some r at h
  unfold d35 at h
  split at h
  · rename_i a0 a1 b0 b1 c0 c1
    cases h
    refine ⟨rfl, rfl, by_kernel (q := cond (fGt (vec_Square (vec_Sub_0 b0 b1 a0 a1) (vec_Sub_1 b0 b1 a0 a1)) (0 : Nat)) (AT.tup [(.agg [(.flt (vec_More_0 a0 a1 (num_Clamp (fdiv (vec_Dot (vec_Sub_0 c0 c1 a0 a1) (vec_Sub_1 c0 c1 a0 a1) (vec_Sub_0 b0 b1 a0 a1) (vec_Sub_1 b0 b1 a0 a1)) (vec_Square (vec_Sub_0 b0 b1 a0 a1) (vec_Sub_1 b0 b1 a0 a1))) (0 : Nat) (4607182418800017408 : Nat)) (vec_Sub_0 b0 b1 a0 a1) (vec_Sub_1 b0 b1 a0 a1))), (.flt (vec_More_1 a0 a1 (num_Clamp (fdiv (vec_Dot (vec_Sub_0 c0 c1 a0 a1) (vec_Sub_1 c0 c1 a0 a1) (vec_Sub_0 b0 b1 a0 a1) (vec_Sub_1 b0 b1 a0 a1)) (vec_Square (vec_Sub_0 b0 b1 a0 a1) (vec_Sub_1 b0 b1 a0 a1))) (0 : Nat) (4607182418800017408 : Nat)) (vec_Sub_0 b0 b1 a0 a1) (vec_Sub_1 b0 b1 a0 a1)))]), (.one (.flt (num_Clamp (fdiv (vec_Dot (vec_Sub_0 c0 c1 a0 a1) (vec_Sub_1 c0 c1 a0 a1) (vec_Sub_0 b0 b1 a0 a1) (vec_Sub_1 b0 b1 a0 a1)) (vec_Square (vec_Sub_0 b0 b1 a0 a1) (vec_Sub_1 b0 b1 a0 a1))) (0 : Nat) (4607182418800017408 : Nat))))] = (.tup [(.agg [(.flt (near_Point_0 a0 a1 b0 b1 c0 c1)), (.flt (near_Point_1 a0 a1 b0 b1 c0 c1))]), (.one (.flt (near_Point_2 a0 a1 b0 b1 c0 c1)))])) (AT.tup [(.agg [(.flt a0), (.flt a1)]), (.one (.flt ((0 : Nat))))] = (.tup [(.agg [(.flt (near_Point_0 a0 a1 b0 b1 c0 c1)), (.flt (near_Point_1 a0 a1 b0 b1 c0 c1))]), (.one (.flt (near_Point_2 a0 a1 b0 b1 c0 c1)))]))) (by kernel_rfl) ?_⟩
    unfold near_Point_0 near_Point_1 near_Point_2
    cases (fGt (vec_Square (vec_Sub_0 b0 b1 a0 a1) (vec_Sub_1 b0 b1 a0 a1)) (0 : Nat)) with
    | true =>
        rfl
    | false =>
        rfl
  · cases h

/-- tumble/ray.real -/
def ray_real (a0 : Nat) (a1 : Nat) : Bool := (vec_Within a0 a1 (4787326403894837248 : Nat))
def d63 : List AT → Option AT
  | [.av (.agg [.flt a0, .flt a1])] => some (.av (.one (.bool (ray_real a0 a1))))
  | _ => none
def e63 : Ent := .of d63
theorem c63 : CallOk Pr 63 e63 := by
  refine callOk_auto (T := tb 5 [(28, e28)] [] []) (tb_ok (fnCons c28 (fnNil _)) (fnBNil _)) Try.func63 rfl (by decide) rfl rfl (Ent.of_k d63) ?_
  intro l r h hb
  change d63 l = some r at h
  unfold d63 at h
  split at h
  · rename_i a0 a1
    cases h
    refine ⟨rfl, rfl, by_kernel (q := cond (vec_Within a0 a1 (4787326403894837248 : Nat)) (AT.av (.one (.bool Bool.true)) = (.av (.one (.bool (ray_real a0 a1))))) (AT.av (.one (.bool Bool.false)) = (.av (.one (.bool (ray_real a0 a1)))))) (by kernel_rfl) ?_⟩
    unfold ray_real
    cases (vec_Within a0 a1 (4787326403894837248 : Nat)) with
    | true =>
        rfl
    | false =>
        rfl
  · cases h

/-- tumble/shape.within -/
def shape_within (a0 : Nat) (a1 : Nat) : Int := cond (vec_Within a0 a1 (4787326403894837248 : Nat)) ((0 : Int)) ((5 : Int))
def d73 : List AT → Option AT
  | [.av (.agg [.flt a0, .flt a1])] => some (.av (.one (.int .i64 (shape_within a0 a1))))
  | _ => none
def e73 : Ent := .of d73
theorem c73 : CallOk Pr 73 e73 := by
  refine callOk_auto (T := tb 6 [(28, e28)] [] []) (tb_ok (fnCons c28 (fnNil _)) (fnBNil _)) Try.func73 rfl (by decide) rfl rfl (Ent.of_k d73) ?_
  intro l r h hb
  change d73 l = some r at h
  unfold d73 at h
  split at h
  · rename_i a0 a1
    cases h
    refine ⟨rfl, rfl, by_kernel (q := cond (vec_Within a0 a1 (4787326403894837248 : Nat)) (AT.av (.one (.int .i64 ((0 : Int)))) = (.av (.one (.int .i64 (shape_within a0 a1))))) (AT.av (.one (.int .i64 ((5 : Int)))) = (.av (.one (.int .i64 (shape_within a0 a1)))))) (by kernel_rfl) ?_⟩
    unfold shape_within
    cases (vec_Within a0 a1 (4787326403894837248 : Nat)) with
    | true =>
        rfl
    | false =>
        rfl
  · cases h

/-- (tumble/shape.circle).has -/
def shape_circle_has_0 (a0 : Nat) (a1 : Nat) (a2 : Nat) (b0 : Nat) (b1 : Nat) : Bool := (fLe (vec_Square (vec_Sub_0 b0 b1 a0 a1) (vec_Sub_1 b0 b1 a0 a1)) (fmul a2 a2))
def shape_circle_has_1 (a0 : Nat) (a1 : Nat) (a2 : Nat) (b0 : Nat) (b1 : Nat) : Int := (0 : Int)
def d130 : List AT → Option AT
  | [.av (.agg [.flt a0, .flt a1, .flt a2]), .av (.agg [.flt b0, .flt b1])] => some (.tup [(.one (.bool (shape_circle_has_0 a0 a1 a2 b0 b1))), (.one (.int .i64 (shape_circle_has_1 a0 a1 a2 b0 b1)))])
  | _ => none
def e130 : Ent := .of d130
theorem c130 : CallOk Pr 130 e130 := by
  refine callOk_auto (T := tb 17 [(13, e13), (21, e21)] [] []) (tb_ok (fnCons c13 (fnCons c21 (fnNil _))) (fnBNil _)) Try.func130 rfl (by decide) rfl rfl (Ent.of_k d130) ?_
  intro l r h hb
  change d130 l = some r at h
  unfold d130 at h
  split at h
  · rename_i a0 a1 a2 b0 b1
    cases h
    refine ⟨rfl, rfl, by_kernel (q := cond (fLe (vec_Square (vec_Sub_0 b0 b1 a0 a1) (vec_Sub_1 b0 b1 a0 a1)) (fmul a2 a2)) (AT.tup [(.one (.bool Bool.true)), (.one (.int .i64 ((0 : Int))))] = (.tup [(.one (.bool (shape_circle_has_0 a0 a1 a2 b0 b1))), (.one (.int .i64 (shape_circle_has_1 a0 a1 a2 b0 b1)))])) (AT.tup [(.one (.bool Bool.false)), (.one (.int .i64 ((0 : Int))))] = (.tup [(.one (.bool (shape_circle_has_0 a0 a1 a2 b0 b1))), (.one (.int .i64 (shape_circle_has_1 a0 a1 a2 b0 b1)))]))) (by kernel_rfl) ?_⟩
    unfold shape_circle_has_0 shape_circle_has_1
    cases (fLe (vec_Square (vec_Sub_0 b0 b1 a0 a1) (vec_Sub_1 b0 b1 a0 a1)) (fmul a2 a2)) with
    | true =>
        rfl
    | false =>
        rfl
  · cases h

/-- tumble/box.least -/
def box_least_0 (a0 : Nat) (a1 : Nat) (b0 : Nat) (b1 : Nat) : Nat := num_Least a0 b0
def box_least_1 (a0 : Nat) (a1 : Nat) (b0 : Nat) (b1 : Nat) : Nat := num_Least a1 b1
def d135 : List AT → Option AT
  | [.av (.agg [.flt a0, .flt a1]), .av (.agg [.flt b0, .flt b1])] => some (.av (.agg [(.flt (box_least_0 a0 a1 b0 b1)), (.flt (box_least_1 a0 a1 b0 b1))]))
  | _ => none
def e135 : Ent := .of d135
theorem c135 : CallOk Pr 135 e135 := by
  refine callOk_auto (T := tb 16 [(137, e137)] [] []) (tb_ok (fnCons c137 (fnNil _)) (fnBNil _)) Try.func135 rfl (by decide) rfl rfl (Ent.of_k d135) ?_
  intro l r h hb
  change d135 l = some r at h
  unfold d135 at h
  split at h
  · rename_i a0 a1 b0 b1
    cases h
    refine ⟨rfl, rfl, by_kernel (q := AT.av (.agg [(.flt (num_Least a0 b0)), (.flt (num_Least a1 b1))]) = (.av (.agg [(.flt (box_least_0 a0 a1 b0 b1)), (.flt (box_least_1 a0 a1 b0 b1))]))) (by kernel_rfl) ?_⟩
    unfold box_least_0 box_least_1
    rfl
  · cases h

/-- tumble/box.most -/
def box_most_0 (a0 : Nat) (a1 : Nat) (b0 : Nat) (b1 : Nat) : Nat := num_Most a0 b0
def box_most_1 (a0 : Nat) (a1 : Nat) (b0 : Nat) (b1 : Nat) : Nat := num_Most a1 b1
def d136 : List AT → Option AT
  | [.av (.agg [.flt a0, .flt a1]), .av (.agg [.flt b0, .flt b1])] => some (.av (.agg [(.flt (box_most_0 a0 a1 b0 b1)), (.flt (box_most_1 a0 a1 b0 b1))]))
  | _ => none
def e136 : Ent := .of d136
theorem c136 : CallOk Pr 136 e136 := by
  refine callOk_auto (T := tb 16 [(74, e74)] [] []) (tb_ok (fnCons c74 (fnNil _)) (fnBNil _)) Try.func136 rfl (by decide) rfl rfl (Ent.of_k d136) ?_
  intro l r h hb
  change d136 l = some r at h
  unfold d136 at h
  split at h
  · rename_i a0 a1 b0 b1
    cases h
    refine ⟨rfl, rfl, by_kernel (q := AT.av (.agg [(.flt (num_Most a0 b0)), (.flt (num_Most a1 b1))]) = (.av (.agg [(.flt (box_most_0 a0 a1 b0 b1)), (.flt (box_most_1 a0 a1 b0 b1))]))) (by kernel_rfl) ?_⟩
    unfold box_most_0 box_most_1
    rfl
  · cases h

/-- tumble/poly.side -/
def d53 : List AT → Option AT
  | [.av (.one (.sl a)), .av (.one (.int .i64 b))] => cond (Decidable.decide (Eq ↑(List.length a) (0 : Int))) (none) (cond (inRange (Int.tmod (Go.IntKind.wrap Go.IntKind.i64 (HAdd.hAdd b (1 : Int))) ↑(List.length a)) (List.length a)) (cond (inRange b (List.length a)) (some (AT.av (.agg [(.flt (vec_Sub_0 (Prod.fst (gp a (Int.toNat (Int.tmod (Go.IntKind.wrap Go.IntKind.i64 (HAdd.hAdd b (1 : Int))) ↑(List.length a))))) (Prod.snd (gp a (Int.toNat (Int.tmod (Go.IntKind.wrap Go.IntKind.i64 (HAdd.hAdd b (1 : Int))) ↑(List.length a))))) (Prod.fst (gp a (Int.toNat b))) (Prod.snd (gp a (Int.toNat b))))), (.flt (vec_Sub_1 (Prod.fst (gp a (Int.toNat (Int.tmod (Go.IntKind.wrap Go.IntKind.i64 (HAdd.hAdd b (1 : Int))) ↑(List.length a))))) (Prod.snd (gp a (Int.toNat (Int.tmod (Go.IntKind.wrap Go.IntKind.i64 (HAdd.hAdd b (1 : Int))) ↑(List.length a))))) (Prod.fst (gp a (Int.toNat b))) (Prod.snd (gp a (Int.toNat b)))))]))) (none)) (none))
  | _ => none
def e53 : Ent := ⟨d53, fun l K => match l with
  | [.av (.one (.sl a)), .av (.one (.int .i64 b))] => cond (Decidable.decide (Eq ↑(List.length a) (0 : Int))) (False) (cond (inRange (Int.tmod (Go.IntKind.wrap Go.IntKind.i64 (HAdd.hAdd b (1 : Int))) ↑(List.length a)) (List.length a)) (cond (inRange b (List.length a)) (K (AT.av (.agg [(.flt (vec_Sub_0 (Prod.fst (gp a (Int.toNat (Int.tmod (Go.IntKind.wrap Go.IntKind.i64 (HAdd.hAdd b (1 : Int))) ↑(List.length a))))) (Prod.snd (gp a (Int.toNat (Int.tmod (Go.IntKind.wrap Go.IntKind.i64 (HAdd.hAdd b (1 : Int))) ↑(List.length a))))) (Prod.fst (gp a (Int.toNat b))) (Prod.snd (gp a (Int.toNat b))))), (.flt (vec_Sub_1 (Prod.fst (gp a (Int.toNat (Int.tmod (Go.IntKind.wrap Go.IntKind.i64 (HAdd.hAdd b (1 : Int))) ↑(List.length a))))) (Prod.snd (gp a (Int.toNat (Int.tmod (Go.IntKind.wrap Go.IntKind.i64 (HAdd.hAdd b (1 : Int))) ↑(List.length a))))) (Prod.fst (gp a (Int.toNat b))) (Prod.snd (gp a (Int.toNat b)))))]))) (False)) (False))
  | _ => False⟩
theorem k53 (l : List AT) (K : AT → Prop) (h : e53.k l K) : ∃ r, e53.d l = some r ∧ K r := by
  simp only [e53] at h ⊢
  unfold d53
  split at h
  · rename_i a b
    revert h
    cases (Decidable.decide (Eq ↑(List.length a) (0 : Int))) with
    | true =>
        intro h; exact h.elim
    | false =>
        cases (inRange (Int.tmod (Go.IntKind.wrap Go.IntKind.i64 (HAdd.hAdd b (1 : Int))) ↑(List.length a)) (List.length a)) with
        | true =>
            cases (inRange b (List.length a)) with
            | true =>
                intro h; exact ⟨_, rfl, h⟩
            | false =>
                intro h; exact h.elim
        | false =>
            intro h; exact h.elim
  · exact h.elim
theorem c53 : CallOk Pr 53 e53 := by
  refine callOk_auto (T := tb 18 [(13, e13)] [] []) (tb_ok (fnCons c13 (fnNil _)) (fnBNil _)) Try.func53 rfl (by decide) rfl rfl k53 ?_
  intro l r h hb
  change d53 l = some r at h
  unfold d53 at h
  split at h
  · rename_i a b
    have key : (Nat.ble 2 Try.f53.ntmps = true ∧ noNmT [r] = true ∧ (cond (Decidable.decide (Eq ↑(List.length a) (0 : Int))) (False) (cond (inRange (Int.tmod (Go.IntKind.wrap Go.IntKind.i64 (HAdd.hAdd b (1 : Int))) ↑(List.length a)) (List.length a)) (cond (inRange b (List.length a)) (AT.av (.agg [(.flt (vec_Sub_0 (Prod.fst (gp a (Int.toNat (Int.tmod (Go.IntKind.wrap Go.IntKind.i64 (HAdd.hAdd b (1 : Int))) ↑(List.length a))))) (Prod.snd (gp a (Int.toNat (Int.tmod (Go.IntKind.wrap Go.IntKind.i64 (HAdd.hAdd b (1 : Int))) ↑(List.length a))))) (Prod.fst (gp a (Int.toNat b))) (Prod.snd (gp a (Int.toNat b))))), (.flt (vec_Sub_1 (Prod.fst (gp a (Int.toNat (Int.tmod (Go.IntKind.wrap Go.IntKind.i64 (HAdd.hAdd b (1 : Int))) ↑(List.length a))))) (Prod.snd (gp a (Int.toNat (Int.tmod (Go.IntKind.wrap Go.IntKind.i64 (HAdd.hAdd b (1 : Int))) ↑(List.length a))))) (Prod.fst (gp a (Int.toNat b))) (Prod.snd (gp a (Int.toNat b)))))]) = r) (False)) (False)))) := by
      revert h
      cases hc1 : (Decidable.decide (Eq ↑(List.length a) (0 : Int))) with
      | true =>
          intro h; cases h
      | false =>
          cases hc2 : (inRange (Int.tmod (Go.IntKind.wrap Go.IntKind.i64 (HAdd.hAdd b (1 : Int))) ↑(List.length a)) (List.length a)) with
          | true =>
              cases hc3 : (inRange b (List.length a)) with
              | true =>
                  intro h; cases h; exact ⟨rfl, rfl, rfl⟩
              | false =>
                  intro h; cases h
          | false =>
              intro h; cases h
    exact ⟨key.1, key.2.1, by_kernel (by kernel_rfl) key.2.2⟩
  · cases h

end Go.Proofs.Ythopjahoaljhaaa.X

/-! ## Contracts of functions of the program, laid out by a program of mine (gen.py): what each gives, as a function of its arguments; floats up to the bits of a NaN. -/
set_option linter.unusedVariables false
set_option linter.unusedSimpArgs false
set_option maxRecDepth 100000
namespace Go.Proofs.Ythopjahoaljhaaa.X
open Go Go.RowKit

/-- math.Trunc -/
def math_Trunc (a : Nat) : Nat := ftruncA a
def d22 : List AT → Option AT
  | [.av (.one (.flt a))] => some (.av (.one (.flt (math_Trunc a))))
  | _ => none
def e22 : Ent := .of d22
theorem c22 : CallOk Pr 22 e22 := by
  refine callOk_auto (T := tb 7 [(61, e61)] [] []) (tb_ok (fnCons c61 (fnNil _)) (fnBNil _)) Try.func22 rfl (by decide) rfl rfl (Ent.of_k d22) ?_
  intro l r h hb
  change d22 l = some r at h
  unfold d22 at h
  split at h
  · rename_i a
    cases h
    refine ⟨rfl, rfl, by_kernel (q := AT.av (.one (.flt (ftruncA a))) = (.av (.one (.flt (math_Trunc a))))) (by kernel_rfl) ?_⟩
    unfold math_Trunc
    rfl
  · cases h

/-- tumble/vec.Unit -/
def vec_Unit_0 (a0 : Nat) (a1 : Nat) : Nat := cond (num_Finite (vec_Length a0 a1)) (cond (fEq (vec_Length a0 a1) (0 : Nat)) ((0 : Nat)) (fdiv a0 (vec_Length a0 a1))) ((0 : Nat))
def vec_Unit_1 (a0 : Nat) (a1 : Nat) : Nat := cond (num_Finite (vec_Length a0 a1)) (cond (fEq (vec_Length a0 a1) (0 : Nat)) ((0 : Nat)) (fdiv a1 (vec_Length a0 a1))) ((0 : Nat))
def vec_Unit_2 (a0 : Nat) (a1 : Nat) : Bool := ((num_Finite (vec_Length a0 a1)) && (!(fEq (vec_Length a0 a1) (0 : Nat))))
def d42 : List AT → Option AT
  | [.av (.agg [.flt a0, .flt a1])] => some (.tup [(.agg [(.flt (vec_Unit_0 a0 a1)), (.flt (vec_Unit_1 a0 a1))]), (.one (.bool (vec_Unit_2 a0 a1)))])
  | _ => none
def e42 : Ent := .of d42
theorem c42 : CallOk Pr 42 e42 := by
  refine callOk_auto (T := tb 24 [(12, e12), (84, e84)] [] []) (tb_ok (fnCons c12 (fnCons c84 (fnNil _))) (fnBNil _)) Try.func42 rfl (by decide) rfl rfl (Ent.of_k d42) ?_
  intro l r h hb
  change d42 l = some r at h
  unfold d42 at h
  split at h
  · rename_i a0 a1
    cases h
    refine ⟨rfl, rfl, by_kernel (q := cond (num_Finite (vec_Length a0 a1)) (cond (fEq (vec_Length a0 a1) (0 : Nat)) (AT.tup [(.agg [(.flt ((0 : Nat))), (.flt ((0 : Nat)))]), (.one (.bool Bool.false))] = (.tup [(.agg [(.flt (vec_Unit_0 a0 a1)), (.flt (vec_Unit_1 a0 a1))]), (.one (.bool (vec_Unit_2 a0 a1)))])) (AT.tup [(.agg [(.flt (fdiv a0 (vec_Length a0 a1))), (.flt (fdiv a1 (vec_Length a0 a1)))]), (.one (.bool Bool.true))] = (.tup [(.agg [(.flt (vec_Unit_0 a0 a1)), (.flt (vec_Unit_1 a0 a1))]), (.one (.bool (vec_Unit_2 a0 a1)))]))) (AT.tup [(.agg [(.flt ((0 : Nat))), (.flt ((0 : Nat)))]), (.one (.bool Bool.false))] = (.tup [(.agg [(.flt (vec_Unit_0 a0 a1)), (.flt (vec_Unit_1 a0 a1))]), (.one (.bool (vec_Unit_2 a0 a1)))]))) (by kernel_rfl) ?_⟩
    unfold vec_Unit_0 vec_Unit_1 vec_Unit_2
    cases (num_Finite (vec_Length a0 a1)) with
    | true =>
        cases (fEq (vec_Length a0 a1) (0 : Nat)) with
        | true =>
            rfl
        | false =>
            rfl
    | false =>
        rfl
  · cases h

/-- tumble/ray.asked -/
def ray_asked (a0 : Nat) (a1 : Nat) (b0 : Nat) (b1 : Nat) : Int := cond (ray_real a0 a1) (cond (ray_real b0 b1) (cond (fLt (vec_Length b0 b1) (4472074429978902528 : Nat)) ((120 : Int)) ((0 : Int))) ((120 : Int))) ((5 : Int))
def d56 : List AT → Option AT
  | [.av (.agg [.flt a0, .flt a1]), .av (.agg [.flt b0, .flt b1])] => some (.av (.one (.int .i64 (ray_asked a0 a1 b0 b1))))
  | _ => none
def e56 : Ent := .of d56
theorem c56 : CallOk Pr 56 e56 := by
  refine callOk_auto (T := tb 18 [(12, e12), (63, e63)] [] []) (tb_ok (fnCons c12 (fnCons c63 (fnNil _))) (fnBNil _)) Try.func56 rfl (by decide) rfl rfl (Ent.of_k d56) ?_
  intro l r h hb
  change d56 l = some r at h
  unfold d56 at h
  split at h
  · rename_i a0 a1 b0 b1
    cases h
    refine ⟨rfl, rfl, by_kernel (q := cond (ray_real a0 a1) (cond (ray_real b0 b1) (cond (fLt (vec_Length b0 b1) (4472074429978902528 : Nat)) (AT.av (.one (.int .i64 ((120 : Int)))) = (.av (.one (.int .i64 (ray_asked a0 a1 b0 b1))))) (AT.av (.one (.int .i64 ((0 : Int)))) = (.av (.one (.int .i64 (ray_asked a0 a1 b0 b1)))))) (AT.av (.one (.int .i64 ((120 : Int)))) = (.av (.one (.int .i64 (ray_asked a0 a1 b0 b1)))))) (AT.av (.one (.int .i64 ((5 : Int)))) = (.av (.one (.int .i64 (ray_asked a0 a1 b0 b1)))))) (by kernel_rfl) ?_⟩
    unfold ray_asked
    cases (ray_real a0 a1) with
    | true =>
        cases (ray_real b0 b1) with
        | true =>
            cases (fLt (vec_Length b0 b1) (4472074429978902528 : Nat)) with
            | true =>
                rfl
            | false =>
                rfl
        | false =>
            rfl
    | false =>
        rfl
  · cases h

/-- tumble/near.Segments$1 -/
def near_Segments_1_0 (a0 : Nat) (a1 : Nat) (b0 : Nat) (b1 : Nat) (c0 : Nat) (c1 : Nat) : Nat := near_Point_0 a0 a1 b0 b1 c0 c1
def near_Segments_1_1 (a0 : Nat) (a1 : Nat) (b0 : Nat) (b1 : Nat) (c0 : Nat) (c1 : Nat) : Nat := near_Point_1 a0 a1 b0 b1 c0 c1
def d78 : List AT → Option AT
  | [.av (.agg [.flt a0, .flt a1]), .av (.agg [.flt b0, .flt b1]), .av (.agg [.flt c0, .flt c1])] => some (.av (.agg [(.flt (near_Segments_1_0 a0 a1 b0 b1 c0 c1)), (.flt (near_Segments_1_1 a0 a1 b0 b1 c0 c1))]))
  | _ => none
def e78 : Ent := .of d78
theorem c78 : CallOk Pr 78 e78 := by
  refine callOk_auto (T := tb 17 [(35, e35)] [] []) (tb_ok (fnCons c35 (fnNil _)) (fnBNil _)) Try.func78 rfl (by decide) rfl rfl (Ent.of_k d78) ?_
  intro l r h hb
  change d78 l = some r at h
  unfold d78 at h
  split at h
  · rename_i a0 a1 b0 b1 c0 c1
    cases h
    refine ⟨rfl, rfl, by_kernel (q := AT.av (.agg [(.flt (near_Point_0 a0 a1 b0 b1 c0 c1)), (.flt (near_Point_1 a0 a1 b0 b1 c0 c1))]) = (.av (.agg [(.flt (near_Segments_1_0 a0 a1 b0 b1 c0 c1)), (.flt (near_Segments_1_1 a0 a1 b0 b1 c0 c1))]))) (by kernel_rfl) ?_⟩
    unfold near_Segments_1_0 near_Segments_1_1
    rfl
  · cases h

/-- tumble/near.between -/
def near_between_0 (a0 : Nat) (a1 : Nat) (b0 : Nat) (b1 : Nat) : Nat := vec_Length (vec_Sub_0 b0 b1 a0 a1) (vec_Sub_1 b0 b1 a0 a1)
def d79 : List AT → Option AT
  | [.av (.agg [.flt a0, .flt a1]), .av (.agg [.flt b0, .flt b1])] => some (.av (.agg [(.flt (near_between_0 a0 a1 b0 b1)), (.flt a0), (.flt a1), (.flt b0), (.flt b1)]))
  | _ => none
def e79 : Ent := .of d79
theorem c79 : CallOk Pr 79 e79 := by
  refine callOk_auto (T := tb 12 [(12, e12), (13, e13)] [] []) (tb_ok (fnCons c12 (fnCons c13 (fnNil _))) (fnBNil _)) Try.func79 rfl (by decide) rfl rfl (Ent.of_k d79) ?_
  intro l r h hb
  change d79 l = some r at h
  unfold d79 at h
  split at h
  · rename_i a0 a1 b0 b1
    cases h
    refine ⟨rfl, rfl, by_kernel (q := AT.av (.agg [(.flt (vec_Length (vec_Sub_0 b0 b1 a0 a1) (vec_Sub_1 b0 b1 a0 a1))), (.flt a0), (.flt a1), (.flt b0), (.flt b1)]) = (.av (.agg [(.flt (near_between_0 a0 a1 b0 b1)), (.flt a0), (.flt a1), (.flt b0), (.flt b1)]))) (by kernel_rfl) ?_⟩
    unfold near_between_0
    rfl
  · cases h

/-- (tumble/shape.circle).check -/
def shape_circle_check (a0 : Nat) (a1 : Nat) (a2 : Nat) : Int := cond (vec_Within a0 a1 (4787326403894837248 : Nat)) (cond (shape_length a2) ((0 : Int)) ((5 : Int))) ((5 : Int))
def d128 : List AT → Option AT
  | [.av (.agg [.flt a0, .flt a1, .flt a2])] => some (.av (.one (.int .i64 (shape_circle_check a0 a1 a2))))
  | _ => none
def e128 : Ent := .of d128
theorem c128 : CallOk Pr 128 e128 := by
  refine callOk_auto (T := tb 13 [(28, e28), (133, e133)] [] []) (tb_ok (fnCons c28 (fnCons c133 (fnNil _))) (fnBNil _)) Try.func128 rfl (by decide) rfl rfl (Ent.of_k d128) ?_
  intro l r h hb
  change d128 l = some r at h
  unfold d128 at h
  split at h
  · rename_i a0 a1 a2
    cases h
    refine ⟨rfl, rfl, by_kernel (q := cond (vec_Within a0 a1 (4787326403894837248 : Nat)) (cond (shape_length a2) (AT.av (.one (.int .i64 ((0 : Int)))) = (.av (.one (.int .i64 (shape_circle_check a0 a1 a2))))) (AT.av (.one (.int .i64 ((5 : Int)))) = (.av (.one (.int .i64 (shape_circle_check a0 a1 a2)))))) (AT.av (.one (.int .i64 ((5 : Int)))) = (.av (.one (.int .i64 (shape_circle_check a0 a1 a2)))))) (by kernel_rfl) ?_⟩
    unfold shape_circle_check
    cases (vec_Within a0 a1 (4787326403894837248 : Nat)) with
    | true =>
        cases (shape_length a2) with
        | true =>
            rfl
        | false =>
            rfl
    | false =>
        rfl
  · cases h

/-- (tumble/shape.capsule).check -/
def shape_capsule_check (a0 : Nat) (a1 : Nat) (a2 : Nat) (a3 : Nat) (a4 : Nat) : Int := cond (vec_Within a0 a1 (4787326403894837248 : Nat)) (cond (vec_Within a2 a3 (4787326403894837248 : Nat)) (cond (shape_length a4) (cond (fLt (vec_Length (vec_Sub_0 a2 a3 a0 a1) (vec_Sub_1 a2 a3 a0 a1)) (4472074429978902528 : Nat)) ((6 : Int)) ((0 : Int))) ((5 : Int))) ((5 : Int))) ((5 : Int))
def d139 : List AT → Option AT
  | [.av (.agg [.flt a0, .flt a1, .flt a2, .flt a3, .flt a4])] => some (.av (.one (.int .i64 (shape_capsule_check a0 a1 a2 a3 a4))))
  | _ => none
def e139 : Ent := .of d139
theorem c139 : CallOk Pr 139 e139 := by
  refine callOk_auto (T := tb 28 [(12, e12), (13, e13), (28, e28), (133, e133)] [] []) (tb_ok (fnCons c12 (fnCons c13 (fnCons c28 (fnCons c133 (fnNil _))))) (fnBNil _)) Try.func139 rfl (by decide) rfl rfl (Ent.of_k d139) ?_
  intro l r h hb
  change d139 l = some r at h
  unfold d139 at h
  split at h
  · rename_i a0 a1 a2 a3 a4
    cases h
    refine ⟨rfl, rfl, by_kernel (q := cond (vec_Within a0 a1 (4787326403894837248 : Nat)) (cond (vec_Within a2 a3 (4787326403894837248 : Nat)) (cond (shape_length a4) (cond (fLt (vec_Length (vec_Sub_0 a2 a3 a0 a1) (vec_Sub_1 a2 a3 a0 a1)) (4472074429978902528 : Nat)) (AT.av (.one (.int .i64 ((6 : Int)))) = (.av (.one (.int .i64 (shape_capsule_check a0 a1 a2 a3 a4))))) (AT.av (.one (.int .i64 ((0 : Int)))) = (.av (.one (.int .i64 (shape_capsule_check a0 a1 a2 a3 a4)))))) (AT.av (.one (.int .i64 ((5 : Int)))) = (.av (.one (.int .i64 (shape_capsule_check a0 a1 a2 a3 a4)))))) (AT.av (.one (.int .i64 ((5 : Int)))) = (.av (.one (.int .i64 (shape_capsule_check a0 a1 a2 a3 a4)))))) (AT.av (.one (.int .i64 ((5 : Int)))) = (.av (.one (.int .i64 (shape_capsule_check a0 a1 a2 a3 a4)))))) (by kernel_rfl) ?_⟩
    unfold shape_capsule_check
    cases (vec_Within a0 a1 (4787326403894837248 : Nat)) with
    | true =>
        cases (vec_Within a2 a3 (4787326403894837248 : Nat)) with
        | true =>
            cases (shape_length a4) with
            | true =>
                cases (fLt (vec_Length (vec_Sub_0 a2 a3 a0 a1) (vec_Sub_1 a2 a3 a0 a1)) (4472074429978902528 : Nat)) with
                | true =>
                    rfl
                | false =>
                    rfl
            | false =>
                rfl
        | false =>
            rfl
    | false =>
        rfl
  · cases h

/-- (tumble/shape.capsule).has -/
def shape_capsule_has_0 (a0 : Nat) (a1 : Nat) (a2 : Nat) (a3 : Nat) (a4 : Nat) (b0 : Nat) (b1 : Nat) : Bool := (shape_circle_has_0 (vec_More_0 a0 a1 (num_Clamp (fdiv (vec_Dot (vec_Sub_0 b0 b1 a0 a1) (vec_Sub_1 b0 b1 a0 a1) (vec_Sub_0 a2 a3 a0 a1) (vec_Sub_1 a2 a3 a0 a1)) (vec_Square (vec_Sub_0 a2 a3 a0 a1) (vec_Sub_1 a2 a3 a0 a1))) (0 : Nat) (4607182418800017408 : Nat)) (vec_Sub_0 a2 a3 a0 a1) (vec_Sub_1 a2 a3 a0 a1)) (vec_More_1 a0 a1 (num_Clamp (fdiv (vec_Dot (vec_Sub_0 b0 b1 a0 a1) (vec_Sub_1 b0 b1 a0 a1) (vec_Sub_0 a2 a3 a0 a1) (vec_Sub_1 a2 a3 a0 a1)) (vec_Square (vec_Sub_0 a2 a3 a0 a1) (vec_Sub_1 a2 a3 a0 a1))) (0 : Nat) (4607182418800017408 : Nat)) (vec_Sub_0 a2 a3 a0 a1) (vec_Sub_1 a2 a3 a0 a1)) a4 b0 b1)
def shape_capsule_has_1 (a0 : Nat) (a1 : Nat) (a2 : Nat) (a3 : Nat) (a4 : Nat) (b0 : Nat) (b1 : Nat) : Int := shape_circle_has_1 (vec_More_0 a0 a1 (num_Clamp (fdiv (vec_Dot (vec_Sub_0 b0 b1 a0 a1) (vec_Sub_1 b0 b1 a0 a1) (vec_Sub_0 a2 a3 a0 a1) (vec_Sub_1 a2 a3 a0 a1)) (vec_Square (vec_Sub_0 a2 a3 a0 a1) (vec_Sub_1 a2 a3 a0 a1))) (0 : Nat) (4607182418800017408 : Nat)) (vec_Sub_0 a2 a3 a0 a1) (vec_Sub_1 a2 a3 a0 a1)) (vec_More_1 a0 a1 (num_Clamp (fdiv (vec_Dot (vec_Sub_0 b0 b1 a0 a1) (vec_Sub_1 b0 b1 a0 a1) (vec_Sub_0 a2 a3 a0 a1) (vec_Sub_1 a2 a3 a0 a1)) (vec_Square (vec_Sub_0 a2 a3 a0 a1) (vec_Sub_1 a2 a3 a0 a1))) (0 : Nat) (4607182418800017408 : Nat)) (vec_Sub_0 a2 a3 a0 a1) (vec_Sub_1 a2 a3 a0 a1)) a4 b0 b1
def d141 : List AT → Option AT
  | [.av (.agg [.flt a0, .flt a1, .flt a2, .flt a3, .flt a4]), .av (.agg [.flt b0, .flt b1])] => some (.tup [(.one (.bool (shape_capsule_has_0 a0 a1 a2 a3 a4 b0 b1))), (.one (.int .i64 (shape_capsule_has_1 a0 a1 a2 a3 a4 b0 b1)))])
  | _ => none
def e141 : Ent := .of d141
theorem c141 : CallOk Pr 141 e141 := by
  refine callOk_auto (T := tb 35 [(13, e13), (21, e21), (43, e43), (58, e58), (75, e75), (130, e130)] [] []) (tb_ok (fnCons c13 (fnCons c21 (fnCons c43 (fnCons c58 (fnCons c75 (fnCons c130 (fnNil _))))))) (fnBNil _)) Try.func141 rfl (by decide) rfl rfl (Ent.of_k d141) ?_
  intro l r h hb
  change d141 l = some r at h
  unfold d141 at h
  split at h
  · rename_i a0 a1 a2 a3 a4 b0 b1
    cases h
    refine ⟨rfl, rfl, by_kernel (q := cond (shape_circle_has_0 (vec_More_0 a0 a1 (num_Clamp (fdiv (vec_Dot (vec_Sub_0 b0 b1 a0 a1) (vec_Sub_1 b0 b1 a0 a1) (vec_Sub_0 a2 a3 a0 a1) (vec_Sub_1 a2 a3 a0 a1)) (vec_Square (vec_Sub_0 a2 a3 a0 a1) (vec_Sub_1 a2 a3 a0 a1))) (0 : Nat) (4607182418800017408 : Nat)) (vec_Sub_0 a2 a3 a0 a1) (vec_Sub_1 a2 a3 a0 a1)) (vec_More_1 a0 a1 (num_Clamp (fdiv (vec_Dot (vec_Sub_0 b0 b1 a0 a1) (vec_Sub_1 b0 b1 a0 a1) (vec_Sub_0 a2 a3 a0 a1) (vec_Sub_1 a2 a3 a0 a1)) (vec_Square (vec_Sub_0 a2 a3 a0 a1) (vec_Sub_1 a2 a3 a0 a1))) (0 : Nat) (4607182418800017408 : Nat)) (vec_Sub_0 a2 a3 a0 a1) (vec_Sub_1 a2 a3 a0 a1)) a4 b0 b1) (AT.tup [(.one (.bool Bool.true)), (.one (.int .i64 (shape_circle_has_1 (vec_More_0 a0 a1 (num_Clamp (fdiv (vec_Dot (vec_Sub_0 b0 b1 a0 a1) (vec_Sub_1 b0 b1 a0 a1) (vec_Sub_0 a2 a3 a0 a1) (vec_Sub_1 a2 a3 a0 a1)) (vec_Square (vec_Sub_0 a2 a3 a0 a1) (vec_Sub_1 a2 a3 a0 a1))) (0 : Nat) (4607182418800017408 : Nat)) (vec_Sub_0 a2 a3 a0 a1) (vec_Sub_1 a2 a3 a0 a1)) (vec_More_1 a0 a1 (num_Clamp (fdiv (vec_Dot (vec_Sub_0 b0 b1 a0 a1) (vec_Sub_1 b0 b1 a0 a1) (vec_Sub_0 a2 a3 a0 a1) (vec_Sub_1 a2 a3 a0 a1)) (vec_Square (vec_Sub_0 a2 a3 a0 a1) (vec_Sub_1 a2 a3 a0 a1))) (0 : Nat) (4607182418800017408 : Nat)) (vec_Sub_0 a2 a3 a0 a1) (vec_Sub_1 a2 a3 a0 a1)) a4 b0 b1)))] = (.tup [(.one (.bool (shape_capsule_has_0 a0 a1 a2 a3 a4 b0 b1))), (.one (.int .i64 (shape_capsule_has_1 a0 a1 a2 a3 a4 b0 b1)))])) (AT.tup [(.one (.bool Bool.false)), (.one (.int .i64 (shape_circle_has_1 (vec_More_0 a0 a1 (num_Clamp (fdiv (vec_Dot (vec_Sub_0 b0 b1 a0 a1) (vec_Sub_1 b0 b1 a0 a1) (vec_Sub_0 a2 a3 a0 a1) (vec_Sub_1 a2 a3 a0 a1)) (vec_Square (vec_Sub_0 a2 a3 a0 a1) (vec_Sub_1 a2 a3 a0 a1))) (0 : Nat) (4607182418800017408 : Nat)) (vec_Sub_0 a2 a3 a0 a1) (vec_Sub_1 a2 a3 a0 a1)) (vec_More_1 a0 a1 (num_Clamp (fdiv (vec_Dot (vec_Sub_0 b0 b1 a0 a1) (vec_Sub_1 b0 b1 a0 a1) (vec_Sub_0 a2 a3 a0 a1) (vec_Sub_1 a2 a3 a0 a1)) (vec_Square (vec_Sub_0 a2 a3 a0 a1) (vec_Sub_1 a2 a3 a0 a1))) (0 : Nat) (4607182418800017408 : Nat)) (vec_Sub_0 a2 a3 a0 a1) (vec_Sub_1 a2 a3 a0 a1)) a4 b0 b1)))] = (.tup [(.one (.bool (shape_capsule_has_0 a0 a1 a2 a3 a4 b0 b1))), (.one (.int .i64 (shape_capsule_has_1 a0 a1 a2 a3 a4 b0 b1)))]))) (by kernel_rfl) ?_⟩
    unfold shape_capsule_has_0 shape_capsule_has_1
    cases (shape_circle_has_0 (vec_More_0 a0 a1 (num_Clamp (fdiv (vec_Dot (vec_Sub_0 b0 b1 a0 a1) (vec_Sub_1 b0 b1 a0 a1) (vec_Sub_0 a2 a3 a0 a1) (vec_Sub_1 a2 a3 a0 a1)) (vec_Square (vec_Sub_0 a2 a3 a0 a1) (vec_Sub_1 a2 a3 a0 a1))) (0 : Nat) (4607182418800017408 : Nat)) (vec_Sub_0 a2 a3 a0 a1) (vec_Sub_1 a2 a3 a0 a1)) (vec_More_1 a0 a1 (num_Clamp (fdiv (vec_Dot (vec_Sub_0 b0 b1 a0 a1) (vec_Sub_1 b0 b1 a0 a1) (vec_Sub_0 a2 a3 a0 a1) (vec_Sub_1 a2 a3 a0 a1)) (vec_Square (vec_Sub_0 a2 a3 a0 a1) (vec_Sub_1 a2 a3 a0 a1))) (0 : Nat) (4607182418800017408 : Nat)) (vec_Sub_0 a2 a3 a0 a1) (vec_Sub_1 a2 a3 a0 a1)) a4 b0 b1) with
    | true =>
        rfl
    | false =>
        rfl
  · cases h

/-- tumble/frame.Check -/
def frame_Check (a0 : Nat) (a1 : Nat) (a2r : Nat) (a2i : Nat) : Int := cond (vec_Within a0 a1 (4787326403894837248 : Nat)) (turn_Check a2r a2i) ((5 : Int))
def d96 : List AT → Option AT
  | [.av (.agg [.flt a0, .flt a1, .cpx a2r a2i])] => some (.av (.one (.int .i64 (frame_Check a0 a1 a2r a2i))))
  | _ => none
def e96 : Ent := .of d96
theorem c96 : CallOk Pr 96 e96 := by
  refine callOk_auto (T := tb 10 [(28, e28), (107, e107)] [] []) (tb_ok (fnCons c28 (fnCons c107 (fnNil _))) (fnBNil _)) Try.func96 rfl (by decide) rfl rfl (Ent.of_k d96) ?_
  intro l r h hb
  change d96 l = some r at h
  unfold d96 at h
  split at h
  · rename_i a0 a1 a2r a2i
    cases h
    refine ⟨rfl, rfl, by_kernel (q := cond (vec_Within a0 a1 (4787326403894837248 : Nat)) (AT.av (.one (.int .i64 (turn_Check a2r a2i))) = (.av (.one (.int .i64 (frame_Check a0 a1 a2r a2i))))) (AT.av (.one (.int .i64 ((5 : Int)))) = (.av (.one (.int .i64 (frame_Check a0 a1 a2r a2i)))))) (by kernel_rfl) ?_⟩
    unfold frame_Check
    cases (vec_Within a0 a1 (4787326403894837248 : Nat)) with
    | true =>
        rfl
    | false =>
        rfl
  · cases h

/-- math.Max -/
def math_Max (a : Nat) (b : Nat) : Nat := fmaxA a b
def d11 : List AT → Option AT
  | [.av (.one (.flt a)), .av (.one (.flt b))] => some (.av (.one (.flt (math_Max a b))))
  | _ => none
def e11 : Ent := .of d11
theorem c11 : CallOk Pr 11 e11 := by
  refine callOk_auto (T := tb 11 [(45, e45)] [] []) (tb_ok (fnCons c45 (fnNil _)) (fnBNil _)) Try.func11 rfl (by decide) rfl rfl (Ent.of_k d11) ?_
  intro l r h hb
  change d11 l = some r at h
  unfold d11 at h
  split at h
  · rename_i a b
    cases h
    refine ⟨rfl, rfl, by_kernel (q := AT.av (.one (.flt (fmaxA a b))) = (.av (.one (.flt (math_Max a b))))) (by kernel_rfl) ?_⟩
    unfold math_Max
    rfl
  · cases h

end Go.Proofs.Ythopjahoaljhaaa.X

/-! ## Loops that ask one thing of all numbers from one on, and leave at the first that fails. -/
set_option linter.unusedVariables false
set_option linter.unusedSimpArgs false
namespace Go.Proofs.Ythopjahoaljhaaa.X
open Go Go.RowKit

/-- The first number from 'i' on, of 'n', of which it is false. -/
def fstF (f : Nat → Bool) : Nat → Nat → Option Nat
  | _, 0 => none
  | i, n + 1 => bif f i then fstF f (i + 1) n else some i
def allF (f : Nat → Bool) : Nat → Nat → Bool
  | _, 0 => true
  | i, n + 1 => f i && allF f (i + 1) n
theorem fstF_none {f : Nat → Bool} : ∀ {n i : Nat}, allF f i n = true → fstF f i n = none
  | 0, _, _ => rfl
  | n + 1, i, h => by
    simp only [allF, Bool.and_eq_true] at h
    simp only [fstF, h.1, cond_true]; exact fstF_none h.2
theorem fstF_some {f : Nat → Bool} : ∀ {n i : Nat}, allF f i n = false → ∃ j, fstF f i n = some j
  | 0, _, h => by simp [allF] at h
  | n + 1, i, h => by
    simp only [allF] at h
    simp only [fstF]
    cases hf : f i with
    | true => rw [hf] at h; exact fstF_some (by simpa using h)
    | false => exact ⟨i, rfl⟩
theorem fstF_lt {f : Nat → Bool} : ∀ {n i j : Nat}, fstF f i n = some j → i ≤ j ∧ j < i + n ∧ f j = false
  | 0, _, _, h => by simp [fstF] at h
  | n + 1, i, j, h => by
    simp only [fstF] at h
    cases hf : f i with
    | true => rw [hf] at h; obtain ⟨h1, h2, h3⟩ := fstF_lt h; exact ⟨by omega, by omega, h3⟩
    | false => rw [hf] at h; cases h; exact ⟨Nat.le_refl _, by omega, hf⟩
theorem allF_iff {f : Nat → Bool} : ∀ {n i : Nat}, allF f i n = true ↔ ∀ j, i ≤ j → j < i + n → f j = true
  | 0, i => ⟨fun _ j h1 h2 => by omega, fun _ => rfl⟩
  | n + 1, i => by
    simp only [allF, Bool.and_eq_true, allF_iff (n := n)]
    constructor
    · rintro ⟨h1, h2⟩ j hj hj'
      by_cases e : j = i
      · subst e; exact h1
      · exact h2 j (by omega) (by omega)
    · intro h; exact ⟨h i (Nat.le_refl _) (by omega), fun j h1 h2 => h j (by omega) (by omega)⟩

def stF {Ctx : Type} (N : Ctx → Nat) (f : Ctx → Nat → Bool) (xd : Nat) (done : Ctx → List AV) (bad : Ctx → Nat → List AV) (x : Ctx × Nat) : Sum (Ctx × Nat) (XE × List AV) :=
  if x.2 < N x.1 then (bif f x.1 x.2 then .inl (x.1, x.2 + 1) else .inr (.r, bad x.1 x.2)) else .inr (.x xd, done x.1)
theorem itF {Ctx : Type} (N : Ctx → Nat) (f : Ctx → Nat → Bool) (xd : Nat) (done : Ctx → List AV) (bad : Ctx → Nat → List AV) (c : Ctx) : ∀ n i, i + n = N c →
    iter (stF N f xd done bad) (n + 1) (c, i) = some (match fstF (f c) i n with | none => (.x xd, done c) | some j => (.r, bad c j)) := by
  intro n
  induction n with
  | zero =>
    intro i h
    have : ¬ i < N c := by omega
    simp only [iter, stF, if_neg this, fstF]
  | succ n ih =>
    intro i h
    have hi : i < N c := by omega
    rw [iter, stF, if_pos hi]
    simp only [fstF]
    cases hf : f c i with
    | true => exact ih (i + 1) (by omega)
    | false => rfl
theorem all_ok {P : Program} {T : Tb} (hT : TOk P T) {c : Code} {vl : XE → List LV} {Ctx : Type} {enc : Ctx → Nat → List AV} {N : Ctx → Nat} {f : Ctx → Nat → Bool} {xd : Nat} {done : Ctx → List AV} {bad : Ctx → Nat → List AV} {pre : Ctx → Prop}
    {s : St → (XE → St → Prop) → Prop} (hl : LoopsOk P T c)
    (hs : ∀ σ K, s σ K → ∃ x i, pre x ∧ i ≤ N x ∧ getLVs σ (vl .n) = some (enc x i) ∧ (match fstF (f x) i (N x - i) with | none => K (.x xd) (mkS (vl (.x xd)) (done x)) | some j => K .r (mkS (vl .r) (bad x j))))
    (hc : ∀ x i, pre x → clOk (vl .n) (enc x i) = true ∧ clOk (vl (.x xd)) (done x) = true ∧ clOk (vl .r) (bad x i) = true)
    (hx : ∀ x i, pre x → i ≤ N x → LBl (vl .n) (enc x i) → xcode T c (mkS (vl .n) (enc x i)) (fun e σ => obsT vl e σ =
      bif decide (i < N x) then (bif f x i then .tup (.one (.int .i64 0) :: enc x (i + 1)) else .tup (.one (.int .i64 1) :: bad x i)) else .tup (.one (.int .i64 ((xd + 2 : Nat) : Int)) :: done x))) : LoopOk P T c s := by
  refine loop_ok hT (vl := vl) (enc := fun x => enc x.1 x.2) (step := stF N f xd done bad) (pre := fun x => pre x.1 ∧ x.2 ≤ N x.1) hl ?_ ?_ ?_ ?_
  · intro σ K h
    obtain ⟨x, i, h1, h2, h3, h4⟩ := hs σ K h
    have hi := itF N f xd done bad x (N x - i) i (by omega)
    cases hf : fstF (f x) i (N x - i) with
    | none => rw [hf] at h4 hi; exact ⟨(x, i), _, _, _, ⟨h1, h2⟩, h3, hi, h4⟩
    | some j => rw [hf] at h4 hi; exact ⟨(x, i), _, _, _, ⟨h1, h2⟩, h3, hi, h4⟩
  · rintro ⟨x, i⟩ ⟨h1, h2⟩
    refine ⟨(hc x i h1).1, fun e l hs => ?_⟩
    simp only [stF] at hs
    split at hs
    · cases hf : f x i with
      | true => rw [hf] at hs; cases hs
      | false => rw [hf] at hs; cases hs; exact ⟨by simp, (hc x i h1).2.2⟩
    · cases hs; exact ⟨by simp, (hc x i h1).2.1⟩
  · rintro ⟨x, i⟩ y ⟨h1, h2⟩ hs
    simp only [stF] at hs
    split at hs
    · cases hf : f x i with
      | true => rw [hf] at hs; cases hs; exact ⟨h1, by simp only; omega⟩
      | false => rw [hf] at hs; cases hs
    · cases hs
  · rintro ⟨x, i⟩ ⟨h1, h2⟩ hb
    have := hx x i h1 h2 hb
    have e : (bif decide (i < N x) then (bif f x i then AT.tup (.one (.int .i64 0) :: enc x (i + 1)) else .tup (.one (.int .i64 1) :: bad x i)) else .tup (.one (.int .i64 ((xd + 2 : Nat) : Int)) :: done x)) = obsOf (fun x => enc x.1 x.2) (stF N f xd done bad (x, i)) := by
      simp only [stF]
      by_cases hi : i < N x
      · rw [if_pos hi, decide_eq_true hi]
        cases f x i <;> rfl
      · rw [if_neg hi, decide_eq_false hi]; rfl
    simp only [e] at this
    exact this
theorem tmod_nat (a b : Nat) : Int.tmod (a : Int) (b : Int) = ((a % b : Nat) : Int) := by
  rw [Int.tmod_eq_emod_of_nonneg (by omega)]; rfl
end Go.Proofs.Ythopjahoaljhaaa.X

/-! ## vec.Right (three rounds) and poly.reals (a loop over points). -/
set_option linter.unusedVariables false
set_option linter.unusedSimpArgs false
set_option maxRecDepth 100000
namespace Go.Proofs.Ythopjahoaljhaaa.X
open Go Go.RowKit

noncomputable def b91 : Code := ((loopsOf (Try.f91.body.getD .skip)).getD 0 .skip)
def vl91 : XE → List LV := fun
  | .n => [.t 1, .b 1, .t 2, .b 2, .t 3]
  | _ => [.t 1, .b 1, .t 2, .b 2]

theorem t91 (i : Nat) (x : Nat) (y : Nat) (R : AT) (h : cond (Decidable.decide (LT.lt (Nat.cast i : Int) (3 : Int))) (AT.tup [(.one (.int .i64 ((Nat.cast (codeX XE.n) : Int)))), (.one (.lp ((1 : Nat)) ((0 : Nat)))), (.agg [(.flt (vec_Left_0 x y)), (.flt x)]), (.one (.lp ((2 : Nat)) ((0 : Nat)))), (.agg [(.flt ((0 : Nat))), (.flt ((0 : Nat)))]), (.one (.int .i64 (Go.IntKind.wrap Go.IntKind.i64 (HAdd.hAdd (Nat.cast i : Int) (1 : Int)))))] = R) (AT.tup [(.one (.int .i64 ((Nat.cast (codeX (XE.x (0 : Nat))) : Int)))), (.one (.lp ((1 : Nat)) ((0 : Nat)))), (.agg [(.flt x), (.flt y)]), (.one (.lp ((2 : Nat)) ((0 : Nat)))), (.agg [(.flt ((0 : Nat))), (.flt ((0 : Nat)))])] = R)) : xcode (tb 9 [(103, e103)] [] []) b91 (mkS (vl91 .n) [.one (.lp 1 0), .agg [.flt x, .flt y], .one (.lp 2 0), .agg [.flt 0, .flt 0], .one (.int .i64 i)]) (fun e σ => obsT vl91 e σ = R) := by_kernel (q := cond (Decidable.decide (LT.lt (Nat.cast i : Int) (3 : Int))) (AT.tup [(.one (.int .i64 ((Nat.cast (codeX XE.n) : Int)))), (.one (.lp ((1 : Nat)) ((0 : Nat)))), (.agg [(.flt (vec_Left_0 x y)), (.flt x)]), (.one (.lp ((2 : Nat)) ((0 : Nat)))), (.agg [(.flt ((0 : Nat))), (.flt ((0 : Nat)))]), (.one (.int .i64 (Go.IntKind.wrap Go.IntKind.i64 (HAdd.hAdd (Nat.cast i : Int) (1 : Int)))))] = R) (AT.tup [(.one (.int .i64 ((Nat.cast (codeX (XE.x (0 : Nat))) : Int)))), (.one (.lp ((1 : Nat)) ((0 : Nat)))), (.agg [(.flt x), (.flt y)]), (.one (.lp ((2 : Nat)) ((0 : Nat)))), (.agg [(.flt ((0 : Nat))), (.flt ((0 : Nat)))])] = R)) (by kernel_rfl) h

def vRight0 (x y : Nat) : Nat := vec_Left_0 (vec_Left_0 (vec_Left_0 x y) x) (vec_Left_0 x y)
def vRight1 (x y : Nat) : Nat := vec_Left_0 (vec_Left_0 x y) x
def enc91 (x : Nat × Nat × Nat) : List AV := [.one (.lp 1 0), .agg [.flt x.2.1, .flt x.2.2], .one (.lp 2 0), .agg [.flt 0, .flt 0], .one (.int .i64 x.1)]
def st91 (x : Nat × Nat × Nat) : Sum (Nat × Nat × Nat) (XE × List AV) :=
  if x.1 < 3 then .inl (x.1 + 1, vec_Left_0 x.2.1 x.2.2, x.2.1) else .inr (.x 0, [.one (.lp 1 0), .agg [.flt x.2.1, .flt x.2.2], .one (.lp 2 0), .agg [.flt 0, .flt 0]])
def s91 (σ : St) (K : XE → St → Prop) : Prop :=
  match getLVs σ (vl91 .n) with
  | some [.one (.lp 1 0), .agg [.flt x, .flt y], .one (.lp 2 0), .agg [.flt 0, .flt 0], .one (.int .i64 0)] =>
    K (.x 0) ⟨[(1, .av (.one (.lp 1 0))), (2, .av (.one (.lp 2 0)))], [(1, .cells [.flt (vRight0 x y), .flt (vRight1 x y)]), (2, .cells [.flt 0, .flt 0])]⟩
  | _ => False
theorem lo91 : LoopOk Pr (tb 9 [(103, e103)] [] []) b91 s91 := by
  refine loop_ok (tb_ok (fnCons c103 (fnNil _)) (fnBNil _)) (vl := vl91) (enc := enc91) (step := st91) (pre := fun x => x.1 ≤ 3) (noLoops (by kernel_rfl)) ?_ ?_ ?_ ?_
  · intro σ K h
    unfold s91 at h
    split at h
    · rename_i x y hg
      exact ⟨(0, x, y), 4, _, _, by simp, hg, rfl, h⟩
    · exact h.elim
  · rintro ⟨i, x, y⟩ h
    refine ⟨rfl, fun e l hs => ?_⟩
    simp only [st91] at hs
    split at hs
    · cases hs
    · cases hs; exact ⟨by simp, rfl⟩
  · rintro ⟨i, x, y⟩ z h hs
    simp only [st91] at hs
    split at hs
    · cases hs; simp only; omega
    · cases hs
  · rintro ⟨i, x, y⟩ h hb
    apply t91
    simp only [st91]
    have e3 : decide ((i : Int) < 3) = decide (i < 3) := dlt i 3
    rw [e3]
    by_cases hi : i < 3
    · rw [if_pos hi, decide_eq_true hi, wrap_succ (by simp only at h; omega)]; rfl
    · rw [if_neg hi, decide_eq_false hi]; rfl

noncomputable def b52 : Code := ((loopsOf (Try.f52.body.getD .skip)).getD 0 .skip)
def vl52 : XE → List LV := fun
  | .n => [.t 8, .t 9, .t 10]
  | .r => [.t 2]
  | _ => []

theorem t52 (i : Nat) (l : List (Nat × Nat)) (R : AT) (h : cond (Decidable.decide (LT.lt (Nat.cast i : Int) (Nat.cast (List.length l) : Int))) (cond (inRange ((Nat.cast i : Int)) (List.length l)) (cond (vec_Within (Prod.fst (gp l (Int.toNat (Nat.cast i : Int)))) (Prod.snd (gp l (Int.toNat (Nat.cast i : Int)))) (4787326403894837248 : Nat)) (AT.tup [(.one (.int .i64 ((Nat.cast (codeX XE.n) : Int)))), (.one (.sl l)), (.one (.int .i64 ((Nat.cast (List.length l) : Int)))), (.one (.int .i64 (Go.IntKind.wrap Go.IntKind.i64 (HAdd.hAdd (Nat.cast i : Int) (1 : Int)))))] = R) (AT.tup [(.one (.int .i64 ((Nat.cast (codeX XE.r) : Int)))), (.one (.int .i64 ((5 : Int))))] = R)) (False)) (AT.tup [(.one (.int .i64 ((Nat.cast (codeX (XE.x (0 : Nat))) : Int))))] = R)) : xcode (tb 18 [(28, e28)] [] []) b52 (mkS (vl52 .n) [.one (.sl l), .one (.int .i64 l.length), .one (.int .i64 i)]) (fun e σ => obsT vl52 e σ = R) := by_kernel (q := cond (Decidable.decide (LT.lt (Nat.cast i : Int) (Nat.cast (List.length l) : Int))) (cond (inRange ((Nat.cast i : Int)) (List.length l)) (cond (vec_Within (Prod.fst (gp l (Int.toNat (Nat.cast i : Int)))) (Prod.snd (gp l (Int.toNat (Nat.cast i : Int)))) (4787326403894837248 : Nat)) (AT.tup [(.one (.int .i64 ((Nat.cast (codeX XE.n) : Int)))), (.one (.sl l)), (.one (.int .i64 ((Nat.cast (List.length l) : Int)))), (.one (.int .i64 (Go.IntKind.wrap Go.IntKind.i64 (HAdd.hAdd (Nat.cast i : Int) (1 : Int)))))] = R) (AT.tup [(.one (.int .i64 ((Nat.cast (codeX XE.r) : Int)))), (.one (.int .i64 ((5 : Int))))] = R)) (False)) (AT.tup [(.one (.int .i64 ((Nat.cast (codeX (XE.x (0 : Nat))) : Int))))] = R)) (by kernel_rfl) h

/-- Are all from a place on within? -/
def inAll (l : List (Nat × Nat)) : Bool := l.all fun p => vec_Within p.1 p.2 4787326403894837248
def enc52 (x : Nat × List (Nat × Nat)) : List AV := [.one (.sl x.2), .one (.int .i64 x.2.length), .one (.int .i64 x.1)]
def st52 (x : Nat × List (Nat × Nat)) : Sum (Nat × List (Nat × Nat)) (XE × List AV) :=
  if x.1 < x.2.length then (bif vec_Within (gp x.2 x.1).1 (gp x.2 x.1).2 4787326403894837248 then .inl (x.1 + 1, x.2) else .inr (.r, [.one (.int .i64 5)])) else .inr (.x 0, [])
def s52 (σ : St) (K : XE → St → Prop) : Prop :=
  match getLVs σ (vl52 .n) with
  | some [.one (.sl l), .one (.int .i64 n), .one (.int .i64 0)] => n = l.length ∧ (bif inAll l then K (.x 0) ⟨[], []⟩ else K .r ⟨[(2, .av (.one (.int .i64 5)))], []⟩)
  | _ => False
theorem gp_drop (l : List (Nat × Nat)) (i : Nat) (h : i < l.length) : l.drop i = gp l i :: l.drop (i + 1) := by
  rw [List.drop_eq_getElem_cons h]; simp [gp, List.getElem?_eq_getElem h]
theorem it52 (l : List (Nat × Nat)) : ∀ n i, i + n = l.length → iter st52 (n + 1) (i, l) = some (bif inAll (l.drop i) then (.x 0, []) else (.r, [.one (.int .i64 5)])) := by
  intro n
  induction n with
  | zero =>
    intro i h
    have : ¬ i < l.length := by omega
    have hd : l.drop i = [] := List.drop_eq_nil_of_le (by omega)
    simp [iter, st52, this, hd, inAll]
  | succ n ih =>
    intro i h
    have hi : i < l.length := by omega
    rw [iter, st52, if_pos hi, gp_drop l i hi]
    simp only [inAll, List.all_cons]
    cases hw : vec_Within (gp l i).1 (gp l i).2 4787326403894837248 with
    | true => exact ih (i + 1) (by omega)
    | false => rfl
theorem lo52 : LoopOk Pr (tb 18 [(28, e28)] [] []) b52 s52 := by
  refine loop_ok (tb_ok (fnCons c28 (fnNil _)) (fnBNil _)) (vl := vl52) (enc := enc52) (step := st52) (pre := fun x => True) (noLoops (by kernel_rfl)) ?_ ?_ ?_ ?_
  · intro σ K h
    unfold s52 at h
    split at h
    · rename_i l n hg
      obtain ⟨rfl, h⟩ := h
      cases hw : inAll l with
      | true => rw [hw] at h; exact ⟨(0, l), _, _, _, trivial, hg, by rw [it52 l l.length 0 (by omega), List.drop_zero, hw]; rfl, h⟩
      | false => rw [hw] at h; exact ⟨(0, l), l.length + 1, .r, [.one (.int .i64 5)], trivial, hg, by rw [it52 l l.length 0 (by omega), List.drop_zero, hw]; rfl, h⟩
    · exact h.elim
  · rintro ⟨i, l⟩ h
    refine ⟨rfl, fun e r hs => ?_⟩
    simp only [st52] at hs
    split at hs
    · cases hw : vec_Within (gp l i).1 (gp l i).2 4787326403894837248 <;> rw [hw] at hs <;> cases hs
      exact ⟨by simp, rfl⟩
    · cases hs; exact ⟨by simp, rfl⟩
  · intros; trivial
  · rintro ⟨i, l⟩ h hb
    have hl : l.length ≤ 8796093022208 := hb 8 l rfl
    apply t52
    simp only [st52]
    rw [dlt, inRange_nat, Int.toNat_natCast]
    by_cases hi : i < l.length
    · rw [if_pos hi, decide_eq_true hi, wrap_succ (by omega)]
      cases hw : vec_Within (gp l i).1 (gp l i).2 4787326403894837248 <;> rfl
    · rw [if_neg hi, decide_eq_false hi]; rfl

end Go.Proofs.Ythopjahoaljhaaa.X

/-! ## Contracts of functions of the program, laid out by a program of mine (gen.py): what each gives, as a function of its arguments; floats up to the bits of a NaN. -/
set_option linter.unusedVariables false
set_option linter.unusedSimpArgs false
set_option maxRecDepth 100000
namespace Go.Proofs.Ythopjahoaljhaaa.X
open Go Go.RowKit

/-- tumble/vec.Right -/
def vec_Right_0 (a0 : Nat) (a1 : Nat) : Nat := vRight0 a0 a1
def vec_Right_1 (a0 : Nat) (a1 : Nat) : Nat := vRight1 a0 a1
def d91 : List AT → Option AT
  | [.av (.agg [.flt a0, .flt a1])] => some (.av (.agg [(.flt (vec_Right_0 a0 a1)), (.flt (vec_Right_1 a0 a1))]))
  | _ => none
def e91 : Ent := .of d91
theorem c91 : CallOk Pr 91 e91 := by
  refine callOk_autoL (T := tb 9 [(103, e103)] [] [(2, s91)]) (tb_ok (fnCons c103 (fnNil _)) (fnBNil _)) Try.func91 rfl (by decide) rfl (loops1 (by kernel_rfl) rfl lo91) (Ent.of_k d91) ?_
  intro l r h hb
  change d91 l = some r at h
  unfold d91 at h
  split at h
  · rename_i a0 a1
    cases h
    refine ⟨rfl, rfl, by_kernel (q := AT.av (.agg [(.flt (vRight0 a0 a1)), (.flt (vRight1 a0 a1))]) = (.av (.agg [(.flt (vec_Right_0 a0 a1)), (.flt (vec_Right_1 a0 a1))]))) (by kernel_rfl) ?_⟩
    unfold vec_Right_0 vec_Right_1
    rfl
  · cases h

/-- tumble/poly.reals -/
def poly_reals (a : List (Nat × Nat)) : Int := cond (Decidable.decide (GT.gt (Nat.cast (List.length a) : Int) (64 : Int))) ((4 : Int)) (cond (inAll a) ((0 : Int)) ((5 : Int)))
def d52 : List AT → Option AT
  | [.av (.one (.sl a))] => some (.av (.one (.int .i64 (poly_reals a))))
  | _ => none
def e52 : Ent := .of d52
theorem c52 : CallOk Pr 52 e52 := by
  refine callOk_autoL (T := tb 18 [(28, e28)] [] [(4, s52)]) (tb_ok (fnCons c28 (fnNil _)) (fnBNil _)) Try.func52 rfl (by decide) rfl (loops1 (by kernel_rfl) rfl lo52) (Ent.of_k d52) ?_
  intro l r h hb
  change d52 l = some r at h
  unfold d52 at h
  split at h
  · rename_i a
    cases h
    refine ⟨rfl, rfl, by_kernel (q := cond (Decidable.decide (GT.gt (Nat.cast (List.length a) : Int) (64 : Int))) (AT.av (.one (.int .i64 ((4 : Int)))) = (.av (.one (.int .i64 (poly_reals a))))) (And (Eq (Nat.cast (List.length a) : Int) (Nat.cast (List.length a) : Int)) (cond (inAll a) (AT.av (.one (.int .i64 ((0 : Int)))) = (.av (.one (.int .i64 (poly_reals a))))) (AT.av (.one (.int .i64 ((5 : Int)))) = (.av (.one (.int .i64 (poly_reals a)))))))) (by kernel_rfl) ?_⟩
    unfold poly_reals
    cases (Decidable.decide (GT.gt (Nat.cast (List.length a) : Int) (64 : Int))) with
    | true =>
        rfl
    | false =>
        refine ⟨?_, ?_⟩
        · first | rfl | exact ⟨rfl, rfl⟩
        cases (inAll a) with
        | true =>
            rfl
        | false =>
            rfl
  · cases h

/-- tumble/ray.circle -/
def ray_circle_0 (a0 : Nat) (a1 : Nat) (b : Nat) (c0 : Nat) (c1 : Nat) (d0 : Nat) (d1 : Nat) : Nat := cond (fLe (fsub (vec_Square (vec_Sub_0 c0 c1 a0 a1) (vec_Sub_1 c0 c1 a0 a1)) (fmul b b)) (0 : Nat)) (c0) (cond (fGe (vec_Dot (vec_Sub_0 c0 c1 a0 a1) (vec_Sub_1 c0 c1 a0 a1) d0 d1) (0 : Nat)) ((0 : Nat)) (cond (fLt (fsub (fmul (vec_Dot (vec_Sub_0 c0 c1 a0 a1) (vec_Sub_1 c0 c1 a0 a1) d0 d1) (vec_Dot (vec_Sub_0 c0 c1 a0 a1) (vec_Sub_1 c0 c1 a0 a1) d0 d1)) (fmul (vec_Square d0 d1) (fsub (vec_Square (vec_Sub_0 c0 c1 a0 a1) (vec_Sub_1 c0 c1 a0 a1)) (fmul b b)))) (0 : Nat)) ((0 : Nat)) (cond (ray_part (fdiv (fsub (fneg (vec_Dot (vec_Sub_0 c0 c1 a0 a1) (vec_Sub_1 c0 c1 a0 a1) d0 d1)) (math_Sqrt (fsub (fmul (vec_Dot (vec_Sub_0 c0 c1 a0 a1) (vec_Sub_1 c0 c1 a0 a1) d0 d1) (vec_Dot (vec_Sub_0 c0 c1 a0 a1) (vec_Sub_1 c0 c1 a0 a1) d0 d1)) (fmul (vec_Square d0 d1) (fsub (vec_Square (vec_Sub_0 c0 c1 a0 a1) (vec_Sub_1 c0 c1 a0 a1)) (fmul b b)))))) (vec_Square d0 d1))) (ray_hit_0 c0 c1 d0 d1 (fdiv (fsub (fneg (vec_Dot (vec_Sub_0 c0 c1 a0 a1) (vec_Sub_1 c0 c1 a0 a1) d0 d1)) (math_Sqrt (fsub (fmul (vec_Dot (vec_Sub_0 c0 c1 a0 a1) (vec_Sub_1 c0 c1 a0 a1) d0 d1) (vec_Dot (vec_Sub_0 c0 c1 a0 a1) (vec_Sub_1 c0 c1 a0 a1) d0 d1)) (fmul (vec_Square d0 d1) (fsub (vec_Square (vec_Sub_0 c0 c1 a0 a1) (vec_Sub_1 c0 c1 a0 a1)) (fmul b b)))))) (vec_Square d0 d1)) (0 : Nat) (0 : Nat)) ((0 : Nat)))))
def ray_circle_1 (a0 : Nat) (a1 : Nat) (b : Nat) (c0 : Nat) (c1 : Nat) (d0 : Nat) (d1 : Nat) : Nat := cond (fLe (fsub (vec_Square (vec_Sub_0 c0 c1 a0 a1) (vec_Sub_1 c0 c1 a0 a1)) (fmul b b)) (0 : Nat)) (c1) (cond (fGe (vec_Dot (vec_Sub_0 c0 c1 a0 a1) (vec_Sub_1 c0 c1 a0 a1) d0 d1) (0 : Nat)) ((0 : Nat)) (cond (fLt (fsub (fmul (vec_Dot (vec_Sub_0 c0 c1 a0 a1) (vec_Sub_1 c0 c1 a0 a1) d0 d1) (vec_Dot (vec_Sub_0 c0 c1 a0 a1) (vec_Sub_1 c0 c1 a0 a1) d0 d1)) (fmul (vec_Square d0 d1) (fsub (vec_Square (vec_Sub_0 c0 c1 a0 a1) (vec_Sub_1 c0 c1 a0 a1)) (fmul b b)))) (0 : Nat)) ((0 : Nat)) (cond (ray_part (fdiv (fsub (fneg (vec_Dot (vec_Sub_0 c0 c1 a0 a1) (vec_Sub_1 c0 c1 a0 a1) d0 d1)) (math_Sqrt (fsub (fmul (vec_Dot (vec_Sub_0 c0 c1 a0 a1) (vec_Sub_1 c0 c1 a0 a1) d0 d1) (vec_Dot (vec_Sub_0 c0 c1 a0 a1) (vec_Sub_1 c0 c1 a0 a1) d0 d1)) (fmul (vec_Square d0 d1) (fsub (vec_Square (vec_Sub_0 c0 c1 a0 a1) (vec_Sub_1 c0 c1 a0 a1)) (fmul b b)))))) (vec_Square d0 d1))) (ray_hit_1 c0 c1 d0 d1 (fdiv (fsub (fneg (vec_Dot (vec_Sub_0 c0 c1 a0 a1) (vec_Sub_1 c0 c1 a0 a1) d0 d1)) (math_Sqrt (fsub (fmul (vec_Dot (vec_Sub_0 c0 c1 a0 a1) (vec_Sub_1 c0 c1 a0 a1) d0 d1) (vec_Dot (vec_Sub_0 c0 c1 a0 a1) (vec_Sub_1 c0 c1 a0 a1) d0 d1)) (fmul (vec_Square d0 d1) (fsub (vec_Square (vec_Sub_0 c0 c1 a0 a1) (vec_Sub_1 c0 c1 a0 a1)) (fmul b b)))))) (vec_Square d0 d1)) (0 : Nat) (0 : Nat)) ((0 : Nat)))))
def ray_circle_2 (a0 : Nat) (a1 : Nat) (b : Nat) (c0 : Nat) (c1 : Nat) (d0 : Nat) (d1 : Nat) : Nat := cond (fLe (fsub (vec_Square (vec_Sub_0 c0 c1 a0 a1) (vec_Sub_1 c0 c1 a0 a1)) (fmul b b)) (0 : Nat)) ((0 : Nat)) (cond (fGe (vec_Dot (vec_Sub_0 c0 c1 a0 a1) (vec_Sub_1 c0 c1 a0 a1) d0 d1) (0 : Nat)) ((0 : Nat)) (cond (fLt (fsub (fmul (vec_Dot (vec_Sub_0 c0 c1 a0 a1) (vec_Sub_1 c0 c1 a0 a1) d0 d1) (vec_Dot (vec_Sub_0 c0 c1 a0 a1) (vec_Sub_1 c0 c1 a0 a1) d0 d1)) (fmul (vec_Square d0 d1) (fsub (vec_Square (vec_Sub_0 c0 c1 a0 a1) (vec_Sub_1 c0 c1 a0 a1)) (fmul b b)))) (0 : Nat)) ((0 : Nat)) (cond (ray_part (fdiv (fsub (fneg (vec_Dot (vec_Sub_0 c0 c1 a0 a1) (vec_Sub_1 c0 c1 a0 a1) d0 d1)) (math_Sqrt (fsub (fmul (vec_Dot (vec_Sub_0 c0 c1 a0 a1) (vec_Sub_1 c0 c1 a0 a1) d0 d1) (vec_Dot (vec_Sub_0 c0 c1 a0 a1) (vec_Sub_1 c0 c1 a0 a1) d0 d1)) (fmul (vec_Square d0 d1) (fsub (vec_Square (vec_Sub_0 c0 c1 a0 a1) (vec_Sub_1 c0 c1 a0 a1)) (fmul b b)))))) (vec_Square d0 d1))) (vec_Unit_0 (vec_Sub_0 (ray_hit_0 c0 c1 d0 d1 (fdiv (fsub (fneg (vec_Dot (vec_Sub_0 c0 c1 a0 a1) (vec_Sub_1 c0 c1 a0 a1) d0 d1)) (math_Sqrt (fsub (fmul (vec_Dot (vec_Sub_0 c0 c1 a0 a1) (vec_Sub_1 c0 c1 a0 a1) d0 d1) (vec_Dot (vec_Sub_0 c0 c1 a0 a1) (vec_Sub_1 c0 c1 a0 a1) d0 d1)) (fmul (vec_Square d0 d1) (fsub (vec_Square (vec_Sub_0 c0 c1 a0 a1) (vec_Sub_1 c0 c1 a0 a1)) (fmul b b)))))) (vec_Square d0 d1)) (0 : Nat) (0 : Nat)) (ray_hit_1 c0 c1 d0 d1 (fdiv (fsub (fneg (vec_Dot (vec_Sub_0 c0 c1 a0 a1) (vec_Sub_1 c0 c1 a0 a1) d0 d1)) (math_Sqrt (fsub (fmul (vec_Dot (vec_Sub_0 c0 c1 a0 a1) (vec_Sub_1 c0 c1 a0 a1) d0 d1) (vec_Dot (vec_Sub_0 c0 c1 a0 a1) (vec_Sub_1 c0 c1 a0 a1) d0 d1)) (fmul (vec_Square d0 d1) (fsub (vec_Square (vec_Sub_0 c0 c1 a0 a1) (vec_Sub_1 c0 c1 a0 a1)) (fmul b b)))))) (vec_Square d0 d1)) (0 : Nat) (0 : Nat)) a0 a1) (vec_Sub_1 (ray_hit_0 c0 c1 d0 d1 (fdiv (fsub (fneg (vec_Dot (vec_Sub_0 c0 c1 a0 a1) (vec_Sub_1 c0 c1 a0 a1) d0 d1)) (math_Sqrt (fsub (fmul (vec_Dot (vec_Sub_0 c0 c1 a0 a1) (vec_Sub_1 c0 c1 a0 a1) d0 d1) (vec_Dot (vec_Sub_0 c0 c1 a0 a1) (vec_Sub_1 c0 c1 a0 a1) d0 d1)) (fmul (vec_Square d0 d1) (fsub (vec_Square (vec_Sub_0 c0 c1 a0 a1) (vec_Sub_1 c0 c1 a0 a1)) (fmul b b)))))) (vec_Square d0 d1)) (0 : Nat) (0 : Nat)) (ray_hit_1 c0 c1 d0 d1 (fdiv (fsub (fneg (vec_Dot (vec_Sub_0 c0 c1 a0 a1) (vec_Sub_1 c0 c1 a0 a1) d0 d1)) (math_Sqrt (fsub (fmul (vec_Dot (vec_Sub_0 c0 c1 a0 a1) (vec_Sub_1 c0 c1 a0 a1) d0 d1) (vec_Dot (vec_Sub_0 c0 c1 a0 a1) (vec_Sub_1 c0 c1 a0 a1) d0 d1)) (fmul (vec_Square d0 d1) (fsub (vec_Square (vec_Sub_0 c0 c1 a0 a1) (vec_Sub_1 c0 c1 a0 a1)) (fmul b b)))))) (vec_Square d0 d1)) (0 : Nat) (0 : Nat)) a0 a1)) ((0 : Nat)))))
def ray_circle_3 (a0 : Nat) (a1 : Nat) (b : Nat) (c0 : Nat) (c1 : Nat) (d0 : Nat) (d1 : Nat) : Nat := cond (fLe (fsub (vec_Square (vec_Sub_0 c0 c1 a0 a1) (vec_Sub_1 c0 c1 a0 a1)) (fmul b b)) (0 : Nat)) ((0 : Nat)) (cond (fGe (vec_Dot (vec_Sub_0 c0 c1 a0 a1) (vec_Sub_1 c0 c1 a0 a1) d0 d1) (0 : Nat)) ((0 : Nat)) (cond (fLt (fsub (fmul (vec_Dot (vec_Sub_0 c0 c1 a0 a1) (vec_Sub_1 c0 c1 a0 a1) d0 d1) (vec_Dot (vec_Sub_0 c0 c1 a0 a1) (vec_Sub_1 c0 c1 a0 a1) d0 d1)) (fmul (vec_Square d0 d1) (fsub (vec_Square (vec_Sub_0 c0 c1 a0 a1) (vec_Sub_1 c0 c1 a0 a1)) (fmul b b)))) (0 : Nat)) ((0 : Nat)) (cond (ray_part (fdiv (fsub (fneg (vec_Dot (vec_Sub_0 c0 c1 a0 a1) (vec_Sub_1 c0 c1 a0 a1) d0 d1)) (math_Sqrt (fsub (fmul (vec_Dot (vec_Sub_0 c0 c1 a0 a1) (vec_Sub_1 c0 c1 a0 a1) d0 d1) (vec_Dot (vec_Sub_0 c0 c1 a0 a1) (vec_Sub_1 c0 c1 a0 a1) d0 d1)) (fmul (vec_Square d0 d1) (fsub (vec_Square (vec_Sub_0 c0 c1 a0 a1) (vec_Sub_1 c0 c1 a0 a1)) (fmul b b)))))) (vec_Square d0 d1))) (vec_Unit_1 (vec_Sub_0 (ray_hit_0 c0 c1 d0 d1 (fdiv (fsub (fneg (vec_Dot (vec_Sub_0 c0 c1 a0 a1) (vec_Sub_1 c0 c1 a0 a1) d0 d1)) (math_Sqrt (fsub (fmul (vec_Dot (vec_Sub_0 c0 c1 a0 a1) (vec_Sub_1 c0 c1 a0 a1) d0 d1) (vec_Dot (vec_Sub_0 c0 c1 a0 a1) (vec_Sub_1 c0 c1 a0 a1) d0 d1)) (fmul (vec_Square d0 d1) (fsub (vec_Square (vec_Sub_0 c0 c1 a0 a1) (vec_Sub_1 c0 c1 a0 a1)) (fmul b b)))))) (vec_Square d0 d1)) (0 : Nat) (0 : Nat)) (ray_hit_1 c0 c1 d0 d1 (fdiv (fsub (fneg (vec_Dot (vec_Sub_0 c0 c1 a0 a1) (vec_Sub_1 c0 c1 a0 a1) d0 d1)) (math_Sqrt (fsub (fmul (vec_Dot (vec_Sub_0 c0 c1 a0 a1) (vec_Sub_1 c0 c1 a0 a1) d0 d1) (vec_Dot (vec_Sub_0 c0 c1 a0 a1) (vec_Sub_1 c0 c1 a0 a1) d0 d1)) (fmul (vec_Square d0 d1) (fsub (vec_Square (vec_Sub_0 c0 c1 a0 a1) (vec_Sub_1 c0 c1 a0 a1)) (fmul b b)))))) (vec_Square d0 d1)) (0 : Nat) (0 : Nat)) a0 a1) (vec_Sub_1 (ray_hit_0 c0 c1 d0 d1 (fdiv (fsub (fneg (vec_Dot (vec_Sub_0 c0 c1 a0 a1) (vec_Sub_1 c0 c1 a0 a1) d0 d1)) (math_Sqrt (fsub (fmul (vec_Dot (vec_Sub_0 c0 c1 a0 a1) (vec_Sub_1 c0 c1 a0 a1) d0 d1) (vec_Dot (vec_Sub_0 c0 c1 a0 a1) (vec_Sub_1 c0 c1 a0 a1) d0 d1)) (fmul (vec_Square d0 d1) (fsub (vec_Square (vec_Sub_0 c0 c1 a0 a1) (vec_Sub_1 c0 c1 a0 a1)) (fmul b b)))))) (vec_Square d0 d1)) (0 : Nat) (0 : Nat)) (ray_hit_1 c0 c1 d0 d1 (fdiv (fsub (fneg (vec_Dot (vec_Sub_0 c0 c1 a0 a1) (vec_Sub_1 c0 c1 a0 a1) d0 d1)) (math_Sqrt (fsub (fmul (vec_Dot (vec_Sub_0 c0 c1 a0 a1) (vec_Sub_1 c0 c1 a0 a1) d0 d1) (vec_Dot (vec_Sub_0 c0 c1 a0 a1) (vec_Sub_1 c0 c1 a0 a1) d0 d1)) (fmul (vec_Square d0 d1) (fsub (vec_Square (vec_Sub_0 c0 c1 a0 a1) (vec_Sub_1 c0 c1 a0 a1)) (fmul b b)))))) (vec_Square d0 d1)) (0 : Nat) (0 : Nat)) a0 a1)) ((0 : Nat)))))
def ray_circle_4 (a0 : Nat) (a1 : Nat) (b : Nat) (c0 : Nat) (c1 : Nat) (d0 : Nat) (d1 : Nat) : Nat := cond (fLe (fsub (vec_Square (vec_Sub_0 c0 c1 a0 a1) (vec_Sub_1 c0 c1 a0 a1)) (fmul b b)) (0 : Nat)) ((0 : Nat)) (cond (fGe (vec_Dot (vec_Sub_0 c0 c1 a0 a1) (vec_Sub_1 c0 c1 a0 a1) d0 d1) (0 : Nat)) ((0 : Nat)) (cond (fLt (fsub (fmul (vec_Dot (vec_Sub_0 c0 c1 a0 a1) (vec_Sub_1 c0 c1 a0 a1) d0 d1) (vec_Dot (vec_Sub_0 c0 c1 a0 a1) (vec_Sub_1 c0 c1 a0 a1) d0 d1)) (fmul (vec_Square d0 d1) (fsub (vec_Square (vec_Sub_0 c0 c1 a0 a1) (vec_Sub_1 c0 c1 a0 a1)) (fmul b b)))) (0 : Nat)) ((0 : Nat)) (cond (ray_part (fdiv (fsub (fneg (vec_Dot (vec_Sub_0 c0 c1 a0 a1) (vec_Sub_1 c0 c1 a0 a1) d0 d1)) (math_Sqrt (fsub (fmul (vec_Dot (vec_Sub_0 c0 c1 a0 a1) (vec_Sub_1 c0 c1 a0 a1) d0 d1) (vec_Dot (vec_Sub_0 c0 c1 a0 a1) (vec_Sub_1 c0 c1 a0 a1) d0 d1)) (fmul (vec_Square d0 d1) (fsub (vec_Square (vec_Sub_0 c0 c1 a0 a1) (vec_Sub_1 c0 c1 a0 a1)) (fmul b b)))))) (vec_Square d0 d1))) (fdiv (fsub (fneg (vec_Dot (vec_Sub_0 c0 c1 a0 a1) (vec_Sub_1 c0 c1 a0 a1) d0 d1)) (math_Sqrt (fsub (fmul (vec_Dot (vec_Sub_0 c0 c1 a0 a1) (vec_Sub_1 c0 c1 a0 a1) d0 d1) (vec_Dot (vec_Sub_0 c0 c1 a0 a1) (vec_Sub_1 c0 c1 a0 a1) d0 d1)) (fmul (vec_Square d0 d1) (fsub (vec_Square (vec_Sub_0 c0 c1 a0 a1) (vec_Sub_1 c0 c1 a0 a1)) (fmul b b)))))) (vec_Square d0 d1)) ((0 : Nat)))))
def ray_circle_5 (a0 : Nat) (a1 : Nat) (b : Nat) (c0 : Nat) (c1 : Nat) (d0 : Nat) (d1 : Nat) : Bool := ((fLe (fsub (vec_Square (vec_Sub_0 c0 c1 a0 a1) (vec_Sub_1 c0 c1 a0 a1)) (fmul b b)) (0 : Nat)) || cond (fGe (vec_Dot (vec_Sub_0 c0 c1 a0 a1) (vec_Sub_1 c0 c1 a0 a1) d0 d1) (0 : Nat)) (Bool.false) (cond (fLt (fsub (fmul (vec_Dot (vec_Sub_0 c0 c1 a0 a1) (vec_Sub_1 c0 c1 a0 a1) d0 d1) (vec_Dot (vec_Sub_0 c0 c1 a0 a1) (vec_Sub_1 c0 c1 a0 a1) d0 d1)) (fmul (vec_Square d0 d1) (fsub (vec_Square (vec_Sub_0 c0 c1 a0 a1) (vec_Sub_1 c0 c1 a0 a1)) (fmul b b)))) (0 : Nat)) (Bool.false) ((ray_part (fdiv (fsub (fneg (vec_Dot (vec_Sub_0 c0 c1 a0 a1) (vec_Sub_1 c0 c1 a0 a1) d0 d1)) (math_Sqrt (fsub (fmul (vec_Dot (vec_Sub_0 c0 c1 a0 a1) (vec_Sub_1 c0 c1 a0 a1) d0 d1) (vec_Dot (vec_Sub_0 c0 c1 a0 a1) (vec_Sub_1 c0 c1 a0 a1) d0 d1)) (fmul (vec_Square d0 d1) (fsub (vec_Square (vec_Sub_0 c0 c1 a0 a1) (vec_Sub_1 c0 c1 a0 a1)) (fmul b b)))))) (vec_Square d0 d1))))))
def d65 : List AT → Option AT
  | [.av (.agg [.flt a0, .flt a1]), .av (.one (.flt b)), .av (.agg [.flt c0, .flt c1]), .av (.agg [.flt d0, .flt d1])] => some (.tup [(.agg [(.flt (ray_circle_0 a0 a1 b c0 c1 d0 d1)), (.flt (ray_circle_1 a0 a1 b c0 c1 d0 d1)), (.flt (ray_circle_2 a0 a1 b c0 c1 d0 d1)), (.flt (ray_circle_3 a0 a1 b c0 c1 d0 d1)), (.flt (ray_circle_4 a0 a1 b c0 c1 d0 d1))]), (.one (.bool (ray_circle_5 a0 a1 b c0 c1 d0 d1)))])
  | _ => none
def e65 : Ent := .of d65
theorem c65 : CallOk Pr 65 e65 := by
  refine callOk_auto (T := tb 75 [(13, e13), (21, e21), (42, e42), (47, e47), (58, e58), (59, e59), (60, e60)] [] []) (tb_ok (fnCons c13 (fnCons c21 (fnCons c42 (fnCons c47 (fnCons c58 (fnCons c59 (fnCons c60 (fnNil _)))))))) (fnBNil _)) Try.func65 rfl (by decide) rfl rfl (Ent.of_k d65) ?_
  intro l r h hb
  change d65 l = some r at h
  unfold d65 at h
  split at h
  · rename_i a0 a1 b c0 c1 d0 d1
    cases h
    refine ⟨rfl, rfl, by_kernel (q := cond (fLe (fsub (vec_Square (vec_Sub_0 c0 c1 a0 a1) (vec_Sub_1 c0 c1 a0 a1)) (fmul b b)) (0 : Nat)) (AT.tup [(.agg [(.flt c0), (.flt c1), (.flt ((0 : Nat))), (.flt ((0 : Nat))), (.flt ((0 : Nat)))]), (.one (.bool Bool.true))] = (.tup [(.agg [(.flt (ray_circle_0 a0 a1 b c0 c1 d0 d1)), (.flt (ray_circle_1 a0 a1 b c0 c1 d0 d1)), (.flt (ray_circle_2 a0 a1 b c0 c1 d0 d1)), (.flt (ray_circle_3 a0 a1 b c0 c1 d0 d1)), (.flt (ray_circle_4 a0 a1 b c0 c1 d0 d1))]), (.one (.bool (ray_circle_5 a0 a1 b c0 c1 d0 d1)))])) (cond (fGe (vec_Dot (vec_Sub_0 c0 c1 a0 a1) (vec_Sub_1 c0 c1 a0 a1) d0 d1) (0 : Nat)) (AT.tup [(.agg [(.flt ((0 : Nat))), (.flt ((0 : Nat))), (.flt ((0 : Nat))), (.flt ((0 : Nat))), (.flt ((0 : Nat)))]), (.one (.bool Bool.false))] = (.tup [(.agg [(.flt (ray_circle_0 a0 a1 b c0 c1 d0 d1)), (.flt (ray_circle_1 a0 a1 b c0 c1 d0 d1)), (.flt (ray_circle_2 a0 a1 b c0 c1 d0 d1)), (.flt (ray_circle_3 a0 a1 b c0 c1 d0 d1)), (.flt (ray_circle_4 a0 a1 b c0 c1 d0 d1))]), (.one (.bool (ray_circle_5 a0 a1 b c0 c1 d0 d1)))])) (cond (fLt (fsub (fmul (vec_Dot (vec_Sub_0 c0 c1 a0 a1) (vec_Sub_1 c0 c1 a0 a1) d0 d1) (vec_Dot (vec_Sub_0 c0 c1 a0 a1) (vec_Sub_1 c0 c1 a0 a1) d0 d1)) (fmul (vec_Square d0 d1) (fsub (vec_Square (vec_Sub_0 c0 c1 a0 a1) (vec_Sub_1 c0 c1 a0 a1)) (fmul b b)))) (0 : Nat)) (AT.tup [(.agg [(.flt ((0 : Nat))), (.flt ((0 : Nat))), (.flt ((0 : Nat))), (.flt ((0 : Nat))), (.flt ((0 : Nat)))]), (.one (.bool Bool.false))] = (.tup [(.agg [(.flt (ray_circle_0 a0 a1 b c0 c1 d0 d1)), (.flt (ray_circle_1 a0 a1 b c0 c1 d0 d1)), (.flt (ray_circle_2 a0 a1 b c0 c1 d0 d1)), (.flt (ray_circle_3 a0 a1 b c0 c1 d0 d1)), (.flt (ray_circle_4 a0 a1 b c0 c1 d0 d1))]), (.one (.bool (ray_circle_5 a0 a1 b c0 c1 d0 d1)))])) (cond (ray_part (fdiv (fsub (fneg (vec_Dot (vec_Sub_0 c0 c1 a0 a1) (vec_Sub_1 c0 c1 a0 a1) d0 d1)) (math_Sqrt (fsub (fmul (vec_Dot (vec_Sub_0 c0 c1 a0 a1) (vec_Sub_1 c0 c1 a0 a1) d0 d1) (vec_Dot (vec_Sub_0 c0 c1 a0 a1) (vec_Sub_1 c0 c1 a0 a1) d0 d1)) (fmul (vec_Square d0 d1) (fsub (vec_Square (vec_Sub_0 c0 c1 a0 a1) (vec_Sub_1 c0 c1 a0 a1)) (fmul b b)))))) (vec_Square d0 d1))) (cond (vec_Unit_2 (vec_Sub_0 (ray_hit_0 c0 c1 d0 d1 (fdiv (fsub (fneg (vec_Dot (vec_Sub_0 c0 c1 a0 a1) (vec_Sub_1 c0 c1 a0 a1) d0 d1)) (math_Sqrt (fsub (fmul (vec_Dot (vec_Sub_0 c0 c1 a0 a1) (vec_Sub_1 c0 c1 a0 a1) d0 d1) (vec_Dot (vec_Sub_0 c0 c1 a0 a1) (vec_Sub_1 c0 c1 a0 a1) d0 d1)) (fmul (vec_Square d0 d1) (fsub (vec_Square (vec_Sub_0 c0 c1 a0 a1) (vec_Sub_1 c0 c1 a0 a1)) (fmul b b)))))) (vec_Square d0 d1)) (0 : Nat) (0 : Nat)) (ray_hit_1 c0 c1 d0 d1 (fdiv (fsub (fneg (vec_Dot (vec_Sub_0 c0 c1 a0 a1) (vec_Sub_1 c0 c1 a0 a1) d0 d1)) (math_Sqrt (fsub (fmul (vec_Dot (vec_Sub_0 c0 c1 a0 a1) (vec_Sub_1 c0 c1 a0 a1) d0 d1) (vec_Dot (vec_Sub_0 c0 c1 a0 a1) (vec_Sub_1 c0 c1 a0 a1) d0 d1)) (fmul (vec_Square d0 d1) (fsub (vec_Square (vec_Sub_0 c0 c1 a0 a1) (vec_Sub_1 c0 c1 a0 a1)) (fmul b b)))))) (vec_Square d0 d1)) (0 : Nat) (0 : Nat)) a0 a1) (vec_Sub_1 (ray_hit_0 c0 c1 d0 d1 (fdiv (fsub (fneg (vec_Dot (vec_Sub_0 c0 c1 a0 a1) (vec_Sub_1 c0 c1 a0 a1) d0 d1)) (math_Sqrt (fsub (fmul (vec_Dot (vec_Sub_0 c0 c1 a0 a1) (vec_Sub_1 c0 c1 a0 a1) d0 d1) (vec_Dot (vec_Sub_0 c0 c1 a0 a1) (vec_Sub_1 c0 c1 a0 a1) d0 d1)) (fmul (vec_Square d0 d1) (fsub (vec_Square (vec_Sub_0 c0 c1 a0 a1) (vec_Sub_1 c0 c1 a0 a1)) (fmul b b)))))) (vec_Square d0 d1)) (0 : Nat) (0 : Nat)) (ray_hit_1 c0 c1 d0 d1 (fdiv (fsub (fneg (vec_Dot (vec_Sub_0 c0 c1 a0 a1) (vec_Sub_1 c0 c1 a0 a1) d0 d1)) (math_Sqrt (fsub (fmul (vec_Dot (vec_Sub_0 c0 c1 a0 a1) (vec_Sub_1 c0 c1 a0 a1) d0 d1) (vec_Dot (vec_Sub_0 c0 c1 a0 a1) (vec_Sub_1 c0 c1 a0 a1) d0 d1)) (fmul (vec_Square d0 d1) (fsub (vec_Square (vec_Sub_0 c0 c1 a0 a1) (vec_Sub_1 c0 c1 a0 a1)) (fmul b b)))))) (vec_Square d0 d1)) (0 : Nat) (0 : Nat)) a0 a1)) (AT.tup [(.agg [(.flt (ray_hit_0 c0 c1 d0 d1 (fdiv (fsub (fneg (vec_Dot (vec_Sub_0 c0 c1 a0 a1) (vec_Sub_1 c0 c1 a0 a1) d0 d1)) (math_Sqrt (fsub (fmul (vec_Dot (vec_Sub_0 c0 c1 a0 a1) (vec_Sub_1 c0 c1 a0 a1) d0 d1) (vec_Dot (vec_Sub_0 c0 c1 a0 a1) (vec_Sub_1 c0 c1 a0 a1) d0 d1)) (fmul (vec_Square d0 d1) (fsub (vec_Square (vec_Sub_0 c0 c1 a0 a1) (vec_Sub_1 c0 c1 a0 a1)) (fmul b b)))))) (vec_Square d0 d1)) (0 : Nat) (0 : Nat))), (.flt (ray_hit_1 c0 c1 d0 d1 (fdiv (fsub (fneg (vec_Dot (vec_Sub_0 c0 c1 a0 a1) (vec_Sub_1 c0 c1 a0 a1) d0 d1)) (math_Sqrt (fsub (fmul (vec_Dot (vec_Sub_0 c0 c1 a0 a1) (vec_Sub_1 c0 c1 a0 a1) d0 d1) (vec_Dot (vec_Sub_0 c0 c1 a0 a1) (vec_Sub_1 c0 c1 a0 a1) d0 d1)) (fmul (vec_Square d0 d1) (fsub (vec_Square (vec_Sub_0 c0 c1 a0 a1) (vec_Sub_1 c0 c1 a0 a1)) (fmul b b)))))) (vec_Square d0 d1)) (0 : Nat) (0 : Nat))), (.flt (vec_Unit_0 (vec_Sub_0 (ray_hit_0 c0 c1 d0 d1 (fdiv (fsub (fneg (vec_Dot (vec_Sub_0 c0 c1 a0 a1) (vec_Sub_1 c0 c1 a0 a1) d0 d1)) (math_Sqrt (fsub (fmul (vec_Dot (vec_Sub_0 c0 c1 a0 a1) (vec_Sub_1 c0 c1 a0 a1) d0 d1) (vec_Dot (vec_Sub_0 c0 c1 a0 a1) (vec_Sub_1 c0 c1 a0 a1) d0 d1)) (fmul (vec_Square d0 d1) (fsub (vec_Square (vec_Sub_0 c0 c1 a0 a1) (vec_Sub_1 c0 c1 a0 a1)) (fmul b b)))))) (vec_Square d0 d1)) (0 : Nat) (0 : Nat)) (ray_hit_1 c0 c1 d0 d1 (fdiv (fsub (fneg (vec_Dot (vec_Sub_0 c0 c1 a0 a1) (vec_Sub_1 c0 c1 a0 a1) d0 d1)) (math_Sqrt (fsub (fmul (vec_Dot (vec_Sub_0 c0 c1 a0 a1) (vec_Sub_1 c0 c1 a0 a1) d0 d1) (vec_Dot (vec_Sub_0 c0 c1 a0 a1) (vec_Sub_1 c0 c1 a0 a1) d0 d1)) (fmul (vec_Square d0 d1) (fsub (vec_Square (vec_Sub_0 c0 c1 a0 a1) (vec_Sub_1 c0 c1 a0 a1)) (fmul b b)))))) (vec_Square d0 d1)) (0 : Nat) (0 : Nat)) a0 a1) (vec_Sub_1 (ray_hit_0 c0 c1 d0 d1 (fdiv (fsub (fneg (vec_Dot (vec_Sub_0 c0 c1 a0 a1) (vec_Sub_1 c0 c1 a0 a1) d0 d1)) (math_Sqrt (fsub (fmul (vec_Dot (vec_Sub_0 c0 c1 a0 a1) (vec_Sub_1 c0 c1 a0 a1) d0 d1) (vec_Dot (vec_Sub_0 c0 c1 a0 a1) (vec_Sub_1 c0 c1 a0 a1) d0 d1)) (fmul (vec_Square d0 d1) (fsub (vec_Square (vec_Sub_0 c0 c1 a0 a1) (vec_Sub_1 c0 c1 a0 a1)) (fmul b b)))))) (vec_Square d0 d1)) (0 : Nat) (0 : Nat)) (ray_hit_1 c0 c1 d0 d1 (fdiv (fsub (fneg (vec_Dot (vec_Sub_0 c0 c1 a0 a1) (vec_Sub_1 c0 c1 a0 a1) d0 d1)) (math_Sqrt (fsub (fmul (vec_Dot (vec_Sub_0 c0 c1 a0 a1) (vec_Sub_1 c0 c1 a0 a1) d0 d1) (vec_Dot (vec_Sub_0 c0 c1 a0 a1) (vec_Sub_1 c0 c1 a0 a1) d0 d1)) (fmul (vec_Square d0 d1) (fsub (vec_Square (vec_Sub_0 c0 c1 a0 a1) (vec_Sub_1 c0 c1 a0 a1)) (fmul b b)))))) (vec_Square d0 d1)) (0 : Nat) (0 : Nat)) a0 a1))), (.flt (vec_Unit_1 (vec_Sub_0 (ray_hit_0 c0 c1 d0 d1 (fdiv (fsub (fneg (vec_Dot (vec_Sub_0 c0 c1 a0 a1) (vec_Sub_1 c0 c1 a0 a1) d0 d1)) (math_Sqrt (fsub (fmul (vec_Dot (vec_Sub_0 c0 c1 a0 a1) (vec_Sub_1 c0 c1 a0 a1) d0 d1) (vec_Dot (vec_Sub_0 c0 c1 a0 a1) (vec_Sub_1 c0 c1 a0 a1) d0 d1)) (fmul (vec_Square d0 d1) (fsub (vec_Square (vec_Sub_0 c0 c1 a0 a1) (vec_Sub_1 c0 c1 a0 a1)) (fmul b b)))))) (vec_Square d0 d1)) (0 : Nat) (0 : Nat)) (ray_hit_1 c0 c1 d0 d1 (fdiv (fsub (fneg (vec_Dot (vec_Sub_0 c0 c1 a0 a1) (vec_Sub_1 c0 c1 a0 a1) d0 d1)) (math_Sqrt (fsub (fmul (vec_Dot (vec_Sub_0 c0 c1 a0 a1) (vec_Sub_1 c0 c1 a0 a1) d0 d1) (vec_Dot (vec_Sub_0 c0 c1 a0 a1) (vec_Sub_1 c0 c1 a0 a1) d0 d1)) (fmul (vec_Square d0 d1) (fsub (vec_Square (vec_Sub_0 c0 c1 a0 a1) (vec_Sub_1 c0 c1 a0 a1)) (fmul b b)))))) (vec_Square d0 d1)) (0 : Nat) (0 : Nat)) a0 a1) (vec_Sub_1 (ray_hit_0 c0 c1 d0 d1 (fdiv (fsub (fneg (vec_Dot (vec_Sub_0 c0 c1 a0 a1) (vec_Sub_1 c0 c1 a0 a1) d0 d1)) (math_Sqrt (fsub (fmul (vec_Dot (vec_Sub_0 c0 c1 a0 a1) (vec_Sub_1 c0 c1 a0 a1) d0 d1) (vec_Dot (vec_Sub_0 c0 c1 a0 a1) (vec_Sub_1 c0 c1 a0 a1) d0 d1)) (fmul (vec_Square d0 d1) (fsub (vec_Square (vec_Sub_0 c0 c1 a0 a1) (vec_Sub_1 c0 c1 a0 a1)) (fmul b b)))))) (vec_Square d0 d1)) (0 : Nat) (0 : Nat)) (ray_hit_1 c0 c1 d0 d1 (fdiv (fsub (fneg (vec_Dot (vec_Sub_0 c0 c1 a0 a1) (vec_Sub_1 c0 c1 a0 a1) d0 d1)) (math_Sqrt (fsub (fmul (vec_Dot (vec_Sub_0 c0 c1 a0 a1) (vec_Sub_1 c0 c1 a0 a1) d0 d1) (vec_Dot (vec_Sub_0 c0 c1 a0 a1) (vec_Sub_1 c0 c1 a0 a1) d0 d1)) (fmul (vec_Square d0 d1) (fsub (vec_Square (vec_Sub_0 c0 c1 a0 a1) (vec_Sub_1 c0 c1 a0 a1)) (fmul b b)))))) (vec_Square d0 d1)) (0 : Nat) (0 : Nat)) a0 a1))), (.flt (fdiv (fsub (fneg (vec_Dot (vec_Sub_0 c0 c1 a0 a1) (vec_Sub_1 c0 c1 a0 a1) d0 d1)) (math_Sqrt (fsub (fmul (vec_Dot (vec_Sub_0 c0 c1 a0 a1) (vec_Sub_1 c0 c1 a0 a1) d0 d1) (vec_Dot (vec_Sub_0 c0 c1 a0 a1) (vec_Sub_1 c0 c1 a0 a1) d0 d1)) (fmul (vec_Square d0 d1) (fsub (vec_Square (vec_Sub_0 c0 c1 a0 a1) (vec_Sub_1 c0 c1 a0 a1)) (fmul b b)))))) (vec_Square d0 d1)))]), (.one (.bool Bool.true))] = (.tup [(.agg [(.flt (ray_circle_0 a0 a1 b c0 c1 d0 d1)), (.flt (ray_circle_1 a0 a1 b c0 c1 d0 d1)), (.flt (ray_circle_2 a0 a1 b c0 c1 d0 d1)), (.flt (ray_circle_3 a0 a1 b c0 c1 d0 d1)), (.flt (ray_circle_4 a0 a1 b c0 c1 d0 d1))]), (.one (.bool (ray_circle_5 a0 a1 b c0 c1 d0 d1)))])) (AT.tup [(.agg [(.flt (ray_hit_0 c0 c1 d0 d1 (fdiv (fsub (fneg (vec_Dot (vec_Sub_0 c0 c1 a0 a1) (vec_Sub_1 c0 c1 a0 a1) d0 d1)) (math_Sqrt (fsub (fmul (vec_Dot (vec_Sub_0 c0 c1 a0 a1) (vec_Sub_1 c0 c1 a0 a1) d0 d1) (vec_Dot (vec_Sub_0 c0 c1 a0 a1) (vec_Sub_1 c0 c1 a0 a1) d0 d1)) (fmul (vec_Square d0 d1) (fsub (vec_Square (vec_Sub_0 c0 c1 a0 a1) (vec_Sub_1 c0 c1 a0 a1)) (fmul b b)))))) (vec_Square d0 d1)) (0 : Nat) (0 : Nat))), (.flt (ray_hit_1 c0 c1 d0 d1 (fdiv (fsub (fneg (vec_Dot (vec_Sub_0 c0 c1 a0 a1) (vec_Sub_1 c0 c1 a0 a1) d0 d1)) (math_Sqrt (fsub (fmul (vec_Dot (vec_Sub_0 c0 c1 a0 a1) (vec_Sub_1 c0 c1 a0 a1) d0 d1) (vec_Dot (vec_Sub_0 c0 c1 a0 a1) (vec_Sub_1 c0 c1 a0 a1) d0 d1)) (fmul (vec_Square d0 d1) (fsub (vec_Square (vec_Sub_0 c0 c1 a0 a1) (vec_Sub_1 c0 c1 a0 a1)) (fmul b b)))))) (vec_Square d0 d1)) (0 : Nat) (0 : Nat))), (.flt (vec_Unit_0 (vec_Sub_0 (ray_hit_0 c0 c1 d0 d1 (fdiv (fsub (fneg (vec_Dot (vec_Sub_0 c0 c1 a0 a1) (vec_Sub_1 c0 c1 a0 a1) d0 d1)) (math_Sqrt (fsub (fmul (vec_Dot (vec_Sub_0 c0 c1 a0 a1) (vec_Sub_1 c0 c1 a0 a1) d0 d1) (vec_Dot (vec_Sub_0 c0 c1 a0 a1) (vec_Sub_1 c0 c1 a0 a1) d0 d1)) (fmul (vec_Square d0 d1) (fsub (vec_Square (vec_Sub_0 c0 c1 a0 a1) (vec_Sub_1 c0 c1 a0 a1)) (fmul b b)))))) (vec_Square d0 d1)) (0 : Nat) (0 : Nat)) (ray_hit_1 c0 c1 d0 d1 (fdiv (fsub (fneg (vec_Dot (vec_Sub_0 c0 c1 a0 a1) (vec_Sub_1 c0 c1 a0 a1) d0 d1)) (math_Sqrt (fsub (fmul (vec_Dot (vec_Sub_0 c0 c1 a0 a1) (vec_Sub_1 c0 c1 a0 a1) d0 d1) (vec_Dot (vec_Sub_0 c0 c1 a0 a1) (vec_Sub_1 c0 c1 a0 a1) d0 d1)) (fmul (vec_Square d0 d1) (fsub (vec_Square (vec_Sub_0 c0 c1 a0 a1) (vec_Sub_1 c0 c1 a0 a1)) (fmul b b)))))) (vec_Square d0 d1)) (0 : Nat) (0 : Nat)) a0 a1) (vec_Sub_1 (ray_hit_0 c0 c1 d0 d1 (fdiv (fsub (fneg (vec_Dot (vec_Sub_0 c0 c1 a0 a1) (vec_Sub_1 c0 c1 a0 a1) d0 d1)) (math_Sqrt (fsub (fmul (vec_Dot (vec_Sub_0 c0 c1 a0 a1) (vec_Sub_1 c0 c1 a0 a1) d0 d1) (vec_Dot (vec_Sub_0 c0 c1 a0 a1) (vec_Sub_1 c0 c1 a0 a1) d0 d1)) (fmul (vec_Square d0 d1) (fsub (vec_Square (vec_Sub_0 c0 c1 a0 a1) (vec_Sub_1 c0 c1 a0 a1)) (fmul b b)))))) (vec_Square d0 d1)) (0 : Nat) (0 : Nat)) (ray_hit_1 c0 c1 d0 d1 (fdiv (fsub (fneg (vec_Dot (vec_Sub_0 c0 c1 a0 a1) (vec_Sub_1 c0 c1 a0 a1) d0 d1)) (math_Sqrt (fsub (fmul (vec_Dot (vec_Sub_0 c0 c1 a0 a1) (vec_Sub_1 c0 c1 a0 a1) d0 d1) (vec_Dot (vec_Sub_0 c0 c1 a0 a1) (vec_Sub_1 c0 c1 a0 a1) d0 d1)) (fmul (vec_Square d0 d1) (fsub (vec_Square (vec_Sub_0 c0 c1 a0 a1) (vec_Sub_1 c0 c1 a0 a1)) (fmul b b)))))) (vec_Square d0 d1)) (0 : Nat) (0 : Nat)) a0 a1))), (.flt (vec_Unit_1 (vec_Sub_0 (ray_hit_0 c0 c1 d0 d1 (fdiv (fsub (fneg (vec_Dot (vec_Sub_0 c0 c1 a0 a1) (vec_Sub_1 c0 c1 a0 a1) d0 d1)) (math_Sqrt (fsub (fmul (vec_Dot (vec_Sub_0 c0 c1 a0 a1) (vec_Sub_1 c0 c1 a0 a1) d0 d1) (vec_Dot (vec_Sub_0 c0 c1 a0 a1) (vec_Sub_1 c0 c1 a0 a1) d0 d1)) (fmul (vec_Square d0 d1) (fsub (vec_Square (vec_Sub_0 c0 c1 a0 a1) (vec_Sub_1 c0 c1 a0 a1)) (fmul b b)))))) (vec_Square d0 d1)) (0 : Nat) (0 : Nat)) (ray_hit_1 c0 c1 d0 d1 (fdiv (fsub (fneg (vec_Dot (vec_Sub_0 c0 c1 a0 a1) (vec_Sub_1 c0 c1 a0 a1) d0 d1)) (math_Sqrt (fsub (fmul (vec_Dot (vec_Sub_0 c0 c1 a0 a1) (vec_Sub_1 c0 c1 a0 a1) d0 d1) (vec_Dot (vec_Sub_0 c0 c1 a0 a1) (vec_Sub_1 c0 c1 a0 a1) d0 d1)) (fmul (vec_Square d0 d1) (fsub (vec_Square (vec_Sub_0 c0 c1 a0 a1) (vec_Sub_1 c0 c1 a0 a1)) (fmul b b)))))) (vec_Square d0 d1)) (0 : Nat) (0 : Nat)) a0 a1) (vec_Sub_1 (ray_hit_0 c0 c1 d0 d1 (fdiv (fsub (fneg (vec_Dot (vec_Sub_0 c0 c1 a0 a1) (vec_Sub_1 c0 c1 a0 a1) d0 d1)) (math_Sqrt (fsub (fmul (vec_Dot (vec_Sub_0 c0 c1 a0 a1) (vec_Sub_1 c0 c1 a0 a1) d0 d1) (vec_Dot (vec_Sub_0 c0 c1 a0 a1) (vec_Sub_1 c0 c1 a0 a1) d0 d1)) (fmul (vec_Square d0 d1) (fsub (vec_Square (vec_Sub_0 c0 c1 a0 a1) (vec_Sub_1 c0 c1 a0 a1)) (fmul b b)))))) (vec_Square d0 d1)) (0 : Nat) (0 : Nat)) (ray_hit_1 c0 c1 d0 d1 (fdiv (fsub (fneg (vec_Dot (vec_Sub_0 c0 c1 a0 a1) (vec_Sub_1 c0 c1 a0 a1) d0 d1)) (math_Sqrt (fsub (fmul (vec_Dot (vec_Sub_0 c0 c1 a0 a1) (vec_Sub_1 c0 c1 a0 a1) d0 d1) (vec_Dot (vec_Sub_0 c0 c1 a0 a1) (vec_Sub_1 c0 c1 a0 a1) d0 d1)) (fmul (vec_Square d0 d1) (fsub (vec_Square (vec_Sub_0 c0 c1 a0 a1) (vec_Sub_1 c0 c1 a0 a1)) (fmul b b)))))) (vec_Square d0 d1)) (0 : Nat) (0 : Nat)) a0 a1))), (.flt (fdiv (fsub (fneg (vec_Dot (vec_Sub_0 c0 c1 a0 a1) (vec_Sub_1 c0 c1 a0 a1) d0 d1)) (math_Sqrt (fsub (fmul (vec_Dot (vec_Sub_0 c0 c1 a0 a1) (vec_Sub_1 c0 c1 a0 a1) d0 d1) (vec_Dot (vec_Sub_0 c0 c1 a0 a1) (vec_Sub_1 c0 c1 a0 a1) d0 d1)) (fmul (vec_Square d0 d1) (fsub (vec_Square (vec_Sub_0 c0 c1 a0 a1) (vec_Sub_1 c0 c1 a0 a1)) (fmul b b)))))) (vec_Square d0 d1)))]), (.one (.bool Bool.true))] = (.tup [(.agg [(.flt (ray_circle_0 a0 a1 b c0 c1 d0 d1)), (.flt (ray_circle_1 a0 a1 b c0 c1 d0 d1)), (.flt (ray_circle_2 a0 a1 b c0 c1 d0 d1)), (.flt (ray_circle_3 a0 a1 b c0 c1 d0 d1)), (.flt (ray_circle_4 a0 a1 b c0 c1 d0 d1))]), (.one (.bool (ray_circle_5 a0 a1 b c0 c1 d0 d1)))]))) (AT.tup [(.agg [(.flt ((0 : Nat))), (.flt ((0 : Nat))), (.flt ((0 : Nat))), (.flt ((0 : Nat))), (.flt ((0 : Nat)))]), (.one (.bool Bool.false))] = (.tup [(.agg [(.flt (ray_circle_0 a0 a1 b c0 c1 d0 d1)), (.flt (ray_circle_1 a0 a1 b c0 c1 d0 d1)), (.flt (ray_circle_2 a0 a1 b c0 c1 d0 d1)), (.flt (ray_circle_3 a0 a1 b c0 c1 d0 d1)), (.flt (ray_circle_4 a0 a1 b c0 c1 d0 d1))]), (.one (.bool (ray_circle_5 a0 a1 b c0 c1 d0 d1)))])))))) (by kernel_rfl) ?_⟩
    unfold ray_circle_0 ray_circle_1 ray_circle_2 ray_circle_3 ray_circle_4 ray_circle_5
    cases (fLe (fsub (vec_Square (vec_Sub_0 c0 c1 a0 a1) (vec_Sub_1 c0 c1 a0 a1)) (fmul b b)) (0 : Nat)) with
    | true =>
        rfl
    | false =>
        cases (fGe (vec_Dot (vec_Sub_0 c0 c1 a0 a1) (vec_Sub_1 c0 c1 a0 a1) d0 d1) (0 : Nat)) with
        | true =>
            rfl
        | false =>
            cases (fLt (fsub (fmul (vec_Dot (vec_Sub_0 c0 c1 a0 a1) (vec_Sub_1 c0 c1 a0 a1) d0 d1) (vec_Dot (vec_Sub_0 c0 c1 a0 a1) (vec_Sub_1 c0 c1 a0 a1) d0 d1)) (fmul (vec_Square d0 d1) (fsub (vec_Square (vec_Sub_0 c0 c1 a0 a1) (vec_Sub_1 c0 c1 a0 a1)) (fmul b b)))) (0 : Nat)) with
            | true =>
                rfl
            | false =>
                cases (ray_part (fdiv (fsub (fneg (vec_Dot (vec_Sub_0 c0 c1 a0 a1) (vec_Sub_1 c0 c1 a0 a1) d0 d1)) (math_Sqrt (fsub (fmul (vec_Dot (vec_Sub_0 c0 c1 a0 a1) (vec_Sub_1 c0 c1 a0 a1) d0 d1) (vec_Dot (vec_Sub_0 c0 c1 a0 a1) (vec_Sub_1 c0 c1 a0 a1) d0 d1)) (fmul (vec_Square d0 d1) (fsub (vec_Square (vec_Sub_0 c0 c1 a0 a1) (vec_Sub_1 c0 c1 a0 a1)) (fmul b b)))))) (vec_Square d0 d1))) with
                | true =>
                    cases (vec_Unit_2 (vec_Sub_0 (ray_hit_0 c0 c1 d0 d1 (fdiv (fsub (fneg (vec_Dot (vec_Sub_0 c0 c1 a0 a1) (vec_Sub_1 c0 c1 a0 a1) d0 d1)) (math_Sqrt (fsub (fmul (vec_Dot (vec_Sub_0 c0 c1 a0 a1) (vec_Sub_1 c0 c1 a0 a1) d0 d1) (vec_Dot (vec_Sub_0 c0 c1 a0 a1) (vec_Sub_1 c0 c1 a0 a1) d0 d1)) (fmul (vec_Square d0 d1) (fsub (vec_Square (vec_Sub_0 c0 c1 a0 a1) (vec_Sub_1 c0 c1 a0 a1)) (fmul b b)))))) (vec_Square d0 d1)) (0 : Nat) (0 : Nat)) (ray_hit_1 c0 c1 d0 d1 (fdiv (fsub (fneg (vec_Dot (vec_Sub_0 c0 c1 a0 a1) (vec_Sub_1 c0 c1 a0 a1) d0 d1)) (math_Sqrt (fsub (fmul (vec_Dot (vec_Sub_0 c0 c1 a0 a1) (vec_Sub_1 c0 c1 a0 a1) d0 d1) (vec_Dot (vec_Sub_0 c0 c1 a0 a1) (vec_Sub_1 c0 c1 a0 a1) d0 d1)) (fmul (vec_Square d0 d1) (fsub (vec_Square (vec_Sub_0 c0 c1 a0 a1) (vec_Sub_1 c0 c1 a0 a1)) (fmul b b)))))) (vec_Square d0 d1)) (0 : Nat) (0 : Nat)) a0 a1) (vec_Sub_1 (ray_hit_0 c0 c1 d0 d1 (fdiv (fsub (fneg (vec_Dot (vec_Sub_0 c0 c1 a0 a1) (vec_Sub_1 c0 c1 a0 a1) d0 d1)) (math_Sqrt (fsub (fmul (vec_Dot (vec_Sub_0 c0 c1 a0 a1) (vec_Sub_1 c0 c1 a0 a1) d0 d1) (vec_Dot (vec_Sub_0 c0 c1 a0 a1) (vec_Sub_1 c0 c1 a0 a1) d0 d1)) (fmul (vec_Square d0 d1) (fsub (vec_Square (vec_Sub_0 c0 c1 a0 a1) (vec_Sub_1 c0 c1 a0 a1)) (fmul b b)))))) (vec_Square d0 d1)) (0 : Nat) (0 : Nat)) (ray_hit_1 c0 c1 d0 d1 (fdiv (fsub (fneg (vec_Dot (vec_Sub_0 c0 c1 a0 a1) (vec_Sub_1 c0 c1 a0 a1) d0 d1)) (math_Sqrt (fsub (fmul (vec_Dot (vec_Sub_0 c0 c1 a0 a1) (vec_Sub_1 c0 c1 a0 a1) d0 d1) (vec_Dot (vec_Sub_0 c0 c1 a0 a1) (vec_Sub_1 c0 c1 a0 a1) d0 d1)) (fmul (vec_Square d0 d1) (fsub (vec_Square (vec_Sub_0 c0 c1 a0 a1) (vec_Sub_1 c0 c1 a0 a1)) (fmul b b)))))) (vec_Square d0 d1)) (0 : Nat) (0 : Nat)) a0 a1)) with
                    | true =>
                        rfl
                    | false =>
                        rfl
                | false =>
                    rfl
  · cases h

end Go.Proofs.Ythopjahoaljhaaa.X

/-! ## poly.Check's two loops. -/
set_option linter.unusedVariables false
set_option linter.unusedSimpArgs false
set_option maxRecDepth 100000
namespace Go.Proofs.Ythopjahoaljhaaa.X
open Go Go.RowKit

noncomputable def b17i : Code := ((loopsOf ((loopsOf (Try.f17.body.getD .skip)).getD 0 .skip)).getD 0 .skip)
def vl17i : XE → List LV := fun
  | .n => [.t 0, .t 4, .t 5, .b 5, .t 6, .b 6, .t 7, .t 16, .t 17, .t 18]
  | .r => [.t 2]
  | _ => [.t 0, .t 16, .t 17, .t 18]

theorem t17i (l : List (Nat × Nat)) (i : Nat) (k : Nat) (x : Nat) (y : Nat) (u : Nat) (v : Nat) (R : AT) (h : cond (Decidable.decide (LT.lt (Nat.cast k : Int) (Nat.cast (List.length l) : Int))) (cond (Decidable.decide (Eq (Nat.cast (List.length l) : Int) (0 : Int))) (False) (cond (inRange (Int.tmod (Go.IntKind.wrap Go.IntKind.i64 (HAdd.hAdd (Nat.cast i : Int) (Nat.cast k : Int))) (Nat.cast (List.length l) : Int)) (List.length l)) (cond (fLe (vec_Cross u v (vec_Sub_0 (Prod.fst (gp l (Int.toNat (Int.tmod (Go.IntKind.wrap Go.IntKind.i64 (HAdd.hAdd (Nat.cast i : Int) (Nat.cast k : Int))) (Nat.cast (List.length l) : Int))))) (Prod.snd (gp l (Int.toNat (Int.tmod (Go.IntKind.wrap Go.IntKind.i64 (HAdd.hAdd (Nat.cast i : Int) (Nat.cast k : Int))) (Nat.cast (List.length l) : Int))))) x y) (vec_Sub_1 (Prod.fst (gp l (Int.toNat (Int.tmod (Go.IntKind.wrap Go.IntKind.i64 (HAdd.hAdd (Nat.cast i : Int) (Nat.cast k : Int))) (Nat.cast (List.length l) : Int))))) (Prod.snd (gp l (Int.toNat (Int.tmod (Go.IntKind.wrap Go.IntKind.i64 (HAdd.hAdd (Nat.cast i : Int) (Nat.cast k : Int))) (Nat.cast (List.length l) : Int))))) x y)) (0 : Nat)) (AT.tup [(.one (.int .i64 ((Nat.cast (codeX XE.r) : Int)))), (.one (.int .i64 ((60 : Int))))] = R) (AT.tup [(.one (.int .i64 ((Nat.cast (codeX XE.n) : Int)))), (.one (.sl l)), (.one (.int .i64 ((Nat.cast i : Int)))), (.one (.lp ((5 : Nat)) ((0 : Nat)))), (.agg [(.flt x), (.flt y)]), (.one (.lp ((6 : Nat)) ((0 : Nat)))), (.agg [(.flt u), (.flt v)]), (.one (.int .i64 (Go.IntKind.wrap Go.IntKind.i64 (HAdd.hAdd (Nat.cast k : Int) (1 : Int))))), (.one (.sl l)), (.one (.int .i64 ((Nat.cast (List.length l) : Int)))), (.one (.int .i64 ((Nat.cast i : Int))))] = R)) (False))) (AT.tup [(.one (.int .i64 ((Nat.cast (codeX (XE.x (2 : Nat))) : Int)))), (.one (.sl l)), (.one (.sl l)), (.one (.int .i64 ((Nat.cast (List.length l) : Int)))), (.one (.int .i64 ((Nat.cast i : Int))))] = R)) : xcode (tb 50 [(12, e12), (13, e13), (52, e52), (53, e53), (54, e54)] [] []) b17i (mkS (vl17i .n) [.one (.sl l), .one (.int .i64 i), .one (.lp 5 0), .agg [.flt x, .flt y], .one (.lp 6 0), .agg [.flt u, .flt v], .one (.int .i64 k), .one (.sl l), .one (.int .i64 l.length), .one (.int .i64 i)]) (fun e σ => obsT vl17i e σ = R) := by_kernel (q := cond (Decidable.decide (LT.lt (Nat.cast k : Int) (Nat.cast (List.length l) : Int))) (cond (Decidable.decide (Eq (Nat.cast (List.length l) : Int) (0 : Int))) (False) (cond (inRange (Int.tmod (Go.IntKind.wrap Go.IntKind.i64 (HAdd.hAdd (Nat.cast i : Int) (Nat.cast k : Int))) (Nat.cast (List.length l) : Int)) (List.length l)) (cond (fLe (vec_Cross u v (vec_Sub_0 (Prod.fst (gp l (Int.toNat (Int.tmod (Go.IntKind.wrap Go.IntKind.i64 (HAdd.hAdd (Nat.cast i : Int) (Nat.cast k : Int))) (Nat.cast (List.length l) : Int))))) (Prod.snd (gp l (Int.toNat (Int.tmod (Go.IntKind.wrap Go.IntKind.i64 (HAdd.hAdd (Nat.cast i : Int) (Nat.cast k : Int))) (Nat.cast (List.length l) : Int))))) x y) (vec_Sub_1 (Prod.fst (gp l (Int.toNat (Int.tmod (Go.IntKind.wrap Go.IntKind.i64 (HAdd.hAdd (Nat.cast i : Int) (Nat.cast k : Int))) (Nat.cast (List.length l) : Int))))) (Prod.snd (gp l (Int.toNat (Int.tmod (Go.IntKind.wrap Go.IntKind.i64 (HAdd.hAdd (Nat.cast i : Int) (Nat.cast k : Int))) (Nat.cast (List.length l) : Int))))) x y)) (0 : Nat)) (AT.tup [(.one (.int .i64 ((Nat.cast (codeX XE.r) : Int)))), (.one (.int .i64 ((60 : Int))))] = R) (AT.tup [(.one (.int .i64 ((Nat.cast (codeX XE.n) : Int)))), (.one (.sl l)), (.one (.int .i64 ((Nat.cast i : Int)))), (.one (.lp ((5 : Nat)) ((0 : Nat)))), (.agg [(.flt x), (.flt y)]), (.one (.lp ((6 : Nat)) ((0 : Nat)))), (.agg [(.flt u), (.flt v)]), (.one (.int .i64 (Go.IntKind.wrap Go.IntKind.i64 (HAdd.hAdd (Nat.cast k : Int) (1 : Int))))), (.one (.sl l)), (.one (.int .i64 ((Nat.cast (List.length l) : Int)))), (.one (.int .i64 ((Nat.cast i : Int))))] = R)) (False))) (AT.tup [(.one (.int .i64 ((Nat.cast (codeX (XE.x (2 : Nat))) : Int)))), (.one (.sl l)), (.one (.sl l)), (.one (.int .i64 ((Nat.cast (List.length l) : Int)))), (.one (.int .i64 ((Nat.cast i : Int))))] = R)) (by kernel_rfl) h

/-- Does the point that comes so many later lie to the left of a side? -/
def leftK (l : List (Nat × Nat)) (i x y u v k : Nat) : Bool :=
  !(fLe (vec_Cross u v (vec_Sub_0 (gp l ((i + k) % l.length)).1 (gp l ((i + k) % l.length)).2 x y) (vec_Sub_1 (gp l ((i + k) % l.length)).1 (gp l ((i + k) % l.length)).2 x y)) 0)
def s17i (σ : St) (K : XE → St → Prop) : Prop :=
  match getLVs σ (vl17i .n) with
  | some [.one (.sl l), .one (.int .i64 i), .one (.lp 5 0), .agg [.flt x, .flt y], .one (.lp 6 0), .agg [.flt u, .flt v], .one (.int .i64 2), .one (.sl l'), .one (.int .i64 n), .one (.int .i64 i')] =>
    (l' = l ∧ n = l.length ∧ i' = i ∧ i = i.toNat ∧ i.toNat < l.length ∧ 2 ≤ l.length) ∧ (bif allF (leftK l i.toNat x y u v) 2 (l.length - 2) then K (.x 2) ⟨[(0, .av (.one (.sl l))), (16, .av (.one (.sl l))), (17, .av (.one (.int .i64 l.length))), (18, .av (.one (.int .i64 i)))], []⟩ else K .r ⟨[(2, .av (.one (.int .i64 60)))], []⟩)
  | _ => False

structure Cx17 where
  (l : List (Nat × Nat)) (i x y u v : Nat)
theorem lo17i : LoopOk Pr (tb 50 [(12, e12), (13, e13), (52, e52), (53, e53), (54, e54)] [] []) b17i s17i := by
  refine all_ok (tb_ok (fnCons c12 (fnCons c13 (fnCons c52 (fnCons c53 (fnCons c54 (fnNil _)))))) (fnBNil _)) (vl := vl17i) (Ctx := Cx17)
    (enc := fun c k => [.one (.sl c.l), .one (.int .i64 c.i), .one (.lp 5 0), .agg [.flt c.x, .flt c.y], .one (.lp 6 0), .agg [.flt c.u, .flt c.v], .one (.int .i64 k), .one (.sl c.l), .one (.int .i64 c.l.length), .one (.int .i64 c.i)])
    (N := fun c => c.l.length) (f := fun c => leftK c.l c.i c.x c.y c.u c.v) (xd := 2) (done := fun c => [.one (.sl c.l), .one (.sl c.l), .one (.int .i64 c.l.length), .one (.int .i64 c.i)]) (bad := fun _ _ => [.one (.int .i64 60)])
    (pre := fun c => c.i < c.l.length) (noLoops (by kernel_rfl)) ?_ ?_ ?_
  · intro σ K h
    unfold s17i at h
    split at h
    · rename_i l i x y u v l' n i' hg
      obtain ⟨⟨rfl, rfl, rfl, hi, hl, h2⟩, h⟩ := h
      refine ⟨⟨l', i'.toNat, x, y, u, v⟩, 2, hl, h2, by rw [hg]; simp only [← hi]; rfl, ?_⟩
      cases ha : allF (leftK l' i'.toNat x y u v) 2 (l'.length - 2) with
      | true => rw [ha] at h; rw [fstF_none ha]; simp only [vl17i, mkS, mkE, mkB, ← hi]; exact h
      | false => rw [ha] at h; obtain ⟨j, hj⟩ := fstF_some ha; rw [hj]; exact h
    · exact h.elim
  · intro c i h
    exact ⟨rfl, rfl, rfl⟩
  · rintro ⟨l, i, x, y, u, v⟩ k h hk hb
    have hl : l.length ≤ 8796093022208 := hb 0 l rfl
    dsimp only at h hk ⊢
    apply t17i
    have hm : (i + k) % l.length < l.length := Nat.mod_lt _ (by omega)
    rw [dlt, wrap_add (by omega), tmod_nat, inRange_nat, Int.toNat_natCast, decide_eq_true hm]
    have hz : decide ((l.length : Int) = 0) = false := by rw [decide_eq_false_iff_not]; omega
    rw [hz]
    simp only [leftK]
    by_cases hi : k < l.length
    · rw [decide_eq_true hi, wrap_succ (by omega)]
      cases fLe (vec_Cross u v (vec_Sub_0 (gp l ((i + k) % l.length)).1 (gp l ((i + k) % l.length)).2 x y) (vec_Sub_1 (gp l ((i + k) % l.length)).1 (gp l ((i + k) % l.length)).2 x y)) 0 <;> rfl
    · rw [decide_eq_false hi]; rfl
noncomputable def b17 : Code := ((loopsOf (Try.f17.body.getD .skip)).getD 0 .skip)
def vl17 : XE → List LV := fun
  | .n => [.t 0, .t 16, .t 17, .t 18]
  | .r => [.t 2]
  | _ => []

theorem t17 (l : List (Nat × Nat)) (i : Nat) (R : AT) (h : cond (Decidable.decide (LT.lt (Nat.cast i : Int) (Nat.cast (List.length l) : Int))) (cond (inRange ((Nat.cast i : Int)) (List.length l)) (cond (Decidable.decide (Eq (Nat.cast (List.length l) : Int) (0 : Int))) (False) (cond (inRange (Int.tmod (Go.IntKind.wrap Go.IntKind.i64 (HAdd.hAdd (Nat.cast i : Int) (1 : Int))) (Nat.cast (List.length l) : Int)) (List.length l)) (cond (inRange ((Nat.cast i : Int)) (List.length l)) (cond (fLt (vec_Length (vec_Sub_0 (Prod.fst (gp l (Int.toNat (Int.tmod (Go.IntKind.wrap Go.IntKind.i64 (HAdd.hAdd (Nat.cast i : Int) (1 : Int))) (Nat.cast (List.length l) : Int))))) (Prod.snd (gp l (Int.toNat (Int.tmod (Go.IntKind.wrap Go.IntKind.i64 (HAdd.hAdd (Nat.cast i : Int) (1 : Int))) (Nat.cast (List.length l) : Int))))) (Prod.fst (gp l (Int.toNat (Nat.cast i : Int)))) (Prod.snd (gp l (Int.toNat (Nat.cast i : Int))))) (vec_Sub_1 (Prod.fst (gp l (Int.toNat (Int.tmod (Go.IntKind.wrap Go.IntKind.i64 (HAdd.hAdd (Nat.cast i : Int) (1 : Int))) (Nat.cast (List.length l) : Int))))) (Prod.snd (gp l (Int.toNat (Int.tmod (Go.IntKind.wrap Go.IntKind.i64 (HAdd.hAdd (Nat.cast i : Int) (1 : Int))) (Nat.cast (List.length l) : Int))))) (Prod.fst (gp l (Int.toNat (Nat.cast i : Int)))) (Prod.snd (gp l (Int.toNat (Nat.cast i : Int)))))) (4472074429978902528 : Nat)) (AT.tup [(.one (.int .i64 ((Nat.cast (codeX XE.r) : Int)))), (.one (.int .i64 ((60 : Int))))] = R) (And (And (Eq l l) (And (Eq (Nat.cast (List.length l) : Int) (Nat.cast (List.length l) : Int)) (And (Eq (Nat.cast i : Int) (Nat.cast i : Int)) (And (Eq (Nat.cast i : Int) (Nat.cast (Int.toNat (Nat.cast i : Int)) : Int)) (And (LT.lt (Int.toNat (Nat.cast i : Int)) (List.length l)) (LE.le (2 : Nat) (List.length l))))))) (cond (allF (leftK l (Int.toNat (Nat.cast i : Int)) (Prod.fst (gp l (Int.toNat (Nat.cast i : Int)))) (Prod.snd (gp l (Int.toNat (Nat.cast i : Int)))) (vec_Sub_0 (Prod.fst (gp l (Int.toNat (Int.tmod (Go.IntKind.wrap Go.IntKind.i64 (HAdd.hAdd (Nat.cast i : Int) (1 : Int))) (Nat.cast (List.length l) : Int))))) (Prod.snd (gp l (Int.toNat (Int.tmod (Go.IntKind.wrap Go.IntKind.i64 (HAdd.hAdd (Nat.cast i : Int) (1 : Int))) (Nat.cast (List.length l) : Int))))) (Prod.fst (gp l (Int.toNat (Nat.cast i : Int)))) (Prod.snd (gp l (Int.toNat (Nat.cast i : Int))))) (vec_Sub_1 (Prod.fst (gp l (Int.toNat (Int.tmod (Go.IntKind.wrap Go.IntKind.i64 (HAdd.hAdd (Nat.cast i : Int) (1 : Int))) (Nat.cast (List.length l) : Int))))) (Prod.snd (gp l (Int.toNat (Int.tmod (Go.IntKind.wrap Go.IntKind.i64 (HAdd.hAdd (Nat.cast i : Int) (1 : Int))) (Nat.cast (List.length l) : Int))))) (Prod.fst (gp l (Int.toNat (Nat.cast i : Int)))) (Prod.snd (gp l (Int.toNat (Nat.cast i : Int)))))) (2 : Nat) (HSub.hSub (List.length l) (2 : Nat))) (AT.tup [(.one (.int .i64 ((Nat.cast (codeX XE.n) : Int)))), (.one (.sl l)), (.one (.sl l)), (.one (.int .i64 ((Nat.cast (List.length l) : Int)))), (.one (.int .i64 (Go.IntKind.wrap Go.IntKind.i64 (HAdd.hAdd (Nat.cast i : Int) (1 : Int)))))] = R) (AT.tup [(.one (.int .i64 ((Nat.cast (codeX XE.r) : Int)))), (.one (.int .i64 ((60 : Int))))] = R)))) (False)) (False))) (False)) (AT.tup [(.one (.int .i64 ((Nat.cast (codeX (XE.x (0 : Nat))) : Int))))] = R)) : xcode (tb 50 [(12, e12), (13, e13), (52, e52), (53, e53), (54, e54)] [] [(13, s17i)]) b17 (mkS (vl17 .n) [.one (.sl l), .one (.sl l), .one (.int .i64 l.length), .one (.int .i64 i)]) (fun e σ => obsT vl17 e σ = R) := by_kernel (q := cond (Decidable.decide (LT.lt (Nat.cast i : Int) (Nat.cast (List.length l) : Int))) (cond (inRange ((Nat.cast i : Int)) (List.length l)) (cond (Decidable.decide (Eq (Nat.cast (List.length l) : Int) (0 : Int))) (False) (cond (inRange (Int.tmod (Go.IntKind.wrap Go.IntKind.i64 (HAdd.hAdd (Nat.cast i : Int) (1 : Int))) (Nat.cast (List.length l) : Int)) (List.length l)) (cond (inRange ((Nat.cast i : Int)) (List.length l)) (cond (fLt (vec_Length (vec_Sub_0 (Prod.fst (gp l (Int.toNat (Int.tmod (Go.IntKind.wrap Go.IntKind.i64 (HAdd.hAdd (Nat.cast i : Int) (1 : Int))) (Nat.cast (List.length l) : Int))))) (Prod.snd (gp l (Int.toNat (Int.tmod (Go.IntKind.wrap Go.IntKind.i64 (HAdd.hAdd (Nat.cast i : Int) (1 : Int))) (Nat.cast (List.length l) : Int))))) (Prod.fst (gp l (Int.toNat (Nat.cast i : Int)))) (Prod.snd (gp l (Int.toNat (Nat.cast i : Int))))) (vec_Sub_1 (Prod.fst (gp l (Int.toNat (Int.tmod (Go.IntKind.wrap Go.IntKind.i64 (HAdd.hAdd (Nat.cast i : Int) (1 : Int))) (Nat.cast (List.length l) : Int))))) (Prod.snd (gp l (Int.toNat (Int.tmod (Go.IntKind.wrap Go.IntKind.i64 (HAdd.hAdd (Nat.cast i : Int) (1 : Int))) (Nat.cast (List.length l) : Int))))) (Prod.fst (gp l (Int.toNat (Nat.cast i : Int)))) (Prod.snd (gp l (Int.toNat (Nat.cast i : Int)))))) (4472074429978902528 : Nat)) (AT.tup [(.one (.int .i64 ((Nat.cast (codeX XE.r) : Int)))), (.one (.int .i64 ((60 : Int))))] = R) (And (And (Eq l l) (And (Eq (Nat.cast (List.length l) : Int) (Nat.cast (List.length l) : Int)) (And (Eq (Nat.cast i : Int) (Nat.cast i : Int)) (And (Eq (Nat.cast i : Int) (Nat.cast (Int.toNat (Nat.cast i : Int)) : Int)) (And (LT.lt (Int.toNat (Nat.cast i : Int)) (List.length l)) (LE.le (2 : Nat) (List.length l))))))) (cond (allF (leftK l (Int.toNat (Nat.cast i : Int)) (Prod.fst (gp l (Int.toNat (Nat.cast i : Int)))) (Prod.snd (gp l (Int.toNat (Nat.cast i : Int)))) (vec_Sub_0 (Prod.fst (gp l (Int.toNat (Int.tmod (Go.IntKind.wrap Go.IntKind.i64 (HAdd.hAdd (Nat.cast i : Int) (1 : Int))) (Nat.cast (List.length l) : Int))))) (Prod.snd (gp l (Int.toNat (Int.tmod (Go.IntKind.wrap Go.IntKind.i64 (HAdd.hAdd (Nat.cast i : Int) (1 : Int))) (Nat.cast (List.length l) : Int))))) (Prod.fst (gp l (Int.toNat (Nat.cast i : Int)))) (Prod.snd (gp l (Int.toNat (Nat.cast i : Int))))) (vec_Sub_1 (Prod.fst (gp l (Int.toNat (Int.tmod (Go.IntKind.wrap Go.IntKind.i64 (HAdd.hAdd (Nat.cast i : Int) (1 : Int))) (Nat.cast (List.length l) : Int))))) (Prod.snd (gp l (Int.toNat (Int.tmod (Go.IntKind.wrap Go.IntKind.i64 (HAdd.hAdd (Nat.cast i : Int) (1 : Int))) (Nat.cast (List.length l) : Int))))) (Prod.fst (gp l (Int.toNat (Nat.cast i : Int)))) (Prod.snd (gp l (Int.toNat (Nat.cast i : Int)))))) (2 : Nat) (HSub.hSub (List.length l) (2 : Nat))) (AT.tup [(.one (.int .i64 ((Nat.cast (codeX XE.n) : Int)))), (.one (.sl l)), (.one (.sl l)), (.one (.int .i64 ((Nat.cast (List.length l) : Int)))), (.one (.int .i64 (Go.IntKind.wrap Go.IntKind.i64 (HAdd.hAdd (Nat.cast i : Int) (1 : Int)))))] = R) (AT.tup [(.one (.int .i64 ((Nat.cast (codeX XE.r) : Int)))), (.one (.int .i64 ((60 : Int))))] = R)))) (False)) (False))) (False)) (AT.tup [(.one (.int .i64 ((Nat.cast (codeX (XE.x (0 : Nat))) : Int))))] = R)) (by kernel_rfl) h

/-- A side's way. -/
def way0 (l : List (Nat × Nat)) (i : Nat) : Nat := vec_Sub_0 (gp l ((i + 1) % l.length)).1 (gp l ((i + 1) % l.length)).2 (gp l i).1 (gp l i).2
def way1 (l : List (Nat × Nat)) (i : Nat) : Nat := vec_Sub_1 (gp l ((i + 1) % l.length)).1 (gp l ((i + 1) % l.length)).2 (gp l i).1 (gp l i).2
def sideOk (l : List (Nat × Nat)) (i : Nat) : Bool :=
  !(fLt (vec_Length (way0 l i) (way1 l i)) 4472074429978902528) && allF (leftK l i (gp l i).1 (gp l i).2 (way0 l i) (way1 l i)) 2 (l.length - 2)
def s17 (σ : St) (K : XE → St → Prop) : Prop :=
  match getLVs σ (vl17 .n) with
  | some [.one (.sl l), .one (.sl l'), .one (.int .i64 n), .one (.int .i64 0)] =>
    (l' = l ∧ n = l.length) ∧ (bif decide (2 ≤ l.length) then (bif allF (sideOk l) 0 l.length then K (.x 0) ⟨[], []⟩ else K .r ⟨[(2, .av (.one (.int .i64 60)))], []⟩) else False)
  | _ => False
theorem lo17 : LoopOk Pr (tb 50 [(12, e12), (13, e13), (52, e52), (53, e53), (54, e54)] [] [(13, s17i)]) b17 s17 := by
  refine all_ok (tb_ok (fnCons c12 (fnCons c13 (fnCons c52 (fnCons c53 (fnCons c54 (fnNil _)))))) (fnBNil _)) (vl := vl17) (Ctx := List (Nat × Nat))
    (enc := fun l i => [.one (.sl l), .one (.sl l), .one (.int .i64 l.length), .one (.int .i64 i)])
    (N := fun l => l.length) (f := sideOk) (xd := 0) (done := fun _ => []) (bad := fun _ _ => [.one (.int .i64 60)])
    (pre := fun l => 2 ≤ l.length) (loops1 (b := b17i) (by kernel_rfl) rfl lo17i) ?_ ?_ ?_
  · intro σ K h
    unfold s17 at h
    split at h
    · rename_i l l' n hg
      obtain ⟨⟨rfl, rfl⟩, h⟩ := h
      cases h2 : decide (2 ≤ l'.length) with
      | false => rw [h2] at h; exact h.elim
      | true =>
      rw [h2] at h
      refine ⟨l', 0, of_decide_eq_true h2, Nat.zero_le _, hg, ?_⟩
      cases ha : allF (sideOk l') 0 l'.length with
      | true => rw [ha] at h; rw [Nat.sub_zero, fstF_none ha]; exact h
      | false => rw [ha] at h; obtain ⟨j, hj⟩ := fstF_some ha; rw [Nat.sub_zero, hj]; exact h
    · exact h.elim
  · intro c i h
    exact ⟨rfl, rfl, rfl⟩
  · intro l i h hk hb
    have hl : l.length ≤ 8796093022208 := hb 0 l rfl
    apply t17
    have hm : (i + 1) % l.length < l.length := Nat.mod_lt _ (by omega)
    have hz : decide ((l.length : Int) = 0) = false := by rw [decide_eq_false_iff_not]; omega
    have hw : IntKind.i64.wrap ((i : Int) + 1) = ((i + 1 : Nat) : Int) := wrap_succ (by omega)
    rw [hz, hw, tmod_nat, inRange_nat, inRange_nat, dlt, Int.toNat_natCast, Int.toNat_natCast, decide_eq_true hm]
    by_cases hi : i < l.length
    · rw [decide_eq_true hi]
      simp only [sideOk]
      cases hc : fLt (vec_Length (way0 l i) (way1 l i)) 4472074429978902528 with
      | true => simp only [way0, way1] at hc; simp only [cond_true, cond_false, hc]; rfl
      | false =>
        simp only [way0, way1] at hc
        cases ha : allF (leftK l i (gp l i).1 (gp l i).2 (way0 l i) (way1 l i)) 2 (l.length - 2) with
        | true => simp only [way0, way1] at ha; simp only [cond_true, cond_false, hc, ha]; exact ⟨by simp; omega, rfl⟩
        | false => simp only [way0, way1] at ha; simp only [cond_true, cond_false, hc, ha]; exact ⟨by simp; omega, rfl⟩
    · rw [decide_eq_false hi]; rfl

end Go.Proofs.Ythopjahoaljhaaa.X
