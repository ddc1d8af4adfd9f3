import Derived.Test.YtnkomaedmblemaaEvPost
import Derived.Laws.Entries
import Derived.Laws.Sem
set_option linter.unusedSimpArgs false
set_option linter.unusedVariables false
namespace Go.Ev

structure LOk0 (L : Lk) (P : Program) : Prop where
  info : ∀ t i, L.info t = some i → P.info? t = some i
  plainEq : ∀ t, L.plainEq t = true → P.stoodInHeld t = false ∧ P.eqGuardType P.depth t = false

section
variable {L : Lk} {P : Program} {w : World} {E : Env}

theorem under_ok (hL : LOk0 L P) {t : TypeId} {d : TypeDesc} (h : L.under t = some d) : P.underlying t = some d := by
  unfold Lk.under at h
  unfold Program.underlying
  cases hi : L.info t with
  | none => rw [hi] at h; cases h
  | some i =>
    rw [hi] at h
    rw [hL.info t i hi]
    obtain ⟨desc, a1, a2, a3, a4, a5, a6, a7, a8, a9⟩ := i
    cases desc with
    | named n u =>
      simp only at h
      cases hu : L.info u with
      | none => rw [hu] at h; cases h
      | some j => rw [hu] at h; simp only [hL.info u j hu, Option.map_some]; exact h
    | _ => exact h
theorem run_under (hL : LOk0 L P) {t : TypeId} {d : TypeDesc} (h : L.under t = some d) (w : World) : (underlying t).run P w = .ok d w := run_underlying (under_ok hL h) w
theorem run_info (hL : LOk0 L P) {t : TypeId} {i : TypeInfo} (h : L.info t = some i) (w : World) : (typeInfo t).run P w = .ok i w := by
  unfold typeInfo
  simp only [Sem.run_bind, program, Sem.run, Result.andThen_ok, hL.info t i h, Sem.run_pure]
theorem run_size (hL : LOk0 L P) {t : TypeId} {s : Nat} (h : L.size t = some s) (w : World) : (sizeOf t).run P w = .ok s w := by
  unfold Lk.size at h
  cases hi : L.info t with
  | none => rw [hi] at h; cases h
  | some i => rw [hi] at h; cases h; unfold sizeOf; simp only [Sem.run_bind, run_info hL hi, Result.andThen_ok, Sem.run_pure]
theorem run_bytes (hL : LOk0 L P) {t : TypeId} {s : Nat} (h : L.bytes t = some s) (w : World) : ∃ i, (typeInfo t).run P w = .ok i w ∧ i.bytes = s := by
  unfold Lk.bytes at h
  cases hi : L.info t with
  | none => rw [hi] at h; cases h
  | some i => rw [hi] at h; cases h; exact ⟨i, run_info hL hi w, rfl⟩
theorem run_isAgg (hL : LOk0 L P) {t : TypeId} {b : Bool} (h : L.isAgg t = some b) (w : World) : (isAgg t).run P w = .ok b w := by
  unfold Lk.isAgg at h
  cases hu : L.under t with
  | none => rw [hu] at h; cases h
  | some d =>
    rw [hu] at h
    unfold isAgg
    simp only [Sem.run_bind, run_under hL hu, Result.andThen_ok]
    cases d <;> simp only [Option.some.injEq] at h <;> subst h <;> rfl

theorem ofCell_ok {v : Value} {a : AV} (h : ofCell v = some a) : conc E a = v ∧ a.oneCell = true ∧ v.cells = #[v] := by
  unfold ofCell at h
  split at h <;> first
    | (cases h; exact ⟨rfl, rfl, rfl⟩)
    | cases h
theorem ofValue_ok {v : Value} {a : AV} (h : ofValue v = some a) : conc E a = v := by
  unfold ofValue at h
  split at h
  · next cs =>
    unfold obind at h
    split at h
    · next l hl =>
      cases h
      have := mapO_map ofCell (conc E) id (fun a b hab => (ofCell_ok hab).1.symm) hl
      show Value.agg (concL E l).toArray = _
      rw [concL_eq, ← this]; simp
    · cases h
  · next cs =>
    unfold obind at h
    split at h
    · next l hl =>
      cases h
      have := mapO_map ofCell (conc E) id (fun a b hab => (ofCell_ok hab).1.symm) hl
      show Value.tuple (concL E l).toArray = _
      rw [concL_eq, ← this]; simp
    · cases h
  · exact (ofCell_ok h).1
theorem run_zero (hL : LOk0 L P) {t : TypeId} {z : AV} (h : L.zero t = some z) (w : World) : (zeroValue t).run P w = .ok (conc E z) w := by
  unfold Lk.zero at h
  cases hi : L.info t with
  | none => rw [hi] at h; cases h
  | some i =>
    rw [hi] at h
    simp only at h
    cases hz : i.zero with
    | none => rw [hz] at h; cases h
    | some v =>
      rw [hz] at h
      unfold zeroValue
      simp only [Sem.run_bind, run_info hL hi, Result.andThen_ok, hz, Sem.run_pure, ofValue_ok (E := E) h]
/-- A zero value hangs on no block. -/
theorem ofCell_E {v : Value} {a : AV} (h : ofCell v = some a) (E E' : Env) : conc E a = conc E' a := (ofCell_ok h).1.trans (ofCell_ok h).1.symm
theorem ofValue_E {v : Value} {a : AV} (h : ofValue v = some a) (E E' : Env) : conc E a = conc E' a := (ofValue_ok h).trans (ofValue_ok h).symm
theorem cells_E {a : AV} {E E' : Env} (h : conc E a = conc E' a) : concL E a.cells = concL E' a.cells := by
  have h1 := conc_cells E a
  have h2 := conc_cells E' a
  rw [h, h2] at h1
  simpa using h1.symm
theorem zero_E {t : TypeId} {z : AV} (h : L.zero t = some z) (E E' : Env) : conc E z = conc E' z := by
  unfold Lk.zero at h
  cases hi : L.info t with
  | none => rw [hi] at h; cases h
  | some i =>
    rw [hi] at h
    simp only at h
    cases hz : i.zero with
    | none => rw [hz] at h; cases h
    | some v => rw [hz] at h; exact ofValue_E h E E'

/-! ### Operands -/
theorem opnd_ok {T : Tr AV} {a : Act} (hT : TRel E T a.tmps) {x : Operand} {v : AV} (h : opnd T x = some v) : a.eval x = conc E v := by
  cases x with
  | tmp t =>
    have := hT t
    unfold getT at this
    simp only [opnd] at h
    cases hg : T.get t with
    | none => rw [hg] at h this; cases h; exact this
    | some u => rw [hg] at h this; cases h; exact this
  | const u => exact (ofValue_ok h).symm
  | global g => cases h
  | func f => cases h; rfl
theorem opnds_ok {T : Tr AV} {a : Act} (hT : TRel E T a.tmps) {l : List Operand} {vs : List AV} (h : opnds T l = some vs) : l.map a.eval = concL E vs := by
  rw [concL_eq]
  exact mapO_map (opnd T) (conc E) a.eval (fun x v hx => opnd_ok hT hx) h

/-! ### Loads and stores -/
theorem evLoad_ok (hL : LOk0 L P) {B : Nat} {H : AH} (hR : HRel B E H w) {t : TypeId} {a r : AV} (h : evLoad L t a H = some r) : (Instr.loadAt t (conc E a)).run P w = .ok (conc E r) w := by
  unfold evLoad at h
  split at h
  · next i o =>
    simp only [Instr.loadAt, conc, Instr.sureAddr, Sem.run_bind, Sem.run_pure, Result.andThen_ok, loadVar]
    split at h
    · next hag =>
      split at h
      · next s hs =>
        split at h
        · next l hl =>
          cases h
          simp only [run_isAgg hL hag, Result.andThen_ok, if_true, Sem.run_bind, run_size hL hs, hR.read (P := P) hl, Sem.run_pure]
          rfl
        · cases h
      · cases h
    · next hag =>
      simp only [run_isAgg hL hag, Result.andThen_ok, Bool.false_eq_true, if_false]
      exact hR.read1 (P := P) h
    · cases h
  · cases h
end
end Go.Ev
