import Derived.Test.YtnkomaedmblemaaEvOp4
set_option linter.unusedSimpArgs false
set_option linter.unusedVariables false
namespace Go.Ev
/-- What an operation that yields a value owes. -/
def Done (B : Nat) (E : Env) (H : AH) (w : World) (v : AV) (H1 : AH) (u : Value) (w1 : World) : Prop :=
  ∃ E1, StV E1 H1.next v u ∧ St B E1 H1 w1 ∧ Post E H w E1 H1 w1 ∧ H1.Wf

section
variable {L : Lk} {P : Program} {w : World} {E : Env} {B : Nat} {H : AH}

theorem Done.same (hw : H.Wf) (hS : St B E H w) {v : AV} {u : Value} (h : StV E H.next v u) : Done B E H w v H u w := ⟨E, h, hS, Post.refl _ _ _, hw⟩

theorem zcells_E {t : TypeId} {z : AV} (h : L.zero t = some z) (E E' : Env) : concL E z.cells = concL E' z.cells := cells_E (zero_E h E E')
theorem rep_E {zs : List AV} (h : ∀ E E', concL E zs = concL E' zs) (n : Nat) (E E' : Env) : concL E (rep zs n) = concL E' (rep zs n) := by
  induction n with
  | zero => rfl
  | succ n ih => rw [rep_succ, concL_append, concL_append, h E E', ih]

/-- A fresh row that holds just these cells; a pointer or a slice to it. -/
theorem fresh_done (hw : H.Wf) (hS : St B E H w) {vs : List AV} (e : TypeId) (z : Nat) (hx : ∀ E', Agree H.next E E' → concL E' vs = concL E vs) (v : AV) (u : Value)
    (hv : ∀ E', (E' H.next) = ⟨w.heap.size, 0, 0⟩ → u = conc E' v) :
    Done B E H w v (H.new (.cells vs e z false false)) u (wNew w (.cells (concL E vs).toArray e)) := by
  have h := newCells_ok hw hS e z false 0 [] hx rfl
  rw [List.append_nil] at h
  exact ⟨_, fun E' hE => hv E' ((hE H.next (Nat.lt_succ_self _)).trans (Env.add_self _ _ _)), h.1, h.2.1, h.2.2⟩

theorem evAlloc_ok (hL : LOk0 L P) (hw : H.Wf) (hS : St B E H w) {e : TypeId} {z : AV} (hz : L.zero e = some z) (s : Nat) :
    ∃ u w1, (Instr.alloc e true (.tuple #[])).run P w = .ok u w1 ∧ Done B E H w (.ptr H.next 0) (H.new (.cells z.cells e s false false)) u w1 := by
  refine ⟨_, _, ?_, fresh_done hw hS e s (fun E' _ => zcells_E hz E' E) (.ptr H.next 0) (.pointer (some ⟨w.heap.size, 0, none⟩)) (fun E' h => by simp [conc, h])⟩
  unfold Instr.alloc
  simp only [Sem.run_bind, run_zero (E := E) hL hz, Result.andThen_ok, newVar, conc_cells, run_newRow, Sem.run_pure]

theorem evBox_ok (hw : H.Wf) (hS : St B E H w) (e : TypeId) {v : AV} {u : Value} (hv : StV E H.next v u) (s : Nat) :
    ∃ u' w1, (Instr.box e u).run P w = .ok u' w1 ∧ Done B E H w (.ptr H.next 0) (H.new (.cells v.cells e s false false)) u' w1 := by
  refine ⟨_, _, ?_, fresh_done hw hS e s (vs := v.cells) (fun E' hE => cells_E ((hv E' hE).symm.trans hv.self)) (.ptr H.next 0) (.pointer (some ⟨w.heap.size, 0, none⟩)) (fun E' h => by simp [conc, h])⟩
  unfold Instr.box
  rw [hv.self]
  simp only [Sem.run_bind, newVar, conc_cells, run_newRow, Result.andThen_ok, Sem.run_pure]

theorem evBuildSlice_ok (hL : LOk0 L P) (hw : H.Wf) (hS : St B E H w) {t : TypeId} {n : Nat} {parts : List (Nat × AV)} {v : AV} {H1 : AH}
    (hp : ∀ E', Agree H.next E E' → (parts.map fun p => (p.1, conc E' p.2)) = (parts.map fun p => (p.1, conc E p.2))) (h : evBuildSlice L t n parts H = some (v, H1)) :
    ∃ u w1, (Instr.buildSlice t n (parts.map fun p => (p.1, conc E p.2)).toArray).run P w = .ok u w1 ∧ Done B E H w v H1 u w1 := by
  unfold evBuildSlice at h
  split at h
  · next e hu =>
    split at h
    · next s z hs hz =>
      split at h
      · cases h
      · next hb =>
        rw [Bool.and_eq_true] at hb
        have hb1 := ble_t hb.1
        have hb2 := Nat.eq_of_beq_eq_true hb.2
        rw [len_eq] at hb2
        split at h
        · next cs hf =>
          cases h
          have hcs : ∀ E', Agree H.next E E' → concL E' cs = concL E cs := fun E' hE => by
            have f1 := fill_ok (E := E) parts (pl' := fun i => some (i * s, s)) (fun i x hx => hx) hf
            have f2 := fill_ok (E := E') parts (pl' := fun i => some (i * s, s)) (fun i x hx => hx) hf
            rw [hp E' hE, rep_E (fun A B => zcells_E hz A B) n E' E, f1] at f2
            simpa using f2.symm
          refine ⟨_, _, ?_, fresh_done hw hS e s hcs (.sl H.next 0 n n false) (.slice (some ⟨w.heap.size, 0, none⟩) n n) (fun E' h => by simp [conc, h])⟩
          unfold Instr.buildSlice
          simp only [Sem.run_bind, run_under hL hu, Result.andThen_ok, run_size hL hs, Sem.run_ite]
          rw [if_neg (by show ¬ n * s > 16777216; omega)]
          simp only [Sem.run_pure, Result.andThen_ok]
          have rr := range_rep (E := E) hb2 n
          have ff := fill_ok (E := E) parts (pl' := fun i => some (i * s, s)) (fun i x hx => hx) hf
          by_cases hns : n * s = 0
          · simp only [if_pos hns] at rr ⊢
            rw [rr, ff]
            simp only [Sem.run_bind, run_newRow, Result.andThen_ok, Sem.run_pure]
          · simp only [if_neg hns] at rr ⊢
            simp only [run_zero (E := E) hL hz, Result.andThen_ok, conc_cells]
            rw [rr, ff]
            simp only [Sem.run_bind, run_newRow, Result.andThen_ok, Sem.run_pure]
        · cases h
    · cases h
  · cases h

theorem evMakeSlice_ok (hL : LOk0 L P) (hw : H.Wf) (hS : St B E H w) {t : TypeId} {l c v : AV} {H1 : AH} (h : evMakeSlice L t l c H = some (v, H1)) :
    ∃ u w1, (Instr.makeSlice t (conc E l) (conc E c)).run P w = .ok u w1 ∧ Done B E H w v H1 u w1 := by
  unfold evMakeSlice at h
  split at h
  · next e hu =>
    split at h
    · next l' c' b z s hl hc hby hz hs =>
      split at h
      · next hb =>
        cases h
        rw [Bool.and_eq_true, Bool.and_eq_true, Bool.and_eq_true] at hb
        obtain ⟨⟨⟨b1, b2⟩, b3⟩, b4⟩ := hb
        have b1 := ble_t b1
        have b2 := ble_t b2
        have b3 := ble_t b3
        have b4 := Nat.eq_of_beq_eq_true b4
        rw [len_eq] at b4
        obtain ⟨k1, rfl⟩ := natOf_ok hl
        obtain ⟨k2, rfl⟩ := natOf_ok hc
        refine ⟨_, _, ?_, fresh_done hw hS e s (vs := rep z.cells c') (fun E' _ => rep_E (fun A B => zcells_E hz A B) c' E' E) (.sl H.next 0 l' c' false) (.slice (some ⟨w.heap.size, 0, none⟩) l' c') (fun E' h => by simp [conc, h])⟩
        obtain ⟨i, hi, hib⟩ := run_bytes hL hby w
        unfold Instr.makeSlice
        simp only [conc, Sem.run_bind, run_under hL hu, Result.andThen_ok, asInt, asIntOf, Sem.run_pure, hi]
        rw [IntWalk.i64_in (l' : Int) ⟨by omega, by omega⟩, IntWalk.i64_in (c' : Int) ⟨by omega, by omega⟩]
        simp only [Sem.run_ite]
        rw [if_neg (by
          simp only [Bool.or_eq_true, decide_eq_true_eq, hib]
          rintro ((h | h) | h)
          · rcases h with h | h
            · omega
            · have : (b : Int) * c' > 281474976710656 := h
              have h2 : (b : Int) * c' = ((b * c' : Nat) : Int) := by simp
              omega
          · omega
          · omega)]
        have hroom : (askRoom (c' * i.bytes)).run P w = .ok () w := by
          unfold askRoom roomBytes
          simp only [Sem.run_ite, Sem.run_pure]
          rw [if_neg (by
            rw [hib, Nat.mul_comm]
            show ¬ b * c' > 140737488355328
            omega)]
        simp only [Int.toNat_natCast, Sem.run_bind, hroom, run_size hL hs, Result.andThen_ok]
        have rr := range_rep (E := E) b4 c'
        by_cases hns : c' * s = 0
        · simp only [if_pos hns] at rr ⊢
          simp only [Sem.run_bind, Result.andThen_ok, Sem.run_pure]
          rw [rr]
          simp only [run_newRow, Result.andThen_ok]
        · simp only [if_neg hns] at rr ⊢
          simp only [Sem.run_bind, run_zero (E := E) hL hz, Result.andThen_ok, conc_cells, Sem.run_pure]
          rw [rr]
          simp only [run_newRow, Result.andThen_ok]
      · cases h
    · cases h
  · cases h
end
end Go.Ev
