import Derived.Test.YtnkomaedmblemaaEvOp2
set_option linter.unusedSimpArgs false
set_option linter.unusedVariables false
namespace Go.Ev
section
variable {L : Lk} {P : Program} {w : World} {E : Env}

theorem ble_t {a b : Nat} (h : Nat.ble a b = true) : a ≤ b := Nat.le_of_ble_eq_true h
theorem and_ble {a b c d : Nat} (h : (Nat.ble a b && Nat.ble c d) = true) : a ≤ b ∧ c ≤ d := by
  rw [Bool.and_eq_true] at h; exact ⟨ble_t h.1, ble_t h.2⟩
theorem and_ble3 {a b c d e f : Nat} (h : (Nat.ble a b && Nat.ble c d && Nat.ble e f) = true) : a ≤ b ∧ c ≤ d ∧ e ≤ f := by
  rw [Bool.and_eq_true] at h; exact ⟨(and_ble h.1).1, (and_ble h.1).2, ble_t h.2⟩

theorem beq_f {a b : Nat} (h : a ≠ b) : Nat.beq a b = false := by
  cases hb : Nat.beq a b with
  | false => rfl
  | true => exact absurd (Nat.eq_of_beq_eq_true hb) h
theorem off_eq {m l z o : Nat} {i : Nat} : (if m = l then (⟨(E i).blk, (E i).off + o, none⟩ : Addr) else (⟨(E i).blk, (E i).off + o, none⟩ : Addr).add (l * z)) =
    ⟨(E i).blk, (E i).off + offOf m l o z, none⟩ := by
  unfold offOf
  by_cases h : m = l
  · subst h; rw [if_pos rfl, Nat.beq_refl]
  · rw [if_neg h, beq_f h]
    exact cA_add E i o (l * z)
theorem off_eq' {m l z o : Nat} {i : Nat} : (if m = l then some (⟨(E i).blk, (E i).off + o, none⟩ : Addr) else (some (⟨(E i).blk, (E i).off + o, none⟩ : Addr)).map (·.add (l * z))) =
    some ⟨(E i).blk, (E i).off + offOf m l o z, none⟩ := by
  rw [← off_eq (E := E)]
  split <;> rfl

theorem evSlice_ok (hL : LOk0 L P) {t : TypeId} {x r : AV} {lo hi mx : Option AV} (h : evSlice L t x lo hi mx = some r) :
    (Instr.sliceAt t (conc E x) (lo.map (conc E)) (hi.map (conc E)) (mx.map (conc E))).run P w = .ok (conc E r) w := by
  unfold evSlice at h
  split at h
  · cases h
  · next hmh =>
    split at h
    · cases h
    · next l hl =>
      split at h
      · next s hu =>
        split at h
        · cases h
        · split at h
          · cases h
          · next hx hhi =>
            split at h
            · next hb =>
              cases h
              obtain ⟨h1, h2⟩ := and_ble hb
              have hsb := run_sliceBounds (P := P) (w := w) (E := E) (isSl := false) (n := s.size) (c := s.size) (mx := none) (m := s.size) hl hhi rfl hmh h1 h2 (Nat.le_refl _)
              unfold Instr.sliceAt Instr.slice
              simp only [Option.map_none] at hsb
              simp only [conc, Sem.run_bind, run_under hL hu, Result.andThen_ok, Option.map_none, Option.isSome_none, Bool.false_eq_true, if_false, Sem.run_pure, Sem.run_ite, hsb]
            · cases h
      · next e hu =>
        split at h
        · next h0 m z hhi hmx hz =>
          split at h
          · next hb =>
            cases h
            rw [Bool.and_eq_true, Bool.and_eq_true] at hb
            obtain ⟨⟨b1, b2⟩, b3⟩ := hb
            have e1 : l = 0 := Nat.eq_of_beq_eq_true b1
            have e2 : h0 = 0 := Nat.eq_of_beq_eq_true b2
            have e3 : m = 0 := Nat.eq_of_beq_eq_true b3
            subst e1 e2 e3
            have hsb := run_sliceBounds (P := P) (w := w) (E := E) (isSl := true) (n := 0) (c := 0) hl hhi hmx hmh (Nat.le_refl _) (Nat.le_refl _) (Nat.le_refl _)
            unfold Instr.sliceAt Instr.slice
            simp only [conc, Sem.run_bind, run_under hL hu, Result.andThen_ok, hsb, run_size hL hz, Sem.run_pure]
            rfl
          · cases h
        · cases h
      · next e i o n c op hu =>
        split at h
        · cases h
        · next z hz =>
          split at h
          · cases h
          · next hx hhi =>
            split at h
            · next v =>
              split at h
              · cases h
              · next m hm =>
                split at h
                · next hb =>
                  cases h
                  obtain ⟨h1, h2, h3⟩ := and_ble3 hb
                  have hsb := run_sliceBounds (P := P) (w := w) (E := E) (isSl := true) (n := n) (c := c + (if op = true then (E i).extra else 0)) (mx := some v) (m := m) hl hhi hm hmh h1 h2 (by omega)
                  unfold Instr.sliceAt Instr.slice
                  simp only [conc, Sem.run_bind, run_under hL hu, Result.andThen_ok, hsb, run_size hL hz, Sem.run_pure, off_eq', Bool.false_eq_true, if_false, Nat.add_zero]
                · cases h
            · split at h
              · next hb =>
                obtain ⟨h1, h2⟩ := and_ble hb
                have hsb := run_sliceBounds (P := P) (w := w) (E := E) (isSl := true) (n := n) (c := c + (if op = true then (E i).extra else 0)) (mx := none) (m := c + (if op = true then (E i).extra else 0)) hl hhi rfl hmh h1 (by omega) (Nat.le_refl _)
                unfold Instr.sliceAt Instr.slice
                simp only [conc, Sem.run_bind, run_under hL hu, Result.andThen_ok, hsb, run_size hL hz, Sem.run_pure]
                split at h
                · cases h
                  simp only [Bool.false_eq_true, if_false, Nat.add_zero, off_eq', conc]
                · split at h
                  · cases h
                  · next hne =>
                    cases h
                    have hne' : c ≠ l := Nat.ne_of_beq_eq_false hne
                    simp only [if_true, Option.map_some, conc]
                    rw [if_neg (by omega)]
                    rw [show (⟨(E i).blk, (E i).off + o, none⟩ : Addr) = cA E i o from rfl, cA_add]
                    congr 2
                    omega
              · cases h
      · next n e i o hu =>
        split at h
        · cases h
        · next z hz =>
          split at h
          · next h0 m hhi hmx =>
            split at h
            · next hb =>
              cases h
              obtain ⟨h1, h2, h3⟩ := and_ble3 hb
              have hsb := run_sliceBounds (P := P) (w := w) (E := E) (isSl := false) (n := n) (c := n) hl hhi hmx hmh h1 h2 h3
              unfold Instr.sliceAt
              simp only [conc, Sem.run_bind, run_under hL hu, Result.andThen_ok, hsb, run_size hL hz, Sem.run_pure, Instr.sureAddr, off_eq, Bool.false_eq_true, if_false, Nat.add_zero]
            · cases h
          · cases h
      · cases h
end
end Go.Ev
