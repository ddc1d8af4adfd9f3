import Derived.Test.YtnkomaedmblemaaEvOp1
set_option linter.unusedSimpArgs false
set_option linter.unusedVariables false
namespace Go.Ev
section
variable {L : Lk} {P : Program} {w : World} {E : Env}

theorem natOf_ok {v : AV} {m : Nat} (h : natOf v = some m) : ∃ k, v = .int k (m : Int) := by
  unfold natOf at h
  split at h
  · next k n =>
    split at h
    · next j => cases h; exact ⟨k, rfl⟩
    · cases h
  · cases h
theorem concL_take (l : List AV) (n : Nat) : concL E (l.take n) = (concL E l).take n := by simp [concL_eq]
theorem concL_drop (l : List AV) (n : Nat) : concL E (l.drop n) = (concL E l).drop n := by simp [concL_eq]

theorem evPart_ok (hL : LOk0 L P) {t : TypeId} {cs : List AV} {off : Nat} {r : AV} (h : evPart L t cs off = some r) :
    (part t (concL E cs).toArray off).run P w = .ok (conc E r) w := by
  unfold evPart at h
  unfold part
  simp only [Sem.run_bind]
  split at h
  · next hag =>
    split at h
    · next s hs =>
      split at h
      · next l hl =>
        cases h
        obtain ⟨h1, h2⟩ := (sliceN_some cs off s l).1 hl
        simp only [run_isAgg hL hag, Result.andThen_ok, if_true, Sem.run_bind, run_size hL hs, Sem.run_pure]
        congr 1
        show Value.agg _ = Value.agg (concL E l).toArray
        congr 1
        rw [h2, concL_take, concL_drop]
        simp [List.extract_eq_take_drop]
      · cases h
    · cases h
  · next hag =>
    rw [nth_eq] at h
    simp only [run_isAgg hL hag, Result.andThen_ok, Bool.false_eq_true, if_false]
    have : (concL E cs).toArray[off]? = some (conc E r) := by simp [concL_getElem?, h]
    rw [this]
    rfl
  · cases h

theorem evField_ok (hL : LOk0 L P) {t : TypeId} {x r : AV} {f : Nat} (h : evField L t x f = some r) : (Instr.field t (conc E x) f).run P w = .ok (conc E r) w := by
  unfold evField at h
  split at h
  · next cs =>
    split at h
    · next fields hu =>
      split at h
      · next fd hf =>
        rw [nth_eq] at hf
        have hf' : fields[f]? = some fd := by simpa using hf
        unfold Instr.field
        simp only [Sem.run_bind, run_under hL hu, Result.andThen_ok, hf']
        simp only [conc, asAgg, Sem.run_bind, Sem.run_pure, Result.andThen_ok]
        exact evPart_ok hL h
      · cases h
    · cases h
  · cases h

theorem evFieldAddr_ok (hL : LOk0 L P) {t : TypeId} {x r : AV} {f : Nat} (h : evFieldAddr L t x f = some r) : (Instr.fieldAt t (conc E x) f).run P w = .ok (conc E r) w := by
  unfold evFieldAddr at h
  split at h
  · next i o =>
    split at h
    · next fields hu =>
      split at h
      · next fd hf =>
        rw [nth_eq] at hf
        have hf' : fields[f]? = some fd := by simpa using hf
        split at h
        · next z hz =>
          split at h
          · cases h
          · next hz0 =>
            cases h
            have hz' : ¬ z = 0 := by intro he; subst he; cases hz0
            unfold Instr.fieldAt
            simp only [Sem.run_bind, run_under hL hu, Result.andThen_ok, hf', conc, Instr.sureAddr, Sem.run_pure, fieldPlace, run_size hL hz, Sem.run_ite, if_neg hz']
            rw [show (⟨(E i).blk, (E i).off + o, none⟩ : Addr) = cA E i o from rfl, cA_add]
        · cases h
      · cases h
    · cases h
  · cases h

theorem evIndexAddr_ok (hL : LOk0 L P) {t : TypeId} {x ix r : AV} (h : evIndexAddr L t x ix = some r) : (Instr.indexAt t (conc E x) (conc E ix)).run P w = .ok (conc E r) w := by
  unfold evIndexAddr at h
  split at h
  · cases h
  · next j hj =>
    obtain ⟨k, rfl⟩ := natOf_ok hj
    split at h
    · next e i o n c op hu =>
      split at h
      · next z hz =>
        split at h
        · next hlt =>
          cases h
          have hlt' : j < n := Nat.le_of_ble_eq_true hlt
          unfold Instr.indexAt
          simp only [conc, asIntOf, Sem.run_bind, Sem.run_pure, Result.andThen_ok, run_under hL hu, run_size hL hz, Sem.run_ite]
          rw [if_pos ⟨by omega, by omega⟩]
          simp only [Int.toNat_natCast]
          rw [show (⟨(E i).blk, (E i).off + o, none⟩ : Addr) = cA E i o from rfl, cA_add]
        · cases h
      · cases h
    · next n e i o hu =>
      split at h
      · next z hz =>
        split at h
        · next hlt =>
          cases h
          have hlt' : j < n := Nat.le_of_ble_eq_true hlt
          unfold Instr.indexAt
          simp only [conc, asIntOf, Sem.run_bind, Sem.run_pure, Result.andThen_ok, run_under hL hu, run_size hL hz, Sem.run_ite, Instr.sureAddr]
          rw [if_pos ⟨by omega, by omega⟩]
          simp only [Int.toNat_natCast]
          rw [show (⟨(E i).blk, (E i).off + o, none⟩ : Addr) = cA E i o from rfl, cA_add]
        · cases h
      · cases h
    · cases h

theorem evIndex_ok (hL : LOk0 L P) {t : TypeId} {x ix r : AV} (h : evIndex L t x ix = some r) : (Instr.index t (conc E x) (conc E ix)).run P w = .ok (conc E r) w := by
  unfold evIndex at h
  split at h
  · cases h
  · next j hj =>
    obtain ⟨k, rfl⟩ := natOf_ok hj
    split at h
    · next n e cs hu =>
      split at h
      · next z hz =>
        split at h
        · next hlt =>
          have hlt' : j < n := Nat.le_of_ble_eq_true hlt
          unfold Instr.index
          simp only [conc, asIntOf, Sem.run_bind, Sem.run_pure, Result.andThen_ok, run_under hL hu, run_size hL hz, Sem.run_ite]
          rw [if_pos ⟨by omega, by omega⟩]
          simp only [Int.toNat_natCast]
          exact evPart_ok hL h
        · cases h
      · cases h
    · next s hu =>
      split at h
      · next b hb =>
        cases h
        unfold Instr.index
        simp only [conc, asIntOf, Sem.run_bind, Sem.run_pure, Result.andThen_ok, run_under hL hu, Int.toNat_natCast]
        rw [if_pos (by omega), hb]
        rfl
      · cases h
    · cases h

theorem run_sliceBound {k : IntKind} {m y : Nat} (h : m ≤ y) (c : BoundsCode) : (Instr.sliceBound (.int k (m : Int)) y c).run P w = .ok m w := by
  unfold Instr.sliceBound
  simp only [asIntOf, Sem.run_bind, Sem.run_pure, Result.andThen_ok, Sem.run_ite]
  rw [if_pos ⟨by omega, by omega⟩]
  simp

theorem bnd {v : Option AV} {d m : Nat} (h : bndOf v d = some m) : (v = none ∧ m = d) ∨ ∃ k, v = some (.int k (m : Int)) := by
  cases v with
  | none => cases h; exact .inl ⟨rfl, rfl⟩
  | some v => obtain ⟨k, rfl⟩ := natOf_ok h; exact .inr ⟨k, rfl⟩

theorem run_sliceBounds {isSl : Bool} {n c : Nat} {lo hi mx : Option AV} {l h m : Nat} (hlo : bndOf lo 0 = some l)
    (hhi : bndOf hi n = some h) (hmx : bndOf mx c = some m)
    (hh : maxOk mx hi = true) (h1 : l ≤ h) (h2 : h ≤ m) (h3 : m ≤ c) :
    (Instr.sliceBounds isSl n c (lo.map (conc E)) (hi.map (conc E)) (mx.map (conc E))).run P w = .ok (l, h, m) w := by
  unfold Instr.sliceBounds
  rcases bnd hlo with ⟨rfl, rfl⟩ | ⟨k1, rfl⟩ <;> rcases bnd hhi with ⟨rfl, rfl⟩ | ⟨k2, rfl⟩ <;> rcases bnd hmx with ⟨rfl, rfl⟩ | ⟨k3, rfl⟩ <;> first
    | (cases hh; done)
    | (simp only [Option.map_none, Option.map_some, conc, Sem.run_bind, Sem.run_pure, Result.andThen_ok, run_sliceBound h1, run_sliceBound h2, run_sliceBound h3])

end
end Go.Ev
