import Derived.Test.YtnkomaedmblemaaEvOp11
set_option linter.unusedSimpArgs false
set_option linter.unusedVariables false
namespace Go.Ev

/-- What an operation owes: a value, a call, or a round. -/
def Owes (P : Program) (B : Nat) (E : Env) (H : AH) (w : World) : Next1 → Result Next → Prop
  | .val v H1, r => ∃ u w1, (r = .ok (.value u) w1 ∨ (r = .ok .skip w1 ∧ u = undef)) ∧ Done B E H w v H1 u w1
  | .enter f args, r => ∃ us : List Value, StL E H.next args us ∧ r = (callFunc f us.toArray).run P w
  | .round l args, r => ∃ us : List Value, StL E H.next args us ∧ r = (Instr.yield (E l).blk us.toArray).run P w ∧ l < H.next

section
variable {L : Lk} {P : Program} {w : World} {E : Env} {B : Nat} {H : AH}

theorem owes_val1 (hw : H.Wf) (hS : St B E H w) {x : Option AV} {nx : Next1} (h : val1 x H = some nx) {s : Sem Value} (hs : ∀ v, x = some v → ∃ u, s.run P w = .ok u w ∧ StV E H.next v u) :
    Owes P B E H w nx ((do pure (.value (← s)) : Sem Next).run P w) := by
  unfold val1 at h
  split at h
  · next v =>
    cases h
    obtain ⟨u, hr, hu⟩ := hs v rfl
    refine ⟨u, w, .inl ?_, Done.same hw hS hu⟩
    simp only [Sem.run_bind, hr, Result.andThen_ok, Sem.run_pure]
  · cases h
theorem owes_val2 {x : Option (AV × AH)} {nx : Next1} (h : val2 x = some nx) {s : Sem Value} (hs : ∀ v H1, x = some (v, H1) → ∃ u w1, s.run P w = .ok u w1 ∧ Done B E H w v H1 u w1) :
    Owes P B E H w nx ((do pure (.value (← s)) : Sem Next).run P w) := by
  unfold val2 at h
  split at h
  · next p =>
    cases h
    obtain ⟨u, w1, hr, hd⟩ := hs p.1 p.2 rfl
    refine ⟨u, w1, .inl ?_, hd⟩
    simp only [Sem.run_bind, hr, Result.andThen_ok, Sem.run_pure]
  · cases h
theorem owes_unit {x : Option AH} {nx : Next1} (h : unit1 x = some nx) {s : Sem Unit} (hs : ∀ H1, x = some H1 → ∃ w1, s.run P w = .ok () w1 ∧ St B E H1 w1 ∧ Post E H w E H1 w1 ∧ H1.Wf) :
    Owes P B E H w nx ((do s; pure .skip : Sem Next).run P w) := by
  unfold unit1 at h
  split at h
  · next H1 =>
    cases h
    obtain ⟨w1, hr, h1, h2, h3⟩ := hs H1 rfl
    refine ⟨undef, w1, .inr ⟨?_, rfl⟩, E, fun _ _ => rfl, h1, h2, h3⟩
    simp only [Sem.run_bind, hr, Result.andThen_ok, Sem.run_pure]
  · cases h

theorem run_wrapchk (t : TypeId) (a : Addr) (s1 s2 : String) : (Builtin.ssaWrapNilChk_ #[t] t #[.pointer (some a), strVal s1, strVal s2]).run P w = .ok (.pointer (some a)) w := rfl
theorem evMethod_ok (hL : LOk0 L P) (hR : HRel B E H w) {t : TypeId} {v r : AV} {name : String} {f : FuncId} (h : evMethod L t v name H = some (f, r)) (n : Nat) :
    (method (n + 1) t (conc E v) name).run P w = .ok (f, conc E r) w := by
  unfold evMethod at h
  split at h
  · cases h
  · next i hi =>
    split at h
    · cases h
    · next m hm =>
      split at h
      · cases h
      · next hp =>
        split at h
        · cases h
        · next f' pr hf =>
          split at h
          · cases h
          · next d hd =>
            have hm' : i.methods.find? (·.name == name) = some m := by rw [← hm]; simp
            have hpe : m.path.isEmpty = true := by
              have : m.path = #[] := by
                apply Array.ext'
                simpa using hp
              rw [this]; rfl
            unfold method
            simp only [Sem.run_bind, run_info hL hi, Result.andThen_ok, hm', hp, hf]
            unfold follow
            simp only [Sem.run_pure, Result.andThen_ok, Sem.run_bind, hpe, if_true]
            unfold receiverAt
            simp only [Sem.run_bind, run_under hL hd, Result.andThen_ok]
            split at h
            · cases h
              simp only [Place.get, Sem.run_pure, Result.andThen_ok]
            · split at h
              · next x hx =>
                cases h
                simp only [Place.get, Sem.run_pure, Result.andThen_ok, Sem.run_bind]
                have hl := evLoad_ok (P := P) hL hR hx
                unfold evLoad at hx
                split at hx
                · simp only [conc] at hl ⊢
                  simp only [run_wrapchk, Sem.run_pure, Result.andThen_ok, asAddr, Sem.run_bind]
                  unfold Instr.loadAt at hl
                  simp only [Instr.sureAddr, Sem.run_bind, Sem.run_pure, Result.andThen_ok] at hl
                  rw [hl]
                  rfl
                · cases hx
              · cases h
            · cases h
            · next h1 h2 h3 =>
              cases h
              cases d <;> first
                | exact (h3 _ rfl).elim
                | (simp only [Place.get, Sem.run_pure, Result.andThen_ok])
end
end Go.Ev
