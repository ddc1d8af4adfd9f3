import Derived.Test.YtnkomaedmblemaaEvOp6
set_option linter.unusedSimpArgs false
set_option linter.unusedVariables false
namespace Go.Ev
section
variable {L : Lk} {P : Program} {w : World} {E : Env} {B : Nat} {H : AH}

def bothInt (x y : AV) : Bool := match x, y with | .int _ _, .int _ _ => true | .str _, .str _ => true | _, _ => false
theorem run_eql_other {t : TypeId} {x y : AV} (h : bothInt x y = false) {b : Bool} (he : (Op.equal t (conc E x) (conc E y)).run P w = .ok b w) : (binOp .eql t (conc E x) (conc E y)).run P w = .ok (.bool b) w := by
  cases x <;> cases y <;> first
    | (cases h; done)
    | (simp only [conc] at he ⊢; simp only [binOp, Sem.run_bind, he, Result.andThen_ok, Sem.run_pure])
theorem run_neq_other {t : TypeId} {x y : AV} (h : bothInt x y = false) {b : Bool} (he : (Op.equal t (conc E x) (conc E y)).run P w = .ok b w) : (binOp .neq t (conc E x) (conc E y)).run P w = .ok (.bool (!b)) w := by
  cases x <;> cases y <;> first
    | (cases h; done)
    | (simp only [conc] at he ⊢; simp only [binOp, Sem.run_bind, he, Result.andThen_ok, Sem.run_pure])

def guardIn (L : Lk) (t : TypeId) (xo yo : Operand) (x y : AV) : Bool :=
  match x, y with
  | .nilIfc, .nilIfc => isConst xo || isConst yo
  | .agg _, .agg _ => L.plainEq t
  | _, _ => true
theorem run_eqGuard (hL : LOk0 L P) {op : BinOp} {t : TypeId} {xo yo : Operand} {x y : AV} (h : guardIn L t xo yo x y = true) : (eqGuard op t xo yo (conc E x) (conc E y)).run P w = .ok () w := by
  unfold guardIn at h
  split at h
  · rw [Bool.or_eq_true] at h
    unfold eqGuard
    simp only [conc, Sem.run_ite, Sem.run_pure]
    rcases h with h | h
    · cases xo <;> first | (cases h; done) | (simp [isConst])
    · cases yo <;> first | (cases h; done) | (simp [isConst])
  · exact run_eqGuard_agg w op t xo yo _ _ (hL.plainEq t h).2
  · next h1 h2 =>
    cases op <;> first
      | rfl
      | (cases x <;> cases y <;> first
          | rfl
          | (exact (h1 rfl rfl).elim)
          | (exact (h2 _ _ rfl rfl).elim))
theorem run_eqGuard_int {op : BinOp} {t : TypeId} {xo yo : Operand} {k : IntKind} {n : Int} {b : Value} : (eqGuard op t xo yo (.int k n) b).run P w = .ok () w := by
  cases op <;> first | rfl | (cases b <;> rfl)
theorem run_eqGuard_str {op : BinOp} {t : TypeId} {xo yo : Operand} {s : ByteArray} {b : Value} : (eqGuard op t xo yo (.string s) b).run P w = .ok () w := by
  cases op <;> first | rfl | (cases b <;> rfl)

theorem evBin_ok (hL : LOk0 L P) {op : BinOp} {t : TypeId} {xo yo : Operand} {x y r : AV} (h : evBin L op t xo yo x y = some r) :
    ((do eqGuard op t xo yo (conc E x) (conc E y); binOp op t (conc E x) (conc E y)) : Sem Value).run P w = .ok (conc E r) w := by
  unfold evBin at h
  simp only [Sem.run_bind]
  split at h
  · split at h
    · simp only [conc, run_eqGuard_int, Result.andThen_ok]
      exact evShift_ok (.inl rfl) h
    · cases h
  · split at h
    · simp only [conc, run_eqGuard_int, Result.andThen_ok]
      exact evShift_ok (.inr rfl) h
    · cases h
  · split at h
    · split at h
      · next hk =>
        have hk' := of_decide_eq_true hk
        subst hk'
        simp only [conc, run_eqGuard_int, Result.andThen_ok]
        exact evInt_ok h
      · cases h
    · simp only [conc, run_eqGuard_str, Result.andThen_ok]
      exact evStr_ok h
    · next hi hs =>
      have hb : bothInt x y = false := by
        unfold bothInt
        split
        · exact (hi _ _ _ _ rfl rfl).elim
        · exact (hs _ _ rfl rfl).elim
        · rfl
      split at h <;> first
        | (cases h; done)
        | (split at h
           · cases h
           · next hg =>
             rw [run_eqGuard hL hg]
             simp only [Result.andThen_ok]
             split at h
             · next rr hr =>
               cases h
               first
                 | exact run_eql_other hb (evEq_ok hL 40 10000 t x y rr (by omega) hr)
                 | exact run_neq_other hb (evEq_ok hL 40 10000 t x y rr (by omega) hr)
             · cases h)

theorem evMakeInterface_ok (hL : LOk0 L P) {t : TypeId} {x r : AV} (h : evMakeInterface L t x = some r) : (Instr.makeInterface t (conc E x)).run P w = .ok (conc E r) w := by
  unfold evMakeInterface at h
  unfold Instr.makeInterface
  split at h
  · cases h
  · next d hu hd =>
    cases h
    simp only [Sem.run_bind, run_under hL hd, Result.andThen_ok]
    cases d <;> first
      | rfl
      | exact (hu _ rfl).elim
  · cases h

theorem evAssert_ok (hL : LOk0 L P) {x r : AV} {xt t : TypeId} {ok : Bool} (h : evAssert L x t ok = some r) : (Instr.typeAssert (conc E x) xt t ok).run P w = .ok (conc E r) w := by
  have fails : ∀ (e : RuntimeError), asFails L t ok = some r → ((if ok = true then (do pure (Value.tuple #[← zeroValue t, .bool false]) : Sem Value) else runtimePanic e)).run P w = .ok (conc E r) w := by
    intro e hf
    unfold asFails at hf
    cases ok with
    | false => cases hf
    | true =>
      simp only at hf
      split at hf
      · next z hz =>
        cases hf
        simp only [if_true, Sem.run_bind, run_zero (E := E) hL hz, Result.andThen_ok, Sem.run_pure]
        rfl
      · cases hf
  have holds : ∀ v, asHolds ok v = some r → (pure (if ok = true then Value.tuple #[conc E v, .bool true] else conc E v) : Sem Value).run P w = .ok (conc E r) w := by
    intro v hv
    cases ok <;> (cases hv; rfl)
  unfold evAssert at h
  unfold Instr.typeAssert
  split at h
  · cases h
  · next want hu =>
    split at h
    · simp only [conc, Sem.run_bind, run_under hL hu, Result.andThen_ok]
      exact fails _ h
    · next t' v =>
      split at h
      · next i hi =>
        simp only [conc, Sem.run_bind, run_under hL hu, Result.andThen_ok, run_info hL hi]
        split at h
        · next hm => rw [hm]; exact holds (.ifc t' v) h
        · next s hm => rw [hm]; exact fails _ h
      · cases h
    · cases h
  · next d hd hu =>
    have key : ∀ (a : Value → Sem Value) (X Y : Sem Value), True := fun _ _ _ => trivial
    split at h
    · simp only [conc, Sem.run_bind, run_under hL hu, Result.andThen_ok]
      cases d <;> first
        | exact (hd _ rfl).elim
        | exact fails _ h
    · next t' v =>
      simp only [conc, Sem.run_bind, run_under hL hu, Result.andThen_ok]
      split at h
      · next ht =>
        have ht' := Nat.eq_of_beq_eq_true ht
        subst ht'
        cases d <;> first
          | exact (hd _ rfl).elim
          | (simp only [if_true]; exact holds v h)
      · next ht =>
        have ht' := Nat.ne_of_beq_eq_false ht
        cases d <;> first
          | exact (hd _ rfl).elim
          | (simp only [if_neg ht']; exact fails _ h)
    · cases h

/-! ### Lengths, least and greatest -/
theorem evMin2_ok {x y r : AV} (h : evMin2 x y = some r) : (Builtin.min2 (conc E x) (conc E y)).run P w = .ok (conc E r) w := by
  unfold evMin2 at h
  split at h
  · cases h; rfl
  · cases h
theorem evMax2_ok {x y r : AV} (h : evMax2 x y = some r) : (Builtin.max2 (conc E x) (conc E y)).run P w = .ok (conc E r) w := by
  unfold evMax2 at h
  split at h
  · cases h; rfl
  · cases h
theorem fold2_ok {f : AV → AV → Option AV} {g : Value → Value → Sem Value} (hfg : ∀ x y r, f x y = some r → (g (conc E x) (conc E y)).run P w = .ok (conc E r) w) (l : List AV) :
    ∀ x r, fold2 f l x = some r → ((concL E l).foldlM g (conc E x)).run P w = .ok (conc E r) w := by
  induction l with
  | nil => intro x r h; cases h; simp [concL]
  | cons y l ih =>
    intro x r h
    unfold fold2 at h
    rw [lrec_cons] at h
    split at h
    · next s hs =>
      simp only [concL, List.foldlM_cons, Sem.run_bind, hfg _ _ _ hs, Result.andThen_ok]
      exact ih s r h
    · cases h

end
end Go.Ev
