import Derived.Test.YtnkomaedmblemaaEvOp5
import Derived.ChangeKeysEq
import Derived.Laws.StructEq
set_option linter.unusedSimpArgs false
set_option linter.unusedVariables false
namespace Go.Ev
section
variable {L : Lk} {P : Program} {w : World} {E : Env}

theorem evInt_ok {op : BinOp} {t : TypeId} {k : IntKind} {x y : Int} {r : AV} (h : evInt op k x y = some r) : (binOp op t (.int k x) (.int k y)).run P w = .ok (conc E r) w := by
  cases op <;> simp only [evInt, fwrap_eq] at h <;> first
    | (cases h; done)
    | (cases h; simp [binOp, Op.intArith, Op.intBits, Op.intCmp, conc]; done)
    | (split at h
       · cases h
       · next hy =>
         cases h
         have hy' : ¬ y = 0 := by simpa using hy
         simp [binOp, Op.intDiv, conc, hy'])

theorem evShift_ok {op : BinOp} {t : TypeId} {k k' : IntKind} {x y : Int} {r : AV} (hop : op = .shl ∨ op = .shr) (h : evShift op k x y = some r) : (binOp op t (.int k x) (.int k' y)).run P w = .ok (conc E r) w := by
  unfold evShift at h
  split at h
  · cases h
  · next hy =>
    have hy' : ¬ y < 0 := by simpa using hy
    rcases hop with rfl | rfl <;> (simp only [fwrap_eq] at h; cases h; simp [binOp, Op.shift, conc, hy'])

theorem evStr_ok {op : BinOp} {t : TypeId} {x y : ByteArray} {r : AV} (h : evStr op x y = some r) : (binOp op t (.string x) (.string y)).run P w = .ok (conc E r) w := by
  cases op <;> simp only [evStr] at h <;> first
    | (cases h; done)
    | (cases h; simp [binOp, Op.stringOp, conc]; done)
    | (split at h
       · next hb =>
         cases h
         have hb' := ble_t hb
         simp only [binOp, Op.stringOp, Sem.run_ite, conc, Sem.run_pure]
         rw [if_neg (by
           have : IntKind.max .i64 = 9223372036854775807 := by decide
           rw [this]; omega)]
       · cases h)

theorem evUn_ok {op : UnOp} {x r : AV} (h : evUn op x = some r) : (Op.unary op (conc E x)).run P w = .ok (conc E r) w := by
  unfold evUn at h
  split at h
  · split at h
    · simp only [fwrap_eq] at h
      cases h
      simp [Op.unary, Op.intArith, conc]
    · cases h
  · split at h
    · simp only [evInt, fwrap_eq] at h
      cases h
      simp [Op.unary, Op.intBits, conc]
    · cases h
  · split at h
    · cases h; simp [Op.unary, conc]
    · cases h
  · cases h

set_option maxHeartbeats 2000000 in
theorem evEq_ok (hL : LOk0 L P) (n : Nat) : ∀ (m : Nat) (t : TypeId) (x y : AV) (b : Bool), n ≤ m → evEq L n t x y = some b → (Op.equalIn m t (conc E x) (conc E y)).run P w = .ok b w := by
  induction n with
  | zero => intro m t x y b _ h; cases h
  | succ n ih =>
    intro m t x y b hm h
    obtain ⟨m, rfl⟩ : ∃ m', m = m' + 1 := ⟨m - 1, by omega⟩
    have hm' : n ≤ m := by omega
    unfold evEq at h
    rw [nrecF_succ] at h
    have ih' : ∀ t x y b, nrecF (α := TypeId) (β := AV → AV → Option Bool) (fun _ _ _ => none) _ n t x y = some b → _ := fun t x y b hh => ih m t x y b hm' hh
    generalize hgen : nrecF (α := TypeId) (β := AV → AV → Option Bool) (fun _ _ _ => none) _ n = rec at h ih'
    split at h
    · cases h
    · next d hu =>
      split at h
      · split at h
        · cases h; rw [show conc E (.bool _) = Value.bool _ from rfl]; exact run_equalIn_bool w m t _ _ (under_ok hL hu)
        · cases h
      · next kd =>
        split at h
        · next k a k2 b2 =>
          split at h
          · next hk =>
            have hk' : k = k2 := by simpa using hk
            subst hk'
            cases h
            exact run_equalIn_int w m t k kd a b2 (under_ok hL hu)
          · cases h
        · cases h
      · split at h
        · next a b2 =>
          cases h
          rw [beq_toListBytes]
          exact run_equalIn_string w m t a b2 (under_ok hL hu)
        · cases h
      · next e =>
        split at h <;> first
          | (cases h; done)
          | (cases h; simp [Op.equalIn, run_under hL hu, conc]; done)
          | (next i o j p =>
             split at h
             · next s hij hs =>
               have hij' := Nat.eq_of_beq_eq_true hij
               subst hij'
               split at h
               · cases h
               · next hs0 =>
                 cases h
                 have hs' : ¬ s = 0 := by intro he; subst he; cases hs0
                 simp only [Op.equalIn, Sem.run_bind, run_under hL hu, Result.andThen_ok, conc, run_size hL hs, Sem.run_ite, hs', ne_eq, not_false_eq_true, if_true, sameAddr, beq_self_eq_true, Sem.run_pure]
                 congr 1
                 by_cases hop : o = p
                 · subst hop; simp
                 · rw [beq_f hop]; simp; omega
             · cases h)
      · next ms =>
        split at h <;> first
          | (cases h; done)
          | (cases h; simp [Op.equalIn, run_under hL hu, conc]; done)
          | (next tx vx ty vy =>
             split at h
             · next hxy =>
               cases h
               have hne : tx ≠ ty := Nat.ne_of_beq_eq_false hxy
               simp [Op.equalIn, run_under hL hu, conc, hne]
             · next hxy =>
               have he := Nat.eq_of_beq_eq_true hxy
               subst he
               split at h
               · next i hi =>
                 split at h
                 · next hc =>
                   have := ih' _ _ _ _ h
                   simp only [Op.equalIn, Sem.run_bind, run_under hL hu, Result.andThen_ok, conc, ne_eq, not_true_eq_false, if_false, run_info hL hi, hc, Bool.not_true, Bool.false_eq_true, Sem.run_ite]
                   exact this
                 · cases h
               · cases h)
      · next fs =>
        split at h
        · cases h
        · next hpl =>
          split at h
          · next xs ys =>
            have hu' := under_ok hL hu
            have hfo : P.fieldsOf t = fs := by unfold Program.fieldsOf; rw [hu']
            have hp := (hL.plainEq t hpl).1
            show (Op.equalIn (m + 1) t (.agg (concL E xs).toArray) (.agg (concL E ys).toArray)).run P w = _
            rw [run_equalIn_struct w m t _ _ (by rw [hfo]; exact hu') hp, hfo]
            clear hu hu' hfo hp hpl
            revert h
            generalize fs.toList = l
            intro h
            induction l with
            | nil => cases h; simp [Op.eqFields]
            | cons f l ihl =>
              rw [lrec_cons] at h
              unfold Op.eqFields
              split at h
              · next hn =>
                have hn' : f.name = "_" := by simpa using hn
                rw [if_neg (by simp [hn'])]
                exact ihl h
              · next hn =>
                have hn' : f.name ≠ "_" := by simpa using hn
                rw [if_pos hn']
                split at h
                · next a b2 ha hb =>
                  simp only [Sem.run_bind, evPart_ok hL ha, evPart_ok hL hb, Result.andThen_ok]
                  split at h
                  · next hr =>
                    rw [ih' _ _ _ _ hr]
                    simp only [Result.andThen_ok, Bool.not_true, Bool.false_eq_true, if_false]
                    exact ihl h
                  · next r hr =>
                    rw [ih' _ _ _ _ h]
                    cases b with
                    | true => exact absurd h hr
                    | false => simp
                · cases h
          · cases h
      · next n' e =>
        split at h
        · next xs ys =>
          split at h
          · next s hs =>
            have hu' := under_ok hL hu
            show (Op.equalIn (m + 1) t (.agg (concL E xs).toArray) (.agg (concL E ys).toArray)).run P w = _
            obtain ⟨i, hi, hsz⟩ : ∃ i, P.info? e = some i ∧ i.size = s := by
              unfold Lk.size at hs
              split at hs
              · next i hi => cases hs; exact ⟨i, hL.info e i hi, rfl⟩
              · cases hs
            have hco : P.cellsOf e = s := by unfold Program.cellsOf; rw [hi]; exact hsz
            rw [run_equalIn_array w m _ _ hu' hi, hco, List.range_eq_range']
            clear hu hu'
            revert h
            generalize 0 = j
            intro h
            induction n' generalizing j with
            | zero => cases h; simp [Op.eqItems]
            | succ n' ihn =>
              rw [nrecF_succ] at h
              rw [List.range'_succ]
              unfold Op.eqItems
              split at h
              · next a b2 ha hb =>
                simp only [Sem.run_bind, evPart_ok hL ha, evPart_ok hL hb, Result.andThen_ok]
                split at h
                · next hr =>
                  rw [ih' _ _ _ _ hr]
                  simp only [Result.andThen_ok, Bool.not_true, Bool.false_eq_true, if_false]
                  exact ihn _ h
                · next r hr =>
                  rw [ih' _ _ _ _ h]
                  cases b with
                  | true => exact absurd h hr
                  | false => simp
              · cases h
          · cases h
        · cases h
      · split at h <;> first
          | (cases h; done)
          | (cases h; simp [Op.equalIn, run_under hL hu, conc]; done)
      · split at h <;> first
          | (cases h; done)
          | (cases h; simp [Op.equalIn, run_under hL hu, conc]; done)
      · split at h <;> first
          | (cases h; done)
          | (cases h; simp [Op.equalIn, run_under hL hu, conc]; done)
      · cases h
end
end Go.Ev
