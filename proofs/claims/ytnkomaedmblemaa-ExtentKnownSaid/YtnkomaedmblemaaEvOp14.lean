import Derived.Test.YtnkomaedmblemaaEvOp13
set_option linter.unusedSimpArgs false
set_option linter.unusedVariables false
namespace Go.Ev
section
variable {L : Lk} {P : Program} {w : World} {E : Env} {B : Nat} {H : AH} {T : Tr AV} {a : Act}

theorem optOpnds {n : Nat} (hT : StT E n T a.tmps) {o : Option Operand} {l : List AV} (h : mapO (opnd T) o.toList = some l) : ∀ E', Agree n E E' → o.map a.eval = l.head?.map (conc E') := by
  intro E' hE
  cases o with
  | none => cases h; rfl
  | some x =>
    obtain ⟨h1, h2⟩ := (mapO_some _ _ _).1 h
    obtain ⟨b, hb, hr⟩ := h2 0 x (by simp)
    cases l with
    | nil => simp at h1
    | cons y l =>
      simp only [List.getElem?_cons_zero, Option.some.injEq] at hr
      subst hr
      simp [opnd_ok (hT E' hE) hb]

theorem parts_ok {n : Nat} (hT : StT E n T a.tmps) {parts : Array (Nat × Operand)} {ps : List (Nat × AV)} (h : mapO (fun p : Nat × Operand => match opnd T p.2 with | some v => some (p.1, v) | none => none) parts.toList = some ps) :
    ∀ E', Agree n E E' → (parts.map fun (p : Nat × Operand) => (p.1, a.eval p.2)) = (ps.map fun p => (p.1, conc E' p.2)).toArray := by
  intro E' hE
  apply Array.ext'
  simp only [Array.toList_map]
  refine mapO_map _ (fun p : Nat × AV => (p.1, conc E' p.2)) (fun p : Nat × Operand => (p.1, a.eval p.2)) (fun p q hpq => ?_) h
  split at hpq
  · next v hv => cases hpq; rw [opnd_ok (hT E' hE) hv]
  · cases hpq

/-- A pure result, by one law for every environment. -/
theorem pure_st {n : Nat} {s : Sem Value} {r : AV} (h : ∀ E', Agree n E E' → s.run P w = .ok (conc E' r) w) : ∃ u, s.run P w = .ok u w ∧ StV E n r u :=
  ⟨conc E r, h E (Agree.refl _ _), fun E' hE => by
    have h1 := h E (Agree.refl _ _)
    rw [h E' hE] at h1
    exact (Result.ok.inj h1).1.symm⟩

theorem StV.yld_lt {n l : Nat} {u : Value} (h : StV E n (.yld l) u) : l < n := by
  rcases Nat.lt_or_ge l n with h' | h'
  · exact h'
  · have h1 := h.self
    have h2 := h (E.add l ⟨(E l).blk + 1, 0, 0⟩) (fun i hi => by simp [Env.add]; omega)
    rw [h1] at h2
    simp only [conc, Env.add_self, Value.func.injEq, Fn.yield.injEq, and_true] at h2
    omega
theorem evCallFn_ok (hw : H.Wf) {g : AV} {ug : Value} (hg : StV E H.next g ug) {args : List AV} {us : List Value} (hus : StL E H.next args us) {nx : Next1} (h : evCallFn g args = some nx) :
    Owes P B E H w nx ((do let d ← Deferred.ofValue ug us.toArray; invoke d.target d.args : Sem Next).run P w) := by
  unfold evCallFn at h
  split at h
  · next f first captured =>
    cases h
    refine ⟨(concL E (first ++ args ++ captured)), fun E' hE => ?_, ?_⟩
    · have h1 := hg E' hE
      rw [hg.self] at h1
      simp only [conc, Value.func.injEq, true_and] at h1
      have h2 := hus E' hE
      rw [hus E (Agree.refl _ _)] at h2
      simp only [concL_append, h2]
      have e1 : concL E first = concL E' first := by simpa using congrArg Array.toList h1.1
      have e2 : concL E captured = concL E' captured := by simpa using congrArg Array.toList h1.2
      rw [e1, e2]
    · rw [hg.self, hus E (Agree.refl _ _)]
      simp only [conc, Deferred.ofValue, Sem.run_bind, Sem.run_pure, Result.andThen_ok, invoke, concL_append]
      congr 2
      simp
  · next l =>
    cases h
    refine ⟨us, hus, ?_, hg.yld_lt⟩
    rw [hg.self]
    simp only [conc, Deferred.ofValue, Sem.run_bind, Sem.run_pure, Result.andThen_ok, invoke]
    congr 2
    simp
  · cases h

theorem evInvoke_ok (hL : LOk0 L P) (hw : H.Wf) (hS : St B E H w) {r : AV} {ur : Value} (hr : StV E H.next r ur) {name : String} {args : List AV} {us : List Value} (hus : StL E H.next args us) {nx : Next1} (h : evInvoke L r name args H = some nx) :
    Owes P B E H w nx ((callMethod ur name us.toArray).run P w) := by
  unfold evInvoke at h
  split at h
  · next t v =>
    split at h
    · next f rc hm =>
      cases h
      have hd : P.types.size + Made.depth = (P.types.size + 99) + 1 := rfl
      have hmr : ∀ E', Agree H.next E E' → (method (P.types.size + Made.depth) t (conc E' v) name).run P w = .ok (f, conc E' rc) w := fun E' hE => by
        rw [hd]; exact evMethod_ok hL (hS E' hE) hm _
      have hvE : ∀ E', Agree H.next E E' → conc E' v = conc E v := fun E' hE => by
        have h1 := hr E' hE
        rw [hr.self] at h1
        simp only [conc, Value.iface.injEq, true_and] at h1
        exact h1.symm
      refine ⟨conc E rc :: us, fun E' hE => ?_, ?_⟩
      · have h1 := hmr E' hE
        rw [hvE E' hE, hmr E (Agree.refl _ _)] at h1
        have h2 := (Result.ok.inj h1).1
        simp only [Prod.mk.injEq, true_and] at h2
        show conc E rc :: us = conc E' rc :: concL E' args
        rw [h2, hus E' hE]
      · rw [hr.self]
        simp only [conc, callMethod, Sem.run_bind, program, Sem.run, Result.andThen_ok, hmr E (Agree.refl _ _)]
        congr 2
        simp
    · cases h
  · cases h

theorem evOp_ok (hL : LOk0 L P) (hw : H.Wf) (hS : St B E H w) (hT : StT E H.next T a.tmps) {o : Oper} {nx : Next1} (h : evOp L T o H = some nx) :
    Owes P B E H w nx ((execOp a.eval o).run P w) := by
  obtain ⟨dst, op, ty, pos, after, guard⟩ := o
  unfold evOp at h
  unfold execOp
  cases op with
  | move x =>
    simp only at h ⊢
    unfold val1 at h
    split at h
    · next v hv => cases h; exact ⟨a.eval x, w, .inl rfl, Done.same hw hS (opnd_st hT hv)⟩
    · cases h
  | assign x =>
    simp only at h ⊢
    unfold val1 at h
    split at h
    · next v hv => cases h; exact ⟨a.eval x, w, .inl rfl, Done.same hw hS (opnd_st hT hv)⟩
    · cases h
  | pick c x y =>
    simp only at h ⊢
    unfold val1 at h
    split at h
    · next hc =>
      split at h
      · next v hv =>
        cases h
        refine ⟨a.eval x, w, .inl ?_, Done.same hw hS (opnd_st hT hv)⟩
        rw [(opnd_st hT hc).self]
        rfl
      · cases h
    · next hc =>
      split at h
      · next v hv =>
        cases h
        refine ⟨a.eval y, w, .inl ?_, Done.same hw hS (opnd_st hT hv)⟩
        rw [(opnd_st hT hc).self]
        rfl
      · cases h
    · cases h
  | alloc e =>
    simp only at h ⊢
    split at h
    · next z s hz hs =>
      cases h
      obtain ⟨u, w1, hr, hd⟩ := evAlloc_ok (P := P) hL hw hS hz s
      exact ⟨u, w1, .inl (by simp only [Sem.run_bind, hr, Result.andThen_ok, Sem.run_pure]), hd⟩
    · cases h
  | box e x =>
    simp only at h ⊢
    split at h
    · next v s hv hs =>
      cases h
      obtain ⟨u, w1, hr, hd⟩ := evBox_ok (P := P) hw hS e (opnd_st hT hv) s
      exact ⟨u, w1, .inl (by simp only [Sem.run_bind, hr, Result.andThen_ok, Sem.run_pure]), hd⟩
    · cases h
  | build t parts =>
    simp only at h ⊢
    split at h
    · next ps hp =>
      refine owes_val1 hw hS h fun v hv => pure_st fun E' hE => ?_
      rw [parts_ok hT hp E' hE]
      exact evBuild_ok hL hv
    · cases h
  | buildSlice t n parts =>
    simp only at h ⊢
    split at h
    · next ps hp =>
      refine owes_val2 h fun v H1 hv => ?_
      rw [parts_ok hT hp E (Agree.refl _ _)]
      refine evBuildSlice_ok hL hw hS (fun E' hE => ?_) hv
      have h1 := parts_ok hT hp E' hE
      rw [parts_ok hT hp E (Agree.refl _ _)] at h1
      simpa using congrArg Array.toList h1.symm
    · cases h
  | load t x =>
    simp only at h ⊢
    split at h
    · next v hv => exact owes_val1 hw hS h fun r hr => pure_st fun E' hE => by rw [opnd_ok (hT E' hE) hv]; exact evLoad_ok hL (hS E' hE) hr
    · cases h
  | store t x y =>
    simp only at h ⊢
    split at h
    · next v u hv hu => exact owes_unit h fun H1 hH => evStore_ok hL hw hS (opnd_st hT hv) (opnd_st hT hu) hH
    · cases h
  | nilCheck x =>
    simp only at h ⊢
    split at h
    · next i o hv => cases h; exact ⟨a.eval x, w, .inl (by rw [(opnd_st hT hv).self]; rfl), Done.same hw hS (opnd_st hT hv)⟩
    · next t v hv => cases h; exact ⟨a.eval x, w, .inl (by rw [(opnd_st hT hv).self]; rfl), Done.same hw hS (opnd_st hT hv)⟩
    · next f b c hv => cases h; exact ⟨a.eval x, w, .inl (by rw [(opnd_st hT hv).self]; rfl), Done.same hw hS (opnd_st hT hv)⟩
    · next l hv => cases h; exact ⟨a.eval x, w, .inl (by rw [(opnd_st hT hv).self]; rfl), Done.same hw hS (opnd_st hT hv)⟩
    · cases h
  | binOp op t x y yt =>
    simp only at h ⊢
    split at h
    · next v u hv hu => exact owes_val1 hw hS h fun r hr => pure_st fun E' hE => by rw [opnd_ok (hT E' hE) hv, opnd_ok (hT E' hE) hu]; exact evBin_ok hL hr
    · cases h
  | unOp op t x =>
    simp only at h ⊢
    split at h
    · next v hv => exact owes_val1 hw hS h fun r hr => pure_st fun E' hE => by rw [opnd_ok (hT E' hE) hv]; exact evUn_ok hr
    · cases h
  | convert s d x =>
    simp only at h ⊢
    split at h
    · next v hv => exact owes_val2 h fun r H1 hr => evConvert_ok hL hw hS (opnd_st hT hv) hr
    · cases h
  | makeInterface t x =>
    simp only at h ⊢
    split at h
    · next v hv => exact owes_val1 hw hS h fun r hr => pure_st fun E' hE => by rw [opnd_ok (hT E' hE) hv]; exact evMakeInterface_ok hL hr
    · cases h
  | makeFunc fn first captured =>
    simp only at h ⊢
    split at h
    · next f x y hx hy =>
      cases h
      refine ⟨_, w, .inl rfl, Done.same hw hS (fun E' hE => ?_)⟩
      have e1 := opnds_ok (hT E' hE) hx
      have e2 := opnds_ok (hT E' hE) hy
      simp only [conc, ← e1, ← e2]
      congr 1 <;> (apply Array.ext'; simp)
    · cases h
  | makeMap t r =>
    simp only at h ⊢
    split at h
    · cases h
      have key := new_ok hw hS (.map [] 0) (.map #[] 0) 0 (fun E' hE hn => by
        show (wNew w _).heap[(E' H.next).blk]? = _
        rw [hn]; exact wNew_self)
      refine ⟨.map (some w.heap.size), wNew w (.map #[] 0), .inl ?_, _, fun E' hE => ?_, key⟩
      · simp only [Option.map_none, Instr.makeMap, newObj, Sem.run_bind, Sem.run, Result.andThen_ok, Sem.run_pure]
        rfl
      · have : E' H.next = ⟨w.heap.size, 0, 0⟩ := (hE H.next (Nat.lt_succ_self _)).trans (Env.add_self _ _ _)
        simp [conc, this]
    · cases h
  | makeSlice t l c =>
    simp only at h ⊢
    split at h
    · next v u hv hu => exact owes_val2 h fun r H1 hr => by rw [(opnd_st hT hv).self, (opnd_st hT hu).self]; exact evMakeSlice_ok hL hw hS hr
    · cases h
  | slice t x lo hi mx =>
    simp only at h ⊢
    split at h
    · next v p q r hv hp hq hr =>
      exact owes_val1 hw hS h fun rr hrr => pure_st fun E' hE => by
        rw [opnd_ok (hT E' hE) hv, optOpnds hT hp E' hE, optOpnds hT hq E' hE, optOpnds hT hr E' hE]
        exact evSlice_ok hL hrr
    · cases h
  | fieldAddr s x f =>
    simp only at h ⊢
    split at h
    · next v hv => exact owes_val1 hw hS h fun r hr => pure_st fun E' hE => by rw [opnd_ok (hT E' hE) hv]; exact evFieldAddr_ok hL hr
    · cases h
  | field t x f =>
    simp only at h ⊢
    split at h
    · next v hv => exact owes_val1 hw hS h fun r hr => pure_st fun E' hE => by rw [opnd_ok (hT E' hE) hv]; exact evField_ok hL hr
    · cases h
  | indexAddr t x ix =>
    simp only at h ⊢
    split at h
    · next v u hv hu => exact owes_val1 hw hS h fun r hr => pure_st fun E' hE => by rw [opnd_ok (hT E' hE) hv, opnd_ok (hT E' hE) hu]; exact evIndexAddr_ok hL hr
    · cases h
  | index t x ix =>
    simp only at h ⊢
    split at h
    · next v u hv hu => exact owes_val1 hw hS h fun r hr => pure_st fun E' hE => by rw [opnd_ok (hT E' hE) hv, opnd_ok (hT E' hE) hu]; exact evIndex_ok hL hr
    · cases h
  | lookup t x k ok =>
    simp only at h ⊢
    split at h
    · next v u hv hu => exact owes_val1 hw hS h fun r hr => pure_st fun E' hE => by rw [opnd_ok (hT E' hE) hv, opnd_ok (hT E' hE) hu]; exact evLookup_ok hL (hS E' hE) hr
    · cases h
  | mapUpdate t m k x =>
    simp only at h ⊢
    split at h
    · next p q r hp hq hr => exact owes_unit h fun H1 hH => evMapUpdate_ok hL hw hS (opnd_st hT hp) (opnd_st hT hq) (opnd_st hT hr) hH
    · cases h
  | insert t m k x =>
    simp only at h ⊢
    split at h
    · next p q r hp hq hr => exact owes_unit h fun H1 hH => evMapUpdate_ok hL hw hS (opnd_st hT hp) (opnd_st hT hq) (opnd_st hT hr) hH
    · cases h
  | typeAssert x xt t ok =>
    simp only at h ⊢
    split at h
    · next v hv => exact owes_val1 hw hS h fun r hr => pure_st fun E' hE => by rw [opnd_ok (hT E' hE) hv]; exact evAssert_ok hL hr
    · cases h
  | extract x ix =>
    simp only at h ⊢
    split at h
    · next vs hv =>
      refine owes_val1 hw hS h fun r hr => pure_st fun E' hE => ?_
      rw [opnd_ok (hT E' hE) hv]
      rw [nth_eq] at hr
      unfold Instr.extract
      simp only [conc]
      have : (concL E' vs).toArray[ix]? = some (conc E' r) := by simp [concL_getElem?, hr]
      rw [this]
      rfl
    · cases h
  | call c =>
    simp only at h ⊢
    split at h
    · cases h
    · next args hargs =>
      have hus := opnds_st hT hargs
      have harr : c.args.map a.eval = (c.args.toList.map a.eval).toArray := by apply Array.ext'; simp
      split at h
      · next b hb =>
        unfold val2 at h
        split at h
        · next p hp =>
          cases h
          obtain ⟨u, w1, hr, hd⟩ := evBuiltin_ok (P := P) (ty := ty) (cs := c.args.map fun | .const _ => true | _ => false) hL hw hS hus hp
          refine ⟨u, w1, .inl ?_, hd⟩
          unfold resolve
          simp only [hb, Sem.run_bind, Sem.run_pure, Result.andThen_ok, invoke, harr]
          exact hr
        · cases h
      · next f hf =>
        split at h
        · next g hg =>
          have := evCallFn_ok (P := P) (B := B) (w := w) hw (opnd_st hT hg) hus h
          unfold resolve
          simp only [hf, harr]
          exact this
        · cases h
      · next r name hr =>
        split at h
        · next v hv =>
          have := evInvoke_ok (P := P) hL hw hS (opnd_st hT hv) hus h
          unfold resolve
          simp only [hr, Sem.run_bind, Sem.run_pure, Result.andThen_ok, invoke, harr]
          have h0 : (#[a.eval r] ++ (List.map a.eval c.args.toList).toArray)[0]? = some (a.eval r) := by simp
          have h1 : (#[a.eval r] ++ (List.map a.eval c.args.toList).toArray).extract 1 (#[a.eval r] ++ (List.map a.eval c.args.toList).toArray).size = (List.map a.eval c.args.toList).toArray := by
            apply Array.ext'
            simp
            rw [List.take_of_length_le (by simp)]
          rw [h0]
          simp only [h1]
          exact this
        · cases h
  | _ => cases h

end
end Go.Ev
