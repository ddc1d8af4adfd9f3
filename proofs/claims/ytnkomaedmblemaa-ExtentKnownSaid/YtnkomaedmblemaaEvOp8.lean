import Derived.Test.YtnkomaedmblemaaEvOp7
set_option linter.unusedSimpArgs false
set_option linter.unusedVariables false
namespace Go.Ev
section
variable {L : Lk} {P : Program} {w : World} {E : Env} {B : Nat} {H : AH}

theorem run_getObj' {r : Nat} {o : Obj} (h : w.heap[r]? = some o) (hc : ∀ c e f, o ≠ .cells c e f) : (getObj r).run P w = .ok o w := by
  cases o <;> first
    | exact absurd rfl (hc _ _ _)
    | (unfold getObj; simp only [Sem.run, h])
theorem run_setObj' {r : Nat} {o o' : Obj} (h : w.heap[r]? = some o) (hc : ∀ c e f, o ≠ .cells c e f) : (setObj r o').run P w = .ok () (setBlk w r o') := by
  unfold setObj
  simp only [Sem.run, h]
  cases o <;> first | rfl | exact absurd rfl (hc _ _ _)

theorem HRel.map (hR : HRel B E H w) {i : Nat} {es : List (AV × AV × Nat)} {c : Nat} (h : H.get i = some (.map es c)) : w.heap[(E i).blk]? = some (.map (es.map (entryOf E)).toArray c) := hR.blk i _ h

theorem evLen_ok (hL : LOk0 L P) (hR : HRel B E H w) {t : TypeId} {ts : Array TypeId} {ty : TypeId} {x r : AV} {us : List Value} (ht : ts[0]? = some t) (h : evLen L t x H = some r) :
    (Builtin.len_ ts ty (conc E x :: us).toArray).run P w = .ok (conc E r) w := by
  unfold Builtin.len_
  simp only [ht, List.getElem?_toArray, List.getElem?_cons_zero]
  unfold evLen at h
  split at h
  · next hu =>
    split at h
    · cases h; simp only [Sem.run_bind, run_under hL hu, Result.andThen_ok, conc]; rfl
    · cases h
  · next n e hu => cases h; simp only [Sem.run_bind, run_under hL hu, Result.andThen_ok]; rfl
  · next a hu =>
    split at h
    · next n e hu' => cases h; simp only [Sem.run_bind, run_under hL hu, run_under hL hu', Result.andThen_ok]; rfl
    · cases h
  · next e hu =>
    split at h
    · cases h; simp only [Sem.run_bind, run_under hL hu, Result.andThen_ok, conc]; rfl
    · cases h; simp only [Sem.run_bind, run_under hL hu, Result.andThen_ok, conc]; rfl
    · cases h
  · next k e hu =>
    split at h
    · cases h; simp only [Sem.run_bind, run_under hL hu, Result.andThen_ok, conc]; rfl
    · next i =>
      split at h
      · next es c hg =>
        cases h
        simp only [Sem.run_bind, run_under hL hu, Result.andThen_ok, conc]
        rw [run_getObj' (hR.map hg) (fun _ _ _ => by simp)]
        simp [len_eq, goInt]
      · cases h
    · cases h
  · cases h

theorem evCap_ok (hL : LOk0 L P) {t : TypeId} {ts : Array TypeId} {ty : TypeId} {x r : AV} {us : List Value} (ht : ts[0]? = some t) (h : evCap L t x = some r) :
    (Builtin.cap_ ts ty (conc E x :: us).toArray).run P w = .ok (conc E r) w := by
  unfold Builtin.cap_
  simp only [ht, List.getElem?_toArray, List.getElem?_cons_zero]
  unfold evCap at h
  split at h
  · next n e hu => cases h; simp only [Sem.run_bind, run_under hL hu, Result.andThen_ok]; rfl
  · next e hu =>
    split at h
    · cases h; simp only [Sem.run_bind, run_under hL hu, Result.andThen_ok, conc]; rfl
    · split at h
      · cases h; simp only [Sem.run_bind, run_under hL hu, Result.andThen_ok, conc]; rfl
      · cases h
    · cases h
  · cases h

/-! ### Maps -/
theorem sameKey_ok {d : TypeDesc} {a b : AV} {r : Bool} (h : sameKey d a b = some r) : Instr.sameNow d (conc E a) (conc E b) = some r := by
  unfold sameKey at h
  split at h
  · split at h
    · next hk => have := of_decide_eq_true hk; subst this; cases h; simp [conc, Instr.sameNow]
    · cases h
  · cases h; rfl
  · cases h; rfl
  · cases h
theorem findKey_ok {d : TypeDesc} {k : AV} (es : List (AV × AV × Nat)) : ∀ i r, findKey d k es i = some r → Instr.findNow d (conc E k) (es.map (entryOf E)) i = some (r.map fun p => (p.1, conc E p.2)) := by
  induction es with
  | nil => intro i r h; cases h; rfl
  | cons e es ih =>
    intro i r h
    unfold findKey at h
    rw [lrec_cons] at h
    show Instr.findNow d (conc E k) (entryOf E e :: es.map (entryOf E)) i = _
    unfold Instr.findNow
    split at h
    · next hs => cases h; rw [show (entryOf E e).key = conc E e.1 from rfl, sameKey_ok hs]; rfl
    · next hs => rw [show (entryOf E e).key = conc E e.1 from rfl, sameKey_ok hs]; exact ih _ _ h
    · cases h
theorem findKey_lt {d : TypeDesc} {k : AV} (es : List (AV × AV × Nat)) : ∀ i j v, findKey d k es i = some (some (j, v)) → i ≤ j ∧ j < i + es.length ∧ ∃ e, es[j - i]? = some e ∧ sameKey d k e.1 = some true := by
  induction es with
  | nil => intro i j v h; cases h
  | cons e es ih =>
    intro i j v h
    unfold findKey at h
    rw [lrec_cons] at h
    split at h
    · next hs => cases h; exact ⟨Nat.le_refl _, by simp, e, by simp, hs⟩
    · obtain ⟨h1, h2, x, h3, h4⟩ := ih _ _ _ h
      refine ⟨by omega, by simp; omega, x, ?_, h4⟩
      obtain ⟨m, hm⟩ : ∃ m, j - i = m + 1 := ⟨j - i - 1, by omega⟩
      rw [hm, show m = j - (i + 1) from by omega]; simpa using h3
    · cases h
theorem run_findKey (hL : LOk0 L P) {kt : TypeId} {d : TypeDesc} {k : AV} {es : List (AV × AV × Nat)} {r : Option (Nat × AV)} (hd : L.under kt = some d) (h : findKey d k es 0 = some r) :
    (Instr.findKey kt (conc E k) (es.map (entryOf E))).run P w = .ok (r.map fun p => (p.1, conc E p.2)) w := by
  unfold Instr.findKey
  simp only [Sem.run_bind, run_under hL hd, Result.andThen_ok, findKey_ok es 0 r h, Sem.run_pure]
theorem run_checkKey (hL : LOk0 L P) {kt : TypeId} {d : TypeDesc} {k : AV} {e c : Bool} (hd : L.under kt = some d) (h : sameKey d k k = some c) : (Instr.checkKey e 10000 kt (conc E k)).run P w = .ok () w := by
  unfold Instr.checkKey
  simp only [Sem.run_bind, run_under hL hd, Result.andThen_ok]
  unfold sameKey at h
  split at h <;> first
    | rfl
    | (cases h; done)

theorem evLookup_ok (hL : LOk0 L P) (hR : HRel B E H w) {t : TypeId} {x k r : AV} {ok : Bool} (h : evLookup L t x k ok H = some r) : (Instr.lookup t (conc E x) (conc E k) ok).run P w = .ok (conc E r) w := by
  unfold evLookup at h
  split at h
  · next key elem hu =>
    split at h
    · next kd z hk hz =>
      split at h
      · cases h
      · next es hes =>
        split at h
        · cases h
        · next c hsk =>
          split at h
          · cases h
          · next rr hf =>
            cases h
            unfold Instr.lookup
            simp only [Sem.run_bind, run_under hL hu, Result.andThen_ok]
            split at hes
            · cases hes
              have hfk := run_findKey (P := P) (w := w) (E := E) hL hk hf
              simp only [conc, Sem.run_bind, Sem.run_pure, Result.andThen_ok, run_checkKey hL hk hsk]
              simp only [List.map_nil] at hfk
              rw [hfk]
              cases rr with
              | none => simp only [Option.map_none, Result.andThen_ok, Sem.run_bind, run_zero (E := E) hL hz, Sem.run_pure]; cases ok <;> rfl
              | some p => cases hf
            · next i =>
              split at hes
              · next es' c' hg =>
                cases hes
                have hfk := run_findKey (P := P) (w := w) (E := E) hL hk hf
                simp only [conc, Sem.run_bind]
                rw [run_getObj' (hR.map hg) (fun _ _ _ => by simp)]
                simp only [Sem.run_bind, Sem.run_pure, Result.andThen_ok, run_checkKey hL hk hsk]
                rw [hfk]
                cases rr with
                | none => simp only [Option.map_none, Result.andThen_ok, Sem.run_bind, run_zero (E := E) hL hz, Sem.run_pure]; cases ok <;> rfl
                | some p => simp only [Option.map_some, Result.andThen_ok, Sem.run_bind, Sem.run_pure]; cases ok <;> rfl
              · cases hes
            · cases hes
    · cases h
  · cases h

/-- A map of the heap is another one now. -/
theorem putMap_ok (hw : H.Wf) (hS : St B E H w) {i : Nat} {es : List (AV × AV × Nat)} {c : Nat} (hg : H.get i = some (.map es c)) (hlo : H.lo ≤ i) (es' : List (AV × AV × Nat)) (c' : Nat)
    (hx : ∀ E', Agree H.next E E' → es'.map (entryOf E') = es'.map (entryOf E)) :
    St B E (H.put i (.map es' c')) (setBlk w (E i).blk (.map (es'.map (entryOf E)).toArray c')) ∧ Post E H w E (H.put i (.map es' c')) (setBlk w (E i).blk (.map (es'.map (entryOf E)).toArray c')) ∧ (H.put i (.map es' c')).Wf :=
  put_ok hw hS hg rfl hlo _ _ (fun r hr => by rw [hS.self.map hg] at hr; cases hr) (fun x off hx => by rw [hS.self.map hg] at hx; cases hx; rfl) fun E' hE => by
    show (setBlk w (E i).blk _).heap[(E' i).blk]? = _
    rw [hE i (hw.get_lt hg), hx E' hE]
    exact setBlk_self (hS.self.map hg)
/-- What lies in a map of the heap hangs on the blocks of the heap alone. -/
theorem map_E (hw : H.Wf) (hS : St B E H w) {i : Nat} {es : List (AV × AV × Nat)} {c : Nat} (hg : H.get i = some (.map es c)) {E' : Env} (hE : Agree H.next E E') : es.map (entryOf E') = es.map (entryOf E) := by
  have h1 := (hS E' hE).map hg
  rw [hE i (hw.get_lt hg), hS.self.map hg] at h1
  simpa using h1.symm

theorem sameBits_key {d : TypeDesc} {a b : AV} {E : Env} (h : sameKey d a b = some true) (n : Nat) : Instr.sameBits n (conc E b) (conc E a) = true := by
  unfold sameKey at h
  split at h
  · split at h
    · next hk =>
      have := of_decide_eq_true hk
      subst this
      simp only [Option.some.injEq, beq_iff_eq] at h
      subst h
      cases n <;> simp [conc, Instr.sameBits]
    · cases h
  · simp only [Option.some.injEq] at h
    rw [beq_toListBytes] at h
    simp only [beq_iff_eq] at h
    cases n <;> simp [conc, Instr.sameBits, beq_toListBytes, h]
  · simp only [Option.some.injEq, beq_iff_eq] at h
    subst h
    cases n <;> simp [conc, Instr.sameBits]
  · cases h

theorem evMapUpdate_ok (hL : LOk0 L P) (hw : H.Wf) (hS : St B E H w) {t : TypeId} {m k x : AV} {H1 : AH} {vm vk vx : Value} (hm : StV E H.next m vm) (hk : StV E H.next k vk) (hx : StV E H.next x vx) (h : evMapUpdate L t m k x H = some H1) :
    ∃ w1, (Instr.mapUpdate t vm vk vx).run P w = .ok () w1 ∧ St B E H1 w1 ∧ Post E H w E H1 w1 ∧ H1.Wf := by
  rw [hm.self, hk.self, hx.self]
  unfold evMapUpdate at h
  split at h
  · next key elem i hu =>
    split at h
    · next kd hkd =>
      split at h
      · next es clock hlo hg =>
        have hlo' := ble_t hlo
        split at h
        · cases h
        · next c hsk =>
          have hent : ∀ E', Agree H.next E E' → ∀ b, entryOf E' (k, x, b) = entryOf E (k, x, b) := fun E' hE b => by
            unfold entryOf
            simp only
            rw [← hk E' hE, ← hk.self, ← hx E' hE, ← hx.self]
          split at h
          · cases h
          · next hf =>
            cases h
            have hfk := run_findKey (P := P) (w := w) (E := E) hL hkd hf
            refine ⟨_, ?_, putMap_ok hw hS hg hlo' (es ++ [(k, x, clock)]) (clock + 1) (fun E' hE => by simp only [List.map_append, map_E hw hS hg hE, List.map_cons, List.map_nil, hent E' hE])⟩
            unfold Instr.mapUpdate
            simp only [Sem.run_bind, run_under hL hu, Result.andThen_ok, conc]
            rw [run_getObj' (hS.self.map hg) (fun _ _ _ => by simp)]
            simp only [Sem.run_bind, Result.andThen_ok, run_checkKey hL hkd hsk]
            rw [hfk]
            simp only [Option.map_none, Result.andThen_ok]
            rw [run_setObj' (hS.self.map hg) (fun _ _ _ => by simp)]
            simp [entryOf]
          · next j v hf =>
            obtain ⟨_, hj2, e, he, hse⟩ := findKey_lt es 0 j v hf
            simp only [Nat.sub_zero, Nat.zero_add] at he hj2
            split at h
            · next e' he' =>
              rw [nth_eq, he] at he'
              cases he'
              split at h
              · next es' hov =>
                cases h
                obtain ⟨ho1, ho2⟩ := (overAt_some _ _ _ _).1 hov
                have hfk := run_findKey (P := P) (w := w) (E := E) hL hkd hf
                refine ⟨_, ?_, putMap_ok hw hS hg hlo' es' clock (fun E' hE => by
                  have h0 := map_E hw hS hg hE
                  subst ho2
                  simp only [List.map_append, List.map_take, List.map_drop, h0, List.map_cons, List.map_nil, hent E' hE])⟩
                unfold Instr.mapUpdate
                simp only [Sem.run_bind, run_under hL hu, Result.andThen_ok, conc]
                rw [run_getObj' (hS.self.map hg) (fun _ _ _ => by simp)]
                simp only [Sem.run_bind, Result.andThen_ok, run_checkKey hL hkd hsk]
                rw [hfk]
                simp only [Option.map_some, Result.andThen_ok, Sem.run_bind]
                have hold : (((es.map (entryOf E)).toArray[j]?).map (·.key)).getD (conc E k) = conc E e.1 := by simp [he, entryOf]
                rw [hold]
                unfold Instr.keyThatStays
                rw [if_pos (sameBits_key hse 10000)]
                simp only [Sem.run_pure, Result.andThen_ok]
                rw [run_setObj' (hS.self.map hg) (fun _ _ _ => by simp)]
                congr 3
                refine Array.ext_getElem? fun q => ?_
                rw [Array.getElem?_modify]
                subst ho2
                simp only [List.getElem?_toArray, List.map_append, List.map_take, List.map_drop, List.map_cons, List.map_nil]
                have hlt : (List.take j (es.map (entryOf E))).length = j := by simp; omega
                by_cases hq : q = j
                · subst hq
                  rw [List.append_assoc, List.getElem?_append_right (by omega)]
                  simp [he, entryOf, hlt]
                · rw [if_neg (Ne.symm hq)]
                  by_cases hq2 : q < j
                  · rw [List.append_assoc, List.getElem?_append_left (by omega), List.getElem?_take_of_lt hq2]
                  · rw [List.getElem?_append_right (by simp; omega), List.getElem?_drop]
                    congr 1
                    simp
                    omega
              · cases h
            · cases h
      · cases h
    · cases h
  · cases h
end
end Go.Ev
