import Derived.Test.YtmbnmfclpbdimaaGreatEvB
import Derived.Laws.Append
import Derived.Laws.BytesArg
set_option linter.unusedSimpArgs false
set_option linter.unusedVariables false
namespace Go.Ev
section
variable {L : Lk} {P : Program} {w : World} {E : Env} {B : Nat} {H : AH}

theorem run_getObj' {r : Nat} {o : Obj} (h : w.heap[r]? = some o) (hc : ∀ c e f, o ≠ .cells c e f) : (getObj r).run P w = .ok o w := by
  cases o <;> first
    | exact absurd rfl (hc _ _ _)
    | (unfold getObj; simp only [Sem.run, h])
theorem run_setObj' {r : Nat} {o o' : Obj} (h : w.heap[r]? = some o) (hc : ∀ c e f, o ≠ .cells c e f) : (setObj r o').run P w = .ok () (setBlk w r o') := by
  unfold setObj
  simp only [Sem.run, h]
  cases o <;> first | rfl | exact absurd rfl (hc _ _ _)

theorem HRel.map (hR : HRel B E H w) {i : Nat} {es : List (AV × AV × Nat)} {c : Nat} (h : H.get i = some (.map es c)) : w.heap[(E i).blk]? = some (.map (es.map (entryOf E)).toArray c) := hR.blk i _ h

theorem evLen_ok (hL : LOk0 L P) (hR : HRel B E H w) {t : TypeId} {ts : Array TypeId} {ty : TypeId} {x r : AV} {us : List Value} (ht : ts[0]? = some t) (h : evLen L t x H = some r) :
    (Builtin.len_ ts ty (conc E x :: us).toArray).run P w = .ok (conc E r) w := by
  unfold Builtin.len_
  simp only [ht, List.getElem?_toArray, List.getElem?_cons_zero]
  unfold evLen at h
  split at h
  · next hu =>
    split at h
    · cases h; simp only [Sem.run_bind, run_under hL hu, Result.andThen_ok, conc]; rfl
    · cases h
  · next n e hu => cases h; simp only [Sem.run_bind, run_under hL hu, Result.andThen_ok]; rfl
  · next a hu =>
    split at h
    · next n e hu' => cases h; simp only [Sem.run_bind, run_under hL hu, run_under hL hu', Result.andThen_ok]; rfl
    · cases h
  · next e hu =>
    split at h
    · cases h; simp only [Sem.run_bind, run_under hL hu, Result.andThen_ok, conc]; rfl
    · cases h; simp only [Sem.run_bind, run_under hL hu, Result.andThen_ok, conc]; rfl
    · cases h
  · next k e hu =>
    split at h
    · cases h; simp only [Sem.run_bind, run_under hL hu, Result.andThen_ok, conc]; rfl
    · next i =>
      split at h
      · next es c hg =>
        cases h
        simp only [Sem.run_bind, run_under hL hu, Result.andThen_ok, conc]
        rw [run_getObj' (hR.map hg) (fun _ _ _ => by simp)]
        simp [len_eq, goInt]
      · cases h
    · cases h
  · next dir e hu =>
    split at h
    · next k i o =>
      split at h
      · next hk =>
        have hk := Nat.eq_of_beq_eq_true hk
        subst hk
        split at h
        · next c buf hg =>
          cases h
          obtain ⟨s, rr, hb⟩ := hR.blk i _ hg
          simp only [Sem.run_bind, run_under hL hu, Result.andThen_ok, conc]
          rw [run_getObj' hb (fun _ _ _ => by simp)]
          simp [len_eq, goInt, concL_length, Sem.run_pure]
        · cases h
      · cases h
    · cases h
  · cases h

theorem evCap_ok (hL : LOk0 L P) {t : TypeId} {ts : Array TypeId} {ty : TypeId} {x r : AV} {us : List Value} (ht : ts[0]? = some t) (h : evCap L t x = some r) :
    (Builtin.cap_ ts ty (conc E x :: us).toArray).run P w = .ok (conc E r) w := by
  unfold Builtin.cap_
  simp only [ht, List.getElem?_toArray, List.getElem?_cons_zero]
  unfold evCap at h
  split at h
  · next n e hu => cases h; simp only [Sem.run_bind, run_under hL hu, Result.andThen_ok]; rfl
  · next e hu =>
    split at h
    · cases h; simp only [Sem.run_bind, run_under hL hu, Result.andThen_ok, conc]; rfl
    · split at h
      · cases h; simp only [Sem.run_bind, run_under hL hu, Result.andThen_ok, conc]; rfl
      · cases h
    · cases h
  · cases h

/-! ### Maps -/
theorem sameKey_ok {d : TypeDesc} {a b : AV} {r : Bool} (h : sameKey d a b = some r) : Instr.sameNow d (conc E a) (conc E b) = some r := by
  unfold sameKey at h
  split at h
  · split at h
    · next hk => have := of_decide_eq_true hk; subst this; cases h; simp [conc, Instr.sameNow]
    · cases h
  · cases h; rfl
  · cases h; rfl
  · cases h
theorem findKey_ok {d : TypeDesc} {k : AV} (es : List (AV × AV × Nat)) : ∀ i r, findKey d k es i = some r → Instr.findNow d (conc E k) (es.map (entryOf E)) i = some (r.map fun p => (p.1, conc E p.2)) := by
  induction es with
  | nil => intro i r h; cases h; rfl
  | cons e es ih =>
    intro i r h
    unfold findKey at h
    rw [lrec_cons] at h
    show Instr.findNow d (conc E k) (entryOf E e :: es.map (entryOf E)) i = _
    unfold Instr.findNow
    split at h
    · next hs => cases h; rw [show (entryOf E e).key = conc E e.1 from rfl, sameKey_ok hs]; rfl
    · next hs => rw [show (entryOf E e).key = conc E e.1 from rfl, sameKey_ok hs]; exact ih _ _ h
    · cases h
theorem findKey_lt {d : TypeDesc} {k : AV} (es : List (AV × AV × Nat)) : ∀ i j v, findKey d k es i = some (some (j, v)) → i ≤ j ∧ j < i + es.length ∧ ∃ e, es[j - i]? = some e ∧ sameKey d k e.1 = some true := by
  induction es with
  | nil => intro i j v h; cases h
  | cons e es ih =>
    intro i j v h
    unfold findKey at h
    rw [lrec_cons] at h
    split at h
    · next hs => cases h; exact ⟨Nat.le_refl _, by simp, e, by simp, hs⟩
    · obtain ⟨h1, h2, x, h3, h4⟩ := ih _ _ _ h
      refine ⟨by omega, by simp; omega, x, ?_, h4⟩
      obtain ⟨m, hm⟩ : ∃ m, j - i = m + 1 := ⟨j - i - 1, by omega⟩
      rw [hm, show m = j - (i + 1) from by omega]; simpa using h3
    · cases h
theorem run_findKey (hL : LOk0 L P) {kt : TypeId} {d : TypeDesc} {k : AV} {es : List (AV × AV × Nat)} {r : Option (Nat × AV)} (hd : L.under kt = some d) (h : findKey d k es 0 = some r) :
    (Instr.findKey kt (conc E k) (es.map (entryOf E))).run P w = .ok (r.map fun p => (p.1, conc E p.2)) w := by
  unfold Instr.findKey
  simp only [Sem.run_bind, run_under hL hd, Result.andThen_ok, findKey_ok es 0 r h, Sem.run_pure]
theorem run_checkKey (hL : LOk0 L P) {kt : TypeId} {d : TypeDesc} {k : AV} {e c : Bool} (hd : L.under kt = some d) (h : sameKey d k k = some c) : (Instr.checkKey e 10000 kt (conc E k)).run P w = .ok () w := by
  unfold Instr.checkKey
  simp only [Sem.run_bind, run_under hL hd, Result.andThen_ok]
  unfold sameKey at h
  split at h <;> first
    | rfl
    | (cases h; done)

theorem evLookup_ok (hL : LOk0 L P) (hR : HRel B E H w) {t : TypeId} {x k r : AV} {ok : Bool} (h : evLookup L t x k ok H = some r) : (Instr.lookup t (conc E x) (conc E k) ok).run P w = .ok (conc E r) w := by
  unfold evLookup at h
  split at h
  · next key elem hu =>
    split at h
    · next kd z hk hz =>
      split at h
      · cases h
      · next es hes =>
        split at h
        · cases h
        · next c hsk =>
          split at h
          · cases h
          · next rr hf =>
            cases h
            unfold Instr.lookup
            simp only [Sem.run_bind, run_under hL hu, Result.andThen_ok]
            split at hes
            · cases hes
              have hfk := run_findKey (P := P) (w := w) (E := E) hL hk hf
              simp only [conc, Sem.run_bind, Sem.run_pure, Result.andThen_ok, run_checkKey hL hk hsk]
              simp only [List.map_nil] at hfk
              rw [hfk]
              cases rr with
              | none => simp only [Option.map_none, Result.andThen_ok, Sem.run_bind, run_zero (E := E) hL hz, Sem.run_pure]; cases ok <;> rfl
              | some p => cases hf
            · next i =>
              split at hes
              · next es' c' hg =>
                cases hes
                have hfk := run_findKey (P := P) (w := w) (E := E) hL hk hf
                simp only [conc, Sem.run_bind]
                rw [run_getObj' (hR.map hg) (fun _ _ _ => by simp)]
                simp only [Sem.run_bind, Sem.run_pure, Result.andThen_ok, run_checkKey hL hk hsk]
                rw [hfk]
                cases rr with
                | none => simp only [Option.map_none, Result.andThen_ok, Sem.run_bind, run_zero (E := E) hL hz, Sem.run_pure]; cases ok <;> rfl
                | some p => simp only [Option.map_some, Result.andThen_ok, Sem.run_bind, Sem.run_pure]; cases ok <;> rfl
              · cases hes
            · cases hes
    · cases h
  · cases h

/-- A map of the heap is another one now. -/
theorem putMap_ok (hw : H.Wf) (hS : St B E H w) {i : Nat} {es : List (AV × AV × Nat)} {c : Nat} (hg : H.get i = some (.map es c)) (hlo : H.lo ≤ i) (es' : List (AV × AV × Nat)) (c' : Nat)
    (hx : ∀ E', Agree H.next E E' → es'.map (entryOf E') = es'.map (entryOf E)) :
    St B E (H.put i (.map es' c')) (setBlk w (E i).blk (.map (es'.map (entryOf E)).toArray c')) ∧ Post E H w E (H.put i (.map es' c')) (setBlk w (E i).blk (.map (es'.map (entryOf E)).toArray c')) ∧ (H.put i (.map es' c')).Wf :=
  put_ok hw hS hg rfl hlo _ _ (fun r hr => by rw [hS.self.map hg] at hr; cases hr) (fun x off hx => by rw [hS.self.map hg] at hx; cases hx; rfl) fun E' hE => by
    show (setBlk w (E i).blk _).heap[(E' i).blk]? = _
    rw [hE i (hw.get_lt hg), hx E' hE]
    exact setBlk_self (hS.self.map hg)
/-- What lies in a map of the heap hangs on the blocks of the heap alone. -/
theorem map_E (hw : H.Wf) (hS : St B E H w) {i : Nat} {es : List (AV × AV × Nat)} {c : Nat} (hg : H.get i = some (.map es c)) {E' : Env} (hE : Agree H.next E E') : es.map (entryOf E') = es.map (entryOf E) := by
  have h1 := (hS E' hE).map hg
  rw [hE i (hw.get_lt hg), hS.self.map hg] at h1
  simpa using h1.symm

theorem sameBits_key {d : TypeDesc} {a b : AV} {E : Env} (h : sameKey d a b = some true) (n : Nat) : Instr.sameBits n (conc E b) (conc E a) = true := by
  unfold sameKey at h
  split at h
  · split at h
    · next hk =>
      have := of_decide_eq_true hk
      subst this
      simp only [Option.some.injEq, beq_iff_eq] at h
      subst h
      cases n <;> simp [conc, Instr.sameBits]
    · cases h
  · simp only [Option.some.injEq] at h
    rw [beq_toListBytes] at h
    simp only [beq_iff_eq] at h
    cases n <;> simp [conc, Instr.sameBits, beq_toListBytes, h]
  · simp only [Option.some.injEq, beq_iff_eq] at h
    subst h
    cases n <;> simp [conc, Instr.sameBits]
  · cases h

theorem evMapUpdate_ok (hL : LOk0 L P) (hw : H.Wf) (hS : St B E H w) {t : TypeId} {m k x : AV} {H1 : AH} {vm vk vx : Value} (hm : StV E H.next m vm) (hk : StV E H.next k vk) (hx : StV E H.next x vx) (h : evMapUpdate L t m k x H = some H1) :
    ∃ w1, (Instr.mapUpdate t vm vk vx).run P w = .ok () w1 ∧ St B E H1 w1 ∧ Post E H w E H1 w1 ∧ H1.Wf := by
  rw [hm.self, hk.self, hx.self]
  unfold evMapUpdate at h
  split at h
  · next key elem i hu =>
    split at h
    · next kd hkd =>
      split at h
      · next es clock hlo hg =>
        have hlo' := ble_t hlo
        split at h
        · cases h
        · next c hsk =>
          have hent : ∀ E', Agree H.next E E' → ∀ b, entryOf E' (k, x, b) = entryOf E (k, x, b) := fun E' hE b => by
            unfold entryOf
            simp only
            rw [← hk E' hE, ← hk.self, ← hx E' hE, ← hx.self]
          split at h
          · cases h
          · next hf =>
            cases h
            have hfk := run_findKey (P := P) (w := w) (E := E) hL hkd hf
            refine ⟨_, ?_, putMap_ok hw hS hg hlo' (es ++ [(k, x, clock)]) (clock + 1) (fun E' hE => by simp only [List.map_append, map_E hw hS hg hE, List.map_cons, List.map_nil, hent E' hE])⟩
            unfold Instr.mapUpdate
            simp only [Sem.run_bind, run_under hL hu, Result.andThen_ok, conc]
            rw [run_getObj' (hS.self.map hg) (fun _ _ _ => by simp)]
            simp only [Sem.run_bind, Result.andThen_ok, run_checkKey hL hkd hsk]
            rw [hfk]
            simp only [Option.map_none, Result.andThen_ok]
            rw [run_setObj' (hS.self.map hg) (fun _ _ _ => by simp)]
            simp [entryOf]
          · next j v hf =>
            obtain ⟨_, hj2, e, he, hse⟩ := findKey_lt es 0 j v hf
            simp only [Nat.sub_zero, Nat.zero_add] at he hj2
            split at h
            · next e' he' =>
              rw [nth_eq, he] at he'
              cases he'
              split at h
              · next es' hov =>
                cases h
                obtain ⟨ho1, ho2⟩ := (overAt_some _ _ _ _).1 hov
                have hfk := run_findKey (P := P) (w := w) (E := E) hL hkd hf
                refine ⟨_, ?_, putMap_ok hw hS hg hlo' es' clock (fun E' hE => by
                  have h0 := map_E hw hS hg hE
                  subst ho2
                  simp only [List.map_append, List.map_take, List.map_drop, h0, List.map_cons, List.map_nil, hent E' hE])⟩
                unfold Instr.mapUpdate
                simp only [Sem.run_bind, run_under hL hu, Result.andThen_ok, conc]
                rw [run_getObj' (hS.self.map hg) (fun _ _ _ => by simp)]
                simp only [Sem.run_bind, Result.andThen_ok, run_checkKey hL hkd hsk]
                rw [hfk]
                simp only [Option.map_some, Result.andThen_ok, Sem.run_bind]
                have hold : (((es.map (entryOf E)).toArray[j]?).map (·.key)).getD (conc E k) = conc E e.1 := by simp [he, entryOf]
                rw [hold]
                unfold Instr.keyThatStays
                rw [if_pos (sameBits_key hse 10000)]
                simp only [Sem.run_pure, Result.andThen_ok]
                rw [run_setObj' (hS.self.map hg) (fun _ _ _ => by simp)]
                congr 3
                refine Array.ext_getElem? fun q => ?_
                rw [Array.getElem?_modify]
                subst ho2
                simp only [List.getElem?_toArray, List.map_append, List.map_take, List.map_drop, List.map_cons, List.map_nil]
                have hlt : (List.take j (es.map (entryOf E))).length = j := by simp; omega
                by_cases hq : q = j
                · subst hq
                  rw [List.append_assoc, List.getElem?_append_right (by omega)]
                  simp [he, entryOf, hlt]
                · rw [if_neg (Ne.symm hq)]
                  by_cases hq2 : q < j
                  · rw [List.append_assoc, List.getElem?_append_left (by omega), List.getElem?_take_of_lt hq2]
                  · rw [List.getElem?_append_right (by simp; omega), List.getElem?_drop]
                    congr 1
                    simp
                    omega
              · cases h
            · cases h
      · cases h
    · cases h
  · cases h
end
end Go.Ev

set_option linter.unusedSimpArgs false
set_option linter.unusedVariables false
namespace Go.Ev
section
variable {L : Lk} {P : Program} {w : World} {E : Env} {B : Nat} {H : AH}

theorem evStore_ok (hL : LOk0 L P) (hw : H.Wf) (hS : St B E H w) {t : TypeId} {a v : AV} {H1 : AH} {ua uv : Value} (ha : StV E H.next a ua) (hv : StV E H.next v uv) (h : evStore L t a v H = some H1) :
    ∃ w1, (Instr.storeAt t ua uv).run P w = .ok () w1 ∧ St B E H1 w1 ∧ Post E H w E H1 w1 ∧ H1.Wf := by
  rw [ha.self, hv.self]
  unfold evStore at h
  split at h
  · next i o =>
    split at h
    · next s hs =>
      split at h
      · next hl =>
        have hl' := Nat.eq_of_beq_eq_true hl
        rw [Ce.len_l, toC_l] at hl'
        obtain ⟨w1, hr, h1, h2, h3, _⟩ := writeC_ok (P := P) hw hS (X := v.toC) (by rw [toC_l]; exact fun E' hE => cells_E ((hv E' hE).symm.trans hv.self)) h
        rw [toC_l] at hr
        refine ⟨w1, ?_, h1, h2, h3⟩
        unfold Instr.storeAt
        simp only [conc, Instr.sureAddr, Sem.run_bind, Sem.run_pure, Result.andThen_ok, storeVar, run_size hL hs, Sem.run_ite, conc_cells]
        rw [if_neg (by simp [concL_length, hl'])]
        exact hr
      · cases h
    · cases h
  · cases h

theorem lenOf_ok {x : AV} {n : Nat} (h : lenOf x = some n) : (Builtin.lenOf (conc E x)).run P w = .ok n w := by
  unfold lenOf at h
  split at h <;> first
    | (cases h; rfl)
    | cases h
theorem srcCells_ok (hR : HRel B E H w) {z n : Nat} {x : AV} {l : Ce} (h : srcCells z x n H = some l) : (Builtin.firstCells z n (conc E x)).run P w = .ok (concL E l.l).toArray w := by
  unfold srcCells at h
  split at h
  · split at h
    · cases h; rfl
    · cases h
  · exact hR.read (P := P) (subC_read h)
  · next s =>
    split at h
    case h_2 => cases h
    split at h
    case h_2 => cases h
    next xs hxs =>
    cases h
    rw [Ce.of_l]
    obtain ⟨h1, h2⟩ := (takeN_some _ _ _).1 hxs
    subst h2
    simp only [conc, Builtin.firstCells, Sem.run_pure]
    congr 1
    rw [concL_take, concL_eq]
    apply Array.ext'
    simp [ByteArray.data_extract, List.map_take, Function.comp_def, conc, List.extract_eq_take_drop]
  · cases h
theorem srcCells_len {z n : Nat} {x : AV} {l : Ce} (h : srcCells z x n H = some l) : l.l.length = n * z := by
  unfold srcCells at h
  split at h
  · split at h
    · next hn => cases h; rw [Nat.eq_of_beq_eq_true hn]; simp [Ce.l]
    · cases h
  · have h := subC_read h
    unfold AH.read at h
    split at h
    · exact (sliceN_getElem h).1
    · cases h
  · split at h
    · next hz =>
      have := Nat.eq_of_beq_eq_true hz
      subst this
      split at h
      · next xs hxs =>
        cases h
        rw [Ce.of_l]
        obtain ⟨h1, h2⟩ := (takeN_some _ _ _).1 hxs
        subst h2
        rw [List.length_take]
        omega
      · cases h
    · cases h
  · cases h
/-- What was read out of the heap hangs on its blocks alone. -/
theorem srcCells_E (hw : H.Wf) (hS : St B E H w) {z n : Nat} {x : AV} {l : Ce} {P : Program} (hx : ∀ E', Agree H.next E E' → conc E' x = conc E x) (h : srcCells z x n H = some l) {E' : Env} (hE : Agree H.next E E') : concL E' l.l = concL E l.l := by
  have h1 := srcCells_ok (P := P) (w := w) hS.self h
  have h2 := srcCells_ok (P := P) (w := w) (hS E' hE) h
  rw [hx E' hE, h1] at h2
  simpa using h2.symm
theorem read_E (hS : St B E H w) (P : Program) {i o n : Nat} {l : List AV} (hi : i < H.next) (h : H.read i o n = some l) {E' : Env} (hE : Agree H.next E E') : concL E' l = concL E l := by
  have h1 := hS.self.read (P := P) h
  have h2 := (hS E' hE).read (P := P) h
  rw [show cA E' i o = cA E i o from by unfold cA; rw [hE i hi], h1] at h2
  simpa using h2.symm

/-- A block goes on under another number. -/
theorem move_ok (hw : H.Wf) (hS : St B E H w) {i : Nat} {b0 : ABlk} (hg0 : H.get i = some b0) (hown : b0.own = true) (hlo : H.lo ≤ i) (b : ABlk) (o : Obj) (x : EB) (hxb : x.blk = (E i).blk) (hk : ∀ r, w.heap[(E i).blk]? = some (.loop r) → ∃ r', o = .loop r') (hz : ∀ x off, w.heap[(E i).blk]? = some x → objFz o off = objFz x off)
    (hb : ∀ E', Agree H.next E E' → E' H.next = x → BRel E' H.next b (setBlk w (E i).blk o)) :
    St B (E.add H.next x) ((H.drop i).new b) (setBlk w (E i).blk o) ∧ Post E H w (E.add H.next x) ((H.drop i).new b) (setBlk w (E i).blk o) ∧ ((H.drop i).new b).Wf := by
  have hvis := (AH.get_some.1 hg0).1
  have hlt := hw.get_lt hg0
  have hwd : (H.drop i).Wf := AH.put_wf hw hlt _
  have hnx : (H.drop i).next = H.next := rfl
  have hget : ∀ j, ((H.drop i).new b).get j = if j = H.next then some b else if j = i then some .defd else H.get j := fun j => by
    rw [AH.new_get hwd, hnx]
    split
    · rfl
    · exact AH.put_get hvis _ j
  have hl0 : b0.live = true := by cases b0 <;> first | rfl | (simp [ABlk.own] at hown)
  refine ⟨fun E' hE => ?_, ?_, AH.new_wf hwd b⟩
  · have hA : Agree H.next E E' := (Env.add_agree E H.next _).trans hE (Nat.le_succ _)
    have hn : E' H.next = x := (hE H.next (Nat.lt_succ_self _)).trans (Env.add_self _ _ _)
    have hei : E' i = E i := hA i hlt
    have r := hS E' hA
    refine ⟨fun j c hg => ?_, fun j k c d hj hk hne hc hd => ?_, fun j c hg hc => ?_, by rw [setBlk_size]; exact r.size⟩
    · rw [hget] at hg
      split at hg
      · next h => subst h; cases hg; exact hb E' hA hn
      · split at hg
        · cases hg; trivial
        · next h1 h2 =>
          refine (r.blk j c hg).congr fun hl => setBlk_ne ?_
          rw [← hei]
          exact r.inj i j b0 c hg0 hg (Ne.symm h2) hown hl
    · rw [hget] at hj hk
      have hlc : c.live = true := by cases c <;> first | rfl | (simp [ABlk.own] at hc)
      split at hj
      · next h1 =>
        subst h1
        rw [if_neg (Ne.symm hne)] at hk
        split at hk
        · cases hk; cases hd
        · next h2 => rw [hn, hxb, ← hei]; exact r.inj i k b0 d hg0 hk (Ne.symm h2) hown hd
      · split at hj
        · cases hj; cases hc
        · next h1 h2 =>
          split at hk
          · next h3 =>
            subst h3
            rw [hn, hxb, ← hei]
            exact (r.inj i j b0 c hg0 hj (Ne.symm h2) hown hlc).symm
          · split at hk
            · cases hk; cases hd
            · exact r.inj j k c d hj hk hne hc hd
    · rw [hget] at hg
      split at hg
      · next h => subst h; rw [hn, hxb, ← hei]; exact r.base i b0 hg0 hown
      · split at hg
        · cases hg; cases hc
        · exact r.base j c hg hc
  · refine ⟨Env.add_agree _ _ _, Nat.le_succ _, rfl, rfl, rfl, rfl, rfl, by rw [setBlk_size]; exact Nat.le_refl _, fun c hc hn => ?_, fun c ho => ?_, fun j hj => ?_, setBlk_loops hk, fun h => ⟨h, setBlk_froz hz⟩, fun c ho => ?_⟩
    · refine setBlk_ne ?_
      rintro rfl
      exact hn ⟨i, b0, hg0, hown, hlo, rfl⟩
    · obtain ⟨j, d, hg, hd, hl, he⟩ := ho
      left
      rw [hget] at hg
      split at hg
      · next h => subst h; rw [Env.add_self, hxb] at he; exact ⟨i, b0, hg0, hown, hlo, he⟩
      · split at hg
        · cases hg; cases hd
        · exact ⟨j, d, hg, hd, hl, by rw [← he, Env.add_agree E H.next x j (hw.get_lt hg)]⟩
    · show ((H.tree.set i .defd).set H.next b).get j = _
      rw [Tr.get_set, if_neg, Tr.get_set, if_neg]
      · rintro rfl
        rcases hj with hj | hj
        · omega
        · rw [hvis] at hj; cases hj
      · rintro rfl
        rcases hj with hj | hj
        · exact absurd hw.lo (by omega)
        · rw [hw.vis_ge (Nat.le_refl _)] at hj; cases hj
    · obtain ⟨j, d, hg, hd, he⟩ := ho
      left
      rw [hget] at hg
      split at hg
      · next h => subst h; rw [Env.add_self, hxb] at he; exact ⟨i, b0, hg0, hl0, he⟩
      · split at hg
        · cases hg; cases hd
        · exact ⟨j, d, hg, hd, by rw [← he, Env.add_agree E H.next x j (hw.get_lt hg)]⟩

theorem size_zero (z : Array Value) (n : Nat) : (Builtin.zeroCells z n).size = n * z.size := by
  unfold Builtin.zeroCells; simp

theorem run_askRoom (n : Nat) : (askRoom n).run P w = .ok () w := by
  unfold askRoom
  simp only [Sem.run_ite]
  split
  · rfl
  · rfl

/-- What append does where the capacity is too small: a new row. -/
theorem run_grow (hL : LOk0 L P) {e : TypeId} {z b : Nat} {zv : AV} (hz : L.size e = some z) (hb : L.bytes e = some b) (hzv : L.zero e = some zv) (hzl : zv.cells.length = z)
    {ts : Array TypeId} {ty t t' : TypeId} (ht : ts[0]? = some t) (ht' : ts[1]? = some t') (hu : L.under t = some (.slice e)) {d' : TypeDesc} (hu' : L.under t' = some d') (hd' : d' = .string ∨ ∃ e', d' = .slice e')
    {x : Value} {base : Option Addr} {l c n : Nat} {old new : Array Value} {rest' : List Value} (hn : (Builtin.lenOf x).run P w = .ok n w) (hg : c < l + n)
    (h63 : l + n ≤ 9223372036854775807) (hby : (l + n) * b ≤ 140737488355328)
    (hold : ∀ w', w'.heap = w.heap → (Builtin.firstCells z l (.slice base l c)).run P w' = .ok old w') (hnew : ∀ w', w'.heap = w.heap → (Builtin.firstCells z n x).run P w' = .ok new w') :
    ∃ ex, ∃ rest : List Value, rest.length = ex * z ∧
      (Builtin.append_ ts ty (.slice base l c :: x :: rest').toArray).run P w = .ok (.slice (some ⟨w.heap.size, 0, none⟩) (l + n) (l + n + ex)) (wNew w.drew (.cells ((old ++ new).toList ++ rest).toArray e)) := by
  obtain ⟨i, hi, hib⟩ : ∃ i, L.info e = some i ∧ i.bytes = b := by
    unfold Lk.bytes at hb
    split at hb
    · next i hi => cases hb; exact ⟨i, hi, rfl⟩
    · cases hb
  refine ⟨w.tape w.drawn (.appendCap (l + n) c e) % (2 ^ 63 - (l + n)), (Builtin.zeroCells (concL (fun _ => ⟨0, 0, 0⟩) zv.cells).toArray (w.tape w.drawn (.appendCap (l + n) c e) % (2 ^ 63 - (l + n)))).toList, ?_, ?_⟩
  · simp [size_zero, concL_length, hzl]
  · have hn' : ¬ (l + n ≤ c) := by omega
    have h63' : ¬ (9223372036854775807 < ((l : Int) + (n : Int))) := by omega
    have hfit := growslice_fits hg hby
    have h48' : ¬ (281474976710656 < Builtin.nextslicecap (l + n) c * b) := by omega
    have ho := hold w.drew rfl
    have hw' := hnew w.drew rfl
    have hty : ∀ w, (typeInfo e).run P w = .ok i w := fun w => run_info hL hi w
    have hsz : ∀ w, (sizeOf e).run P w = .ok z w := fun w => run_size hL hz w
    have hzr : ∀ w, (zeroValue e).run P w = .ok (conc (fun _ => ⟨0, 0, 0⟩) zv) w := fun w => run_zero hL hzv w
    have hu1 : ∀ w, (underlying t).run P w = .ok (.slice e) w := fun w => run_under hL hu w
    have hu2 : ∀ w, (underlying t').run P w = .ok d' w := fun w => run_under hL hu' w
    have hcut : (Question.appendCap (l + n) c e).cut (w.tape w.drawn (Question.appendCap (l + n) c e)) - (l + n) = w.tape w.drawn (Question.appendCap (l + n) c e) % (9223372036854775808 - (l + n)) := Nat.add_sub_cancel_left ..
    have fin : ∀ zs : Array Value, w.drew.alloc (Obj.cells (old ++ (new ++ zs)) e) = wNew w.drew (Obj.cells (old.toList ++ (new.toList ++ zs.toList)).toArray e) := by
      intro zs
      show wNew w.drew _ = _
      congr 2
      apply Array.ext'
      simp
    rcases hd' with rfl | ⟨e', rfl⟩
    · simp only [Builtin.append_, ht, ht', List.getElem?_toArray, List.getElem?_cons_zero, List.getElem?_cons_succ]
      simp [hu1, hu2, hsz, hty, hzr, hn, hn', h63', hib, h48', Question.forced, ho, hw', newRow, run_askRoom, conc_cells]
      refine ⟨rfl, ?_⟩
      rw [hcut]
      exact fin _
    · simp only [Builtin.append_, ht, ht', List.getElem?_toArray, List.getElem?_cons_zero, List.getElem?_cons_succ]
      simp [hu1, hu2, hsz, hty, hzr, hn, hn', h63', hib, h48', Question.forced, ho, hw', newRow, run_askRoom, conc_cells]
      refine ⟨rfl, ?_⟩
      rw [hcut]
      exact fin _

/-- What append does where there is room: it writes. -/
theorem run_room (hL : LOk0 L P) {e : TypeId} {z : Nat} (hz : L.size e = some z)
    {ts : Array TypeId} {ty t t' : TypeId} (ht : ts[0]? = some t) (ht' : ts[1]? = some t') (hu : L.under t = some (.slice e)) {d' : TypeDesc} (hu' : L.under t' = some d') (hd' : d' = .string ∨ ∃ e', d' = .slice e')
    {x : Value} {base : Option Addr} {l c n : Nat} {new : Array Value} {rest' : List Value} (hn : (Builtin.lenOf x).run P w = .ok n w) (hg : l + n ≤ c)
    (hnew : (Builtin.firstCells z n x).run P w = .ok new w) :
    (Builtin.append_ ts ty (.slice base l c :: x :: rest').toArray).run P w =
      ((match base with | none => (pure () : Sem Unit) | some a => storeCells (a.add (l * z)) new.toList).run P w).andThen (fun _ w' => Result.ok (Value.slice base (l + n) c) w') := by
  have hsz : ∀ w, (sizeOf e).run P w = .ok z w := fun w => run_size hL hz w
  have hu1 : ∀ w, (underlying t).run P w = .ok (.slice e) w := fun w => run_under hL hu w
  have hu2 : ∀ w, (underlying t').run P w = .ok d' w := fun w => run_under hL hu' w
  rcases hd' with rfl | ⟨e', rfl⟩ <;>
  · simp only [Builtin.append_, ht, ht', List.getElem?_toArray, List.getElem?_cons_zero, List.getElem?_cons_succ]
    cases base <;> simp [hu1, hu2, hsz, hn, hg, hnew]

theorem evAppend_ok (hL : LOk0 L P) (hw : H.Wf) (hS : St B E H w) {ts : Array TypeId} {ty t t' : TypeId} (ht : ts[0]? = some t) (ht' : ts[1]? = some t') {d' : TypeDesc} (hu' : L.under t' = some d') (hd' : d' = .string ∨ ∃ e', d' = .slice e')
    {s x : AV} {us ux : Value} (hs : StV E H.next s us) (hx : StV E H.next x ux) {rest' : List Value} {v : AV} {H1 : AH} (h : evAppend L t s x H = some (v, H1)) :
    ∃ u w1, (Builtin.append_ ts ty (us :: ux :: rest').toArray).run P w = .ok u w1 ∧ Done B E H w v H1 u w1 := by
  have hxE : ∀ E', Agree H.next E E' → conc E' x = conc E x := fun E' hE => (hx E' hE).symm.trans hx.self
  have hsE : ∀ E', Agree H.next E E' → conc E' s = conc E s := fun E' hE => (hs E' hE).symm.trans hs.self
  rw [hs.self, hx.self]
  unfold evAppend at h
  split at h
  · next e hu =>
    split at h
    · next z b zv n hz hb hzv hln =>
      split at h
      · cases h
      · next new hnew =>
        have hsame : ∀ w', w'.heap = w.heap → HRel B E H w' := fun w' he => by
          have r := hS.self
          exact ⟨fun i b hg => (r.blk i b hg).congr (fun _ => by rw [he]), r.inj, r.base, by rw [he]; exact r.size⟩
        have hnewr : ∀ w', w'.heap = w.heap → (Builtin.firstCells z n (conc E x)).run P w' = .ok (concL E new.l).toArray w' := fun w' he => srcCells_ok (hsame w' he) hnew
        have hnE : ∀ E', Agree H.next E E' → concL E' new.l = concL E new.l := fun E' hE => srcCells_E (P := P) hw hS hxE hnew hE
        split at h
        · cases h
        · next hone' =>
          have hone := Ce.one_l hone'
          split at h
          · cases h
          · next hzz =>
            simp only [Bool.or_eq_false_iff, Bool.not_eq_false'] at hzz
            have hzl := Nat.eq_of_beq_eq_true hzz.2
            rw [len_eq] at hzl
            split at h
            · -- a nil slice
              split at h
              · next hn0 =>
                have hn0' := Nat.eq_of_beq_eq_true hn0
                subst hn0'
                cases h
                refine ⟨_, _, ?_, Done.same hw hS (v := .nilSl) (fun _ _ => rfl)⟩
                have := run_room (P := P) (w := w) hL hz (ty := ty) ht ht' hu hu' hd' (base := none) (l := 0) (c := 0) (rest' := rest') (lenOf_ok (E := E) hln) (Nat.le_refl _) (hnewr w rfl)
                exact this
              · split at h
                · cases h
                · next hbd =>
                  cases h
                  obtain ⟨hb1, hb2⟩ := and_ble hbd
                  have hpos : 0 < n := by
                    rcases Nat.eq_zero_or_pos n with h0 | h0
                    · subst h0; next hn0 => exact absurd hn0 (by simp)
                    · exact h0
                  obtain ⟨ex, rest, hrl, hrun⟩ := run_grow (P := P) (w := w) hL hz hb hzv hzl (ty := ty) ht ht' hu hu' hd' (base := none) (l := 0) (c := 0) (old := #[]) (rest' := rest') (lenOf_ok (E := E) hln) (by omega) (by omega) (by simpa using hb1)
                    (fun w' _ => by simp [Builtin.firstCells]) hnewr
                  simp only [Nat.zero_add] at hrun
                  refine ⟨_, _, hrun, ?_⟩
                  have key := newCells_ok (hw) (hS.drawn (w.drawn + 1)) (vs := new) e z true ex rest hnE (by simpa using hrl)
                  have hcells : ((#[] ++ (concL E new.l).toArray).toList ++ rest).toArray = (concL E new.l ++ rest).toArray := by simp
                  rw [hcells]
                  refine ⟨_, fun E' hE => ?_, key.1, (Post.drawn (w.drawn + 1)).trans key.2.1, key.2.2⟩
                  have : E' H.next = ⟨w.heap.size, 0, ex⟩ := (hE H.next (Nat.lt_succ_self _)).trans (Env.add_self _ _ _)
                  simp [conc, this]
            · -- another slice
              next i o l c op =>
              split at h
              · next hle =>
                have hle' := ble_t hle
                split at h
                · next H' hwr =>
                  cases h
                  obtain ⟨w1, hst, h1, h2, h3, h4⟩ := writeC_ok (P := P) hw hS hnE hwr
                  have hr := run_room (P := P) (w := w) hL hz (ty := ty) ht ht' hu hu' hd' (base := some (cA E i o)) (l := l) (c := c + (if op then (E i).extra else 0)) (rest' := rest') (lenOf_ok (E := E) hln) (by omega) (hnewr w rfl)
                  refine ⟨Value.slice (some (cA E i o)) (l + n) (c + (if op then (E i).extra else 0)), w1, ?_, E, ?_, h1, h2, h3⟩
                  · show (Builtin.append_ ts ty (Value.slice (some (cA E i o)) l (c + (if op then (E i).extra else 0)) :: conc E x :: rest').toArray).run P w = _
                    rw [hr]
                    simp only [cA_add]
                    rw [hst]
                    rfl
                  · rw [h4]
                    intro E' hE
                    have := hsE E' hE
                    simp only [conc, Value.slice.injEq] at this ⊢
                    obtain ⟨e1, _, e3⟩ := this
                    exact ⟨e1.symm, trivial, e3.symm⟩
                · cases h
              · next hle =>
                split at h
                · next old hbd hrd' =>
                  have hrd := subC_read hrd'
                  obtain ⟨hb1, hb2⟩ := and_ble hbd
                  have hgt : c < l + n := by
                    rcases Nat.lt_or_ge c (l + n) with hh | hh
                    · exact hh
                    · rw [Nat.ble_eq_true_of_le hh] at hle; cases hle
                  have hi : i < H.next := by
                    unfold AH.read AH.row at hrd
                    split at hrd
                    · next vs hvs =>
                      split at hvs
                      · next hg => exact hw.get_lt hg
                      · cases hvs
                    · cases hrd
                  have holdr : ∀ c', ∀ w', w'.heap = w.heap → (Builtin.firstCells z l (Value.slice (some (cA E i o)) l c')).run P w' = .ok (concL E old.l).toArray w' := fun c' w' he => (hsame w' he).read (P := P) hrd
                  have holdE : ∀ E', Agree H.next E E' → concL E' old.l = concL E old.l := fun E' hE => read_E hS P hi hrd hE
                  have honE : ∀ E', Agree H.next E E' → concL E' (Ce.app old new).l = concL E (Ce.app old new).l := fun E' hE => by rw [Ce.app_l, concL_append, concL_append, holdE E' hE, hnE E' hE]
                  -- a new row, whatever becomes of the old one
                  have grow : ∀ c', c' < l + n → ∀ H2 : AH, H2.next = H.next → H2.Wf → St B E H2 w → ∃ u w1, (Builtin.append_ ts ty (Value.slice (some (cA E i o)) l c' :: conc E x :: rest').toArray).run P w = .ok u w1 ∧
                      Done B E H2 w (.sl H.next 0 (l + n) (l + n) true) (H2.new (.cells (Ce.app old new) e z true false)) u w1 := by
                    intro c' hc' H2 hnx hw2 hS2
                    obtain ⟨ex, rest, hrl, hrun⟩ := run_grow (P := P) (w := w) hL hz hb hzv hzl (ty := ty) ht ht' hu hu' hd' (base := some (cA E i o)) (l := l) (c := c') (rest' := rest') (lenOf_ok (E := E) hln) hc' hb2 hb1 (holdr c') hnewr
                    refine ⟨_, _, hrun, ?_⟩
                    have key := newCells_ok (hw2) (hS2.drawn (w.drawn + 1)) (vs := Ce.app old new) e z true ex rest (by rw [hnx]; exact honE) (by simpa using hrl)
                    have hcells : (((concL E old.l).toArray ++ (concL E new.l).toArray).toList ++ rest).toArray = ((concL E (Ce.app old new).l) ++ rest).toArray := by rw [Ce.app_l, concL_append]; simp
                    rw [hcells]
                    refine ⟨_, fun E' hE => ?_, key.1, (Post.drawn (w.drawn + 1)).trans key.2.1, key.2.2⟩
                    have : E' H2.next = ⟨w.heap.size, 0, ex⟩ := (hE H2.next (Nat.lt_succ_self _)).trans (Env.add_self _ _ _)
                    rw [hnx] at this
                    simp [conc, this]
                  split at h
                  · cases h
                    have := grow c hgt H rfl hw hS
                    simpa [conc] using this
                  · split at h
                    · next vs e' z' op' ro hlo hg =>
                      split at h
                      · next hcond =>
                        cases h
                        simp only [Bool.and_eq_true, Bool.not_eq_true'] at hcond
                        obtain ⟨⟨⟨⟨q1, q2⟩, q3⟩, q4⟩, q5⟩ := hcond
                        have q1 := Nat.eq_of_beq_eq_true q1
                        have q2 := Nat.eq_of_beq_eq_true q2
                        have q5 := Nat.eq_of_beq_eq_true q5
                        rw [Ce.len_l] at q5
                        subst q1 q2 q3 q4
                        have hlo' := ble_t hlo
                        show ∃ u w1, (Builtin.append_ ts ty (Value.slice (some (cA E i o)) l (c + (if true = true then (E i).extra else 0)) :: conc E x :: rest').toArray).run P w = .ok u w1 ∧ _
                        rw [if_pos rfl]
                        by_cases hroom : l + n ≤ c + (E i).extra
                        · -- there is room: the old row goes on
                          obtain ⟨cs, e'', fz, h1, h2, h3⟩ := hS.self.blk i _ hg
                          obtain ⟨hfz, hsz⟩ := h3 rfl
                          simp only [if_true] at hsz
                          have hnl := srcCells_len hnew
                          have hmul : (l + n) * z ≤ (c + (E i).extra) * z := Nat.mul_le_mul_right z hroom
                          have hmul2 : (l + n) * z = l * z + n * z := Nat.add_mul ..
                          have hmul3 : (c + (E i).extra) * z = c * z + (E i).extra * z := Nat.add_mul ..
                          obtain ⟨cs', hst, hs', hj'⟩ := run_storeCells (P := P) (E := E) (i := i) (o := o + l * z) new.l 0 w cs h1 hfz.2 (by rw [hsz]; omega) hone
                          have hr := run_room (P := P) (w := w) hL hz (ty := ty) ht ht' hu hu' hd' (base := some (cA E i o)) (l := l) (c := c + (E i).extra) (rest' := rest') (lenOf_ok (E := E) hln) hroom (hnewr w rfl)
                          have hold : old.l.length = l * z ∧ ∀ j, j < l * z → old.l[j]? = vs.l[o + j]? ∧ o + j < vs.l.length := by
                            unfold AH.read AH.row at hrd
                            rw [hg] at hrd
                            exact sliceN_getElem hrd
                          have key := move_ok hw hS hg rfl hlo' (.cells (Ce.app old new) e z true false) (.cells cs' e'' fz) ⟨(E i).blk, (E i).off + o, c + (E i).extra - (l + n)⟩ rfl (fun r hr => by rw [h1] at hr; cases hr) (fun x off hx => by rw [h1] at hx; cases hx; rfl) (fun E' hE hn => by
                            refine ⟨cs', e'', fz, by rw [hn]; exact setBlk_self h1, fun j v hv => ?_, fun _ => ⟨by rw [hs']; exact hfz, ?_⟩⟩
                            · rw [hn]
                              have hcv : (concL E (Ce.app old new).l)[j]? = some (conc E' v) := by rw [← honE E' hE, concL_getElem?, hv]; rfl
                              rw [Ce.app_l] at hcv hv
                              show cs'[(E i).off + o + j]? = _
                              rw [hj']
                              by_cases hlt : j < l * z
                              · rw [if_neg (by omega)]
                                rw [concL_getElem?, List.getElem?_append_left (by rw [hold.1]; exact hlt), (hold.2 j hlt).1] at hcv
                                obtain ⟨vv, hvv⟩ : ∃ vv, vs.l[o + j]? = some vv := ⟨_, List.getElem?_eq_getElem (hold.2 j hlt).2⟩
                                rw [hvv] at hcv
                                rw [show (E i).off + o + j = (E i).off + (o + j) from by omega, h2 _ _ hvv]
                                exact hcv
                              · have hlt2 : j < l * z + new.l.length := by
                                  rcases Nat.lt_or_ge j (l * z + new.l.length) with hh | hh
                                  · exact hh
                                  · rw [List.getElem?_eq_none (by rw [List.length_append, hold.1]; exact hh)] at hv; cases hv
                                rw [if_pos (by omega)]
                                rw [concL_getElem?, List.getElem?_append_right (by rw [hold.1]; omega), hold.1] at hcv
                                rw [show (E i).off + o + j - ((E i).off + (o + l * z) + 0) = j - l * z from by omega]
                                exact hcv
                            · rw [hn, hs', hsz, Ce.app_l, List.length_append, hold.1, hnl]
                              simp only [if_true]
                              rw [Nat.sub_mul]
                              omega)
                          refine ⟨Value.slice (some (cA E i o)) (l + n) (c + (E i).extra), _, ?_, E.add H.next ⟨(E i).blk, (E i).off + o, c + (E i).extra - (l + n)⟩, ?_, key.1, key.2.1, key.2.2⟩
                          · rw [hr]
                            simp only [cA_add]
                            rw [hst]
                            rfl
                          · intro E' hE
                            have hn : E' H.next = ⟨(E i).blk, (E i).off + o, c + (E i).extra - (l + n)⟩ := (hE H.next (Nat.lt_succ_self _)).trans (Env.add_self _ _ _)
                            simp only [conc, hn, if_true, Nat.add_zero, cA]
                            congr 1
                            omega
                        · -- a new row
                          have dr := drop_ok hw hS hg hlo'
                          obtain ⟨u, w1, hr, E1, d1, d2, d3, d4⟩ := grow (c + (E i).extra) (by omega) (H.drop i) rfl dr.2.2 dr.1
                          exact ⟨u, w1, hr, E1, d1, d2, dr.2.1.trans d3, d4⟩
                      · cases h
                    · cases h
                · cases h
            · cases h
    · cases h
  · cases h
end
end Go.Ev

set_option linter.unusedSimpArgs false
set_option linter.unusedVariables false
namespace Go.Ev
section
variable {L : Lk} {P : Program} {w : World} {E : Env} {B : Nat} {H : AH}

theorem minN_eq (n l : Nat) : minN n l = n.min l := by
  unfold minN
  cases hb : Nat.ble n l with
  | true => have := ble_t hb; exact (Nat.min_eq_left this).symm
  | false =>
    have h : ¬ n ≤ l := fun hle => by rw [Nat.ble_eq_true_of_le hle] at hb; cases hb
    exact (Nat.min_eq_right (Nat.le_of_lt (Nat.lt_of_not_le h))).symm
theorem zeroCells_rep {zs : List AV} (n : Nat) : Builtin.zeroCells (concL E zs).toArray n = (concL E (rep zs n)).toArray := by
  have h := range_rep (E := E) (zs := zs) rfl n
  unfold Builtin.zeroCells
  by_cases hn : n * zs.length = 0
  · simp only [if_pos hn] at h
    rw [← h, hn]
    simp [concL_length, hn]
  · simp only [if_neg hn] at h
    rw [← h]
    simp [concL_length]
theorem evCopy_ok (hL : LOk0 L P) (hw : H.Wf) (hS : St B E H w) {ts : Array TypeId} {ty t : TypeId} (ht : ts[0]? = some t)
    {d x : AV} {ud ux : Value} (hd : StV E H.next d ud) (hx : StV E H.next x ux) {rest' : List Value} {v : AV} {H1 : AH} (h : evCopy L t d x H = some (v, H1)) :
    ∃ u w1, (Builtin.copy_ ts ty (ud :: ux :: rest').toArray).run P w = .ok u w1 ∧ Done B E H w v H1 u w1 := by
  rw [hd.self, hx.self]
  have hxE : ∀ E', Agree H.next E E' → conc E' x = conc E x := fun E' hE => (hx E' hE).symm.trans hx.self
  unfold evCopy at h
  split at h
  · next e hu =>
    split at h
    · next z n hz hln =>
      split at h
      · cases h
        refine ⟨_, _, ?_, Done.same hw hS (v := .int .i64 0) (u := .int .i64 0) (fun _ _ => rfl)⟩
        unfold Builtin.copy_
        simp only [ht, List.getElem?_toArray, List.getElem?_cons_zero, List.getElem?_cons_succ]
        have hf0 : (Builtin.firstCells z 0 (conc E x)).run P w = .ok #[] w := by
          unfold lenOf at hln
          split at hln <;> first
            | (cases hln; done)
            | (cases hln; simp [Builtin.firstCells, conc, loadCells, loadCellsFrom]; done)
            | (cases hln; simp [Builtin.firstCells, conc]; done)
        simp only [Sem.run_bind, run_under hL hu, Result.andThen_ok, conc, lenOf_ok (E := E) hln, run_size hL hz]
        rw [show n.min 0 = 0 from Nat.min_zero n, hf0]
        rfl
      · next i o l c op =>
        split at h
        · next new hnew =>
          split at h
          · next H' hwr =>
            cases h
            have hnE : ∀ E', Agree H.next E E' → concL E' new.l = concL E new.l := fun E' hE => srcCells_E (P := P) hw hS hxE hnew hE
            obtain ⟨w1, hst, h1, h2, h3, h4⟩ := writeC_ok (P := P) hw hS hnE hwr
            refine ⟨.int .i64 ((minN n l : Nat) : Int), w1, ?_, E, fun _ _ => rfl, h1, h2, h3⟩
            rw [minN_eq] at hnew ⊢
            unfold Builtin.copy_
            simp only [ht, List.getElem?_toArray, List.getElem?_cons_zero, List.getElem?_cons_succ]
            simp only [Sem.run_bind, run_under hL hu, Result.andThen_ok, conc, lenOf_ok (E := E) hln, run_size hL hz, srcCells_ok (P := P) hS.self hnew]
            rw [show (⟨(E i).blk, (E i).off + o, none⟩ : Addr) = cA E i o from rfl, hst]
            rfl
          · cases h
        · cases h
      · cases h
    · cases h
  · cases h

theorem evClear_ok (hL : LOk0 L P) (hw : H.Wf) (hS : St B E H w) {ts : Array TypeId} {ty t : TypeId} (ht : ts[0]? = some t)
    {x : AV} {rest' : List Value} {H1 : AH} (h : evClear L t x H = some H1) :
    ∃ w1, (Builtin.clear_ ts ty (conc E x :: rest').toArray).run P w = .ok undef w1 ∧ St B E H1 w1 ∧ Post E H w E H1 w1 ∧ H1.Wf := by
  unfold evClear at h
  split at h
  · next d hu =>
    split at h
    · cases h
      refine ⟨w, ?_, hS, Post.refl _ _ _, hw⟩
      unfold Builtin.clear_
      simp only [ht, List.getElem?_toArray, List.getElem?_cons_zero, Sem.run_bind, run_under hL hu, Result.andThen_ok, conc]
      rfl
    · cases h
      refine ⟨w, ?_, hS, Post.refl _ _ _, hw⟩
      unfold Builtin.clear_
      simp only [ht, List.getElem?_toArray, List.getElem?_cons_zero, Sem.run_bind, run_under hL hu, Result.andThen_ok, conc]
      rfl
    · next i =>
      split at h
      · split at h
        · next es clock hlo hg =>
          cases h
          have hlo' := ble_t hlo
          have key := putMap_ok hw hS hg hlo' [] clock (fun _ _ => rfl)
          refine ⟨_, ?_, key⟩
          unfold Builtin.clear_
          simp only [ht, List.getElem?_toArray, List.getElem?_cons_zero, Sem.run_bind, run_under hL hu, Result.andThen_ok, conc]
          rw [run_getObj' (hS.self.map hg) (fun _ _ _ => by simp)]
          simp only [Result.andThen_ok, Sem.run_bind]
          rw [run_setObj' (hS.self.map hg) (fun _ _ _ => by simp)]
          rfl
        · cases h
      · cases h
    · next i o n c op =>
      split at h
      · next e =>
        split at h
        · next z hz =>
          split at h
          · next hn =>
            cases h
            have hn' := Nat.eq_of_beq_eq_true hn
            subst hn'
            refine ⟨w, ?_, hS, Post.refl _ _ _, hw⟩
            unfold Builtin.clear_
            simp only [ht, List.getElem?_toArray, List.getElem?_cons_zero, Sem.run_bind, run_under hL hu, Result.andThen_ok, conc]
            rfl
          · next hn =>
            have hn' : n ≠ 0 := Nat.ne_of_beq_eq_false hn
            obtain ⟨w1, hst, h1, h2, h3, h4⟩ := write_ok (P := P) hw hS (fun E' _ => rep_E (fun A B => zcells_E hL hz A B) n E' E) h
            refine ⟨w1, ?_, h1, h2, h3⟩
            unfold Builtin.clear_
            simp only [ht, List.getElem?_toArray, List.getElem?_cons_zero, Sem.run_bind, run_under hL hu, Result.andThen_ok, conc]
            obtain ⟨m, rfl⟩ : ∃ m, n = m + 1 := ⟨n - 1, by omega⟩
            simp only [Sem.run_bind, run_zero (E := E) hL hz, Result.andThen_ok, conc_cells, zeroCells_rep]
            rw [show (⟨(E i).blk, (E i).off + o, none⟩ : Addr) = cA E i o from rfl, hst]
            rfl
        · cases h
      · cases h
    · cases h
  · cases h

theorem map_erase {α β : Type} (f : α → β) (l : List α) : ∀ j, (eraseNth l j).map f = (l.map f).eraseIdx j := by
  induction l with
  | nil => intro j; cases j <;> rfl
  | cons a l ih => intro j; cases j with | zero => rfl | succ j => show f a :: (eraseNth l j).map f = _; rw [ih]; rfl
theorem evDelete_ok (hL : LOk0 L P) (hw : H.Wf) (hS : St B E H w) {ts : Array TypeId} {ty t : TypeId} (ht : ts[0]? = some t)
    {m k : AV} {rest' : List Value} {H1 : AH} (h : evDelete L t m k H = some H1) :
    ∃ w1, (Builtin.delete_ ts ty (conc E m :: conc E k :: rest').toArray).run P w = .ok undef w1 ∧ St B E H1 w1 ∧ Post E H w E H1 w1 ∧ H1.Wf := by
  unfold evDelete at h
  split at h
  · next key elem hu =>
    split at h
    · next kd hkd =>
      split at h
      · cases h
      · next c hsk =>
        split at h
        · cases h
          refine ⟨w, ?_, hS, Post.refl _ _ _, hw⟩
          unfold Builtin.delete_
          simp only [ht, List.getElem?_toArray, List.getElem?_cons_zero, List.getElem?_cons_succ, Sem.run_bind, run_under hL hu, Result.andThen_ok, conc]
          simp only [run_checkKey hL hkd hsk, Result.andThen_ok]
          rfl
        · next i =>
          split at h
          · next es clock hlo hg =>
            have hlo' := ble_t hlo
            split at h
            · cases h
            · next hf =>
              cases h
              have hfk := run_findKey (P := P) (w := w) (E := E) hL hkd hf
              have hself : setBlk w (E i).blk (.map (es.map (entryOf E)).toArray clock) = w := by
                have h0 := hS.self.map hg
                have hlt : (E i).blk < w.heap.size := (hS.self.blk i _ hg).obj rfl
                unfold setBlk
                have he : w.heap[(E i).blk] = .map (es.map (entryOf E)).toArray clock := by rw [Array.getElem?_eq_getElem hlt] at h0; exact Option.some.inj h0
                have : w.heap.setIfInBounds (E i).blk (.map (es.map (entryOf E)).toArray clock) = w.heap := by
                  refine Array.ext (by simp) fun q hq1 hq2 => ?_
                  rw [Array.getElem_setIfInBounds (by simpa using hq2)]
                  split
                  · next hh => subst hh; exact he.symm
                  · rfl
                rw [this]
              refine ⟨w, ?_, hS, Post.refl _ _ _, hw⟩
              · unfold Builtin.delete_
                simp only [ht, List.getElem?_toArray, List.getElem?_cons_zero, List.getElem?_cons_succ, Sem.run_bind, run_under hL hu, Result.andThen_ok, conc]
                rw [run_getObj' (hS.self.map hg) (fun _ _ _ => by simp)]
                simp only [Result.andThen_ok, Sem.run_bind, run_checkKey hL hkd hsk]
                rw [hfk]
                simp only [Option.map_none, Result.andThen_ok, Sem.run_bind]
                rw [run_setObj' (hS.self.map hg) (fun _ _ _ => by simp), hself]
                rfl
            · next j v hf =>
              cases h
              obtain ⟨_, hj2, e, he, hse⟩ := findKey_lt es 0 j v hf
              have hfk := run_findKey (P := P) (w := w) (E := E) hL hkd hf
              have key := putMap_ok hw hS hg hlo' (eraseNth es j) clock (fun E' hE => by
                rw [map_erase, map_erase, map_E hw hS hg hE])
              refine ⟨_, ?_, key⟩
              unfold Builtin.delete_
              simp only [ht, List.getElem?_toArray, List.getElem?_cons_zero, List.getElem?_cons_succ, Sem.run_bind, run_under hL hu, Result.andThen_ok, conc]
              rw [run_getObj' (hS.self.map hg) (fun _ _ _ => by simp)]
              simp only [Result.andThen_ok, Sem.run_bind, run_checkKey hL hkd hsk]
              rw [hfk]
              simp only [Option.map_some, Result.andThen_ok, Sem.run_bind]
              rw [run_setObj' (hS.self.map hg) (fun _ _ _ => by simp)]
              simp only [Result.andThen_ok]
              rw [map_erase]
              have hlt : j < (es.map (entryOf E)).toArray.size := by simp; omega
              have : (es.map (entryOf E)).toArray.eraseIdxIfInBounds j = ((es.map (entryOf E)).eraseIdx j).toArray := by
                unfold Array.eraseIdxIfInBounds
                rw [dif_pos hlt]
                simp
              rw [this]
              rfl
          · cases h
        · cases h
    · cases h
  · cases h
end
end Go.Ev

set_option linter.unusedSimpArgs false
set_option linter.unusedVariables false
namespace Go.Ev
section
variable {L : Lk} {P : Program} {w : World} {E : Env} {B : Nat} {H : AH}

theorem opnd_st {n : Nat} {T : Tr AV} {a : Act} (hT : StT E n T a.tmps) {x : Operand} {v : AV} (h : opnd T x = some v) : StV E n v (a.eval x) := fun E' hE => opnd_ok (hT E' hE) h
theorem opnds_st {n : Nat} {T : Tr AV} {a : Act} (hT : StT E n T a.tmps) {l : List Operand} {vs : List AV} (h : opnds T l = some vs) : StL E n vs (l.map a.eval) := fun E' hE => opnds_ok (hT E' hE) h

theorem numsOf_ok {l : List AV} {ns : List Int} (h : numsOf l = some ns) : concL E l = ns.map (Value.int .u8) := by
  rw [concL_eq]
  refine mapO_map numOf (Value.int .u8) (conc E) (fun a b hab => ?_) h
  unfold numOf at hab
  split at hab
  · cases hab; rfl
  · cases hab

def bytesArr (s : ByteArray) (ex : Nat) : Array Value := (s.data.map fun b => Value.int .u8 b.toNat) ++ Array.replicate ex (Value.int .u8 0)
theorem bytesArr_size (s : ByteArray) (ex : Nat) : (bytesArr s ex).size = s.size + ex := by simp [bytesArr]
theorem freeze_new (w : World) (cs : Array Value) (e : TypeId) : (wNew w (.cells cs e)).freeze ⟨w.heap.size, cs.size, none⟩ 1 = wNew w (.cells cs e (cs.size, cs.size + 1)) := by
  unfold World.freeze wNew
  rw [if_neg (by omega)]
  congr 1
  refine Array.ext (by simp) fun j hj1 hj2 => ?_
  rw [Array.getElem_modify]
  simp only [Array.size_modify, Array.size_push] at hj1
  by_cases h : j = w.heap.size
  · subst h; simp
  · rw [if_neg (by simpa using Ne.symm h), Array.getElem_push_lt (by omega), Array.getElem_push_lt (by omega)]
theorem run_stringToBytes (e : TypeId) (s : ByteArray) : ∃ ex, (Conv.stringToBytes e s).run P w =
    .ok (.slice (some ⟨w.heap.size, 0, none⟩) s.size (s.size + ex)) (wNew w.drew (.cells (bytesArr s ex) e ((bytesArr s ex).size, (bytesArr s ex).size + 1))) := by
  refine ⟨w.tape w.drawn (.appendCap s.size 0 e) % (2 ^ 63 - s.size), ?_⟩
  have hcut : (Question.appendCap s.size 0 e).cut (w.tape w.drawn (.appendCap s.size 0 e)) = s.size + w.tape w.drawn (.appendCap s.size 0 e) % (2 ^ 63 - s.size) := rfl
  have hfrz := freeze_new w.drew (bytesArr s (w.tape w.drawn (.appendCap s.size 0 e) % (2 ^ 63 - s.size))) e
  have hsh : (wNew w.drew (.cells (bytesArr s (w.tape w.drawn (.appendCap s.size 0 e) % (2 ^ 63 - s.size))) e)).shape? w.heap.size = some (e, (bytesArr s (w.tape w.drawn (.appendCap s.size 0 e) % (2 ^ 63 - s.size))).size) := by
    unfold World.shape?
    rw [show w.heap.size = w.drew.heap.size from rfl, wNew_self]
  unfold Conv.stringToBytes
  have hch : (choose (.appendCap s.size 0 e)).run P w = .ok (s.size + w.tape w.drawn (.appendCap s.size 0 e) % (2 ^ 63 - s.size)) w.drew := by
    unfold choose
    simp only [Sem.run, Question.forced, Bool.false_eq_true, if_false]
    rfl
  simp only [Sem.run_bind, hch, Result.andThen_ok, Nat.add_sub_cancel_left]
  show ((newRow e (bytesArr s _)).run P w.drew).andThen _ = _
  rw [run_newRow]
  simp only [Result.andThen_ok]
  have hms : (markStringish ⟨w.drew.heap.size, 0, none⟩).run P (wNew w.drew (.cells (bytesArr s (w.tape w.drawn (.appendCap s.size 0 e) % (2 ^ 63 - s.size))) e)) = .ok () (wNew w.drew (.cells (bytesArr s (w.tape w.drawn (.appendCap s.size 0 e) % (2 ^ 63 - s.size))) e ((bytesArr s (w.tape w.drawn (.appendCap s.size 0 e) % (2 ^ 63 - s.size))).size, (bytesArr s (w.tape w.drawn (.appendCap s.size 0 e) % (2 ^ 63 - s.size))).size + 1))) := by
    unfold markStringish
    simp only [Sem.run_bind, shape, Sem.run]
    rw [show w.drew.heap.size = w.heap.size from rfl, hsh]
    simp only [Result.andThen_ok, freeze, Sem.run]
    rw [← hfrz]
    rfl
  rw [hms]
  rfl

theorem evConvert_ok (hL : LOk0 L P) (hw : H.Wf) (hS : St B E H w) {src dst : TypeId} {x v : AV} {H1 : AH} {ux : Value} (hx : StV E H.next x ux) (h : evConvert L src dst x H = some (v, H1)) :
    ∃ u w1, (convert src dst ux).run P w = .ok u w1 ∧ Done B E H w v H1 u w1 := by
  unfold evConvert at h
  split at h
  · next s d hs hd =>
    rw [hx.self]
    split at h
    · next k k' n =>
      simp only [fwrap_eq] at h
      cases h
      refine ⟨_, _, ?_, Done.same hw hS (v := .int k (k.wrap n)) (u := .int k (k.wrap n)) (fun _ _ => rfl)⟩
      unfold convert
      simp only [Sem.run_bind, run_under hL hs, run_under hL hd, Result.andThen_ok, conc]
      cases s <;> rfl
    · next s' =>
      cases h
      refine ⟨_, _, ?_, Done.same hw hS (v := .str s') (u := .string s') (fun _ _ => rfl)⟩
      unfold convert
      simp only [Sem.run_bind, run_under hL hs, run_under hL hd, Result.andThen_ok, conc]
      cases s <;> rfl
    · split at h
      · next e =>
        split at h
        · next he =>
          cases h
          refine ⟨_, _, ?_, Done.same hw hS (v := .str ByteArray.empty) (u := .string ByteArray.empty) (fun _ _ => rfl)⟩
          unfold convert
          simp only [Sem.run_bind, run_under hL hs, run_under hL hd, Result.andThen_ok, conc, run_under hL he]
          rfl
        · cases h
      · cases h
    · next i o n c op =>
      split at h
      · next e =>
        split at h
        · next he =>
          split at h
          · next l hl =>
            split at h
            · next ns hns =>
              cases h
              refine ⟨_, _, ?_, Done.same hw hS (v := .str ⟨(ns.map fun n => UInt8.ofNat n.toNat).toArray⟩) (u := .string ⟨(ns.map fun n => UInt8.ofNat n.toNat).toArray⟩) (fun _ _ => rfl)⟩
              have hrd := hS.self.read (P := P) hl
              rw [numsOf_ok (E := E) hns] at hrd
              show (convert src dst (Value.slice (some (cA E i o)) n _)).run P w = _
              rw [run_convert_bytes_string w src dst e _ n _ (under_ok hL hs) (under_ok hL he) (under_ok hL hd), run_bytesToString w _ n _ ns hrd, foldl_push_bytes]
              simp [ByteArray.empty, ByteArray.emptyWithCapacity]
              rfl
            · cases h
          · cases h
        · cases h
      · cases h
    · next e s' =>
      split at h
      · next he =>
        cases h
        -- the bytes in a row of their own, whose end is marked
        obtain ⟨ex, hrun⟩ := run_stringToBytes (P := P) (w := w) e s'
        have hcv : (convert src dst (conc E (.str s'))).run P w = (Conv.stringToBytes e s').run P w := by
          unfold convert
          simp only [Sem.run_bind, run_under hL hs, run_under hL hd, Result.andThen_ok, conc]
          cases s <;> simp only [Sem.run_bind, run_under hL he, Result.andThen_ok]
        have hnx : ∀ E', concL E' (s'.data.toList.map fun b => AV.int .u8 b.toNat) = (s'.data.toList.map fun b => Value.int .u8 b.toNat) := fun E' => by simp [concL_eq, conc]
        have key := new_okz hw (hS.drawn (w.drawn + 1)) (.cells (Ce.of (s'.data.toList.map fun b => AV.int .u8 b.toNat)) e 1 true false)
          (.cells (bytesArr s' ex) e ((bytesArr s' ex).size, (bytesArr s' ex).size + 1)) ex (fun E' hE hn => by
            refine ⟨_, e, _, by rw [hn]; exact wNew_self, fun j v hv => ?_, fun _ => ⟨⟨Nat.le_succ _, fun j hj => by show ¬ (_ ≤ _ ∧ _); omega⟩, ?_⟩⟩
            · rw [hn]
              rw [Ce.of_l] at hv
              have hlt : j < s'.data.size := by
                rcases Nat.lt_or_ge j s'.data.size with h | h
                · exact h
                · rw [List.getElem?_eq_none (by simpa using h)] at hv; cases hv
              show (bytesArr s' ex)[0 + j]? = _
              unfold bytesArr
              rw [Nat.zero_add, Array.getElem?_append_left (by simpa using hlt)]
              have hc : (concL E' (s'.data.toList.map fun b => AV.int .u8 b.toNat))[j]? = some (conc E' v) := by rw [concL_getElem?, hv]; rfl
              rw [hnx] at hc
              simpa using hc
            · rw [hn, bytesArr_size, Ce.of_l]
              simp)
        refine ⟨_, _, hcv.trans hrun, _, fun E' hE => ?_, key.1, (Post.drawn (w.drawn + 1)).trans key.2.1, key.2.2⟩
        have : E' H.next = ⟨w.heap.size, 0, ex⟩ := (hE H.next (Nat.lt_succ_self _)).trans (Env.add_self _ _ _)
        simp [conc, this]
      · cases h
    · next e i o n c op =>
      split at h
      · next e2 he =>
        split at h
        · next z1 c0 el z op' hsd hg =>
          cases h
          rw [Bool.and_eq_true] at hsd
          have hsd1 := Nat.eq_of_beq_eq_true hsd.1
          have hlo := Nat.le_of_ble_eq_true hsd.2
          subst hsd1
          have hee : e = e2 := by rw [hd] at hs; injection hs with hs; injection hs
          subst hee
          obtain ⟨cs, e', fz, h1, h2, h3⟩ := hS.self.blk i _ hg
          obtain ⟨⟨hf1, hf2⟩, hsz⟩ := h3 rfl
          generalize hfz' : (if fz.1 == fz.2 then (cs.size, cs.size + 1) else (min fz.1 cs.size, max fz.2 (cs.size + 1)) : Nat × Nat) = fz'
          have hun : Unfz cs.size fz' := by
            rw [← hfz']
            split
            · exact ⟨Nat.le_succ _, fun j hj => by show ¬ (_ ≤ _ ∧ _); omega⟩
            · next hne =>
              have hne : fz.1 ≠ fz.2 := by simpa using hne
              have hge : cs.size ≤ fz.1 := by
                rcases Nat.lt_or_ge fz.1 cs.size with hlt | hge
                · exact absurd ⟨Nat.le_refl _, by omega⟩ (hf2 fz.1 hlt)
                · exact hge
              refine ⟨?_, fun j hj => ?_⟩
              · show min fz.1 cs.size ≤ max fz.2 (cs.size + 1); omega
              · show ¬ (min fz.1 cs.size ≤ j ∧ _); omega
          have hlt : (E i).blk < w.heap.size := (Array.getElem?_eq_some_iff.1 h1).1
          have hmark : (markStringish ⟨(E i).blk, (E i).off + o, none⟩).run P w = .ok () (setBlk w (E i).blk (.cells cs e' fz')) := by
            unfold markStringish
            have hsh : w.shape? (E i).blk = some (e', cs.size) := by unfold World.shape?; rw [h1]
            simp only [Sem.run_bind, shape, Sem.run, hsh, Result.andThen_ok, freeze]
            congr 1
            unfold World.freeze
            rw [if_neg (by decide)]
            unfold setBlk
            congr 1
            refine Array.ext (by simp) fun j hj1 hj2 => ?_
            rw [Array.getElem_modify, Array.getElem_setIfInBounds (by simpa using hj2)]
            by_cases hb : (E i).blk = j
            · subst hb
              have : w.heap[(E i).blk] = .cells cs e' fz := by rw [Array.getElem?_eq_getElem hlt] at h1; exact Option.some.inj h1
              rw [if_pos rfl, if_pos rfl, this, ← hfz']
            · rw [if_neg hb, if_neg hb]
          have key := mark_ok hw hS hg rfl hlo (.cells cs e' fz') (fun r hr => by rw [h1] at hr; cases hr) (fun E' hE => by
            have hei : E' i = E i := hE i (hw.get_lt hg)
            obtain ⟨cs2, e2, fz2, k1, k2, k3⟩ := (hS E' hE).blk i _ hg
            rw [hei, h1] at k1
            cases k1
            exact ⟨cs, e', fz', by rw [hei]; exact setBlk_self h1, k2, fun hr => ⟨hun, (k3 hr).2⟩⟩)
          refine ⟨conc E (.sl i o n c op), _, ?_, E, fun E' hE => ?_, key.1, key.2.1, key.2.2⟩
          · unfold convert
            simp only [Sem.run_bind, run_under hL hs, Result.andThen_ok, conc, run_under hL he, hmark, Sem.run_pure, beq_self_eq_true]
          · have hei : E' i = E i := hE i (hw.get_lt hg)
            show _ = Value.slice (some ⟨(E' i).blk, (E' i).off + o, none⟩) n (c + if op then (E' i).extra else 0)
            rw [hei]; rfl
        · cases h
      · cases h
    · cases h
  · cases h
end
end Go.Ev

set_option linter.unusedSimpArgs false
set_option linter.unusedVariables false
namespace Go.Ev

/-- What an operation owes: a value, a call, or a round. -/
def Owes (P : Program) (B : Nat) (E : Env) (H : AH) (w : World) : Next1 → Result Next → Prop
  | .val v H1, r => ∃ u w1, (r = .ok (.value u) w1 ∨ (r = .ok .skip w1 ∧ u = undef)) ∧ Done B E H w v H1 u w1
  | .enter f args, r => ∃ us : List Value, StL E H.next args us ∧ r = (callFunc f us.toArray).run P w
  | .round l args, r => ∃ us : List Value, StL E H.next args us ∧ r = (Instr.yield (E l).blk us.toArray).run P w ∧ l < H.next

section
variable {L : Lk} {P : Program} {w : World} {E : Env} {B : Nat} {H : AH}

theorem owes_val1 (hw : H.Wf) (hS : St B E H w) {x : Option AV} {nx : Next1} (h : val1 x H = some nx) {s : Sem Value} (hs : ∀ v, x = some v → ∃ u, s.run P w = .ok u w ∧ StV E H.next v u) :
    Owes P B E H w nx ((do pure (.value (← s)) : Sem Next).run P w) := by
  unfold val1 at h
  split at h
  · next v =>
    cases h
    obtain ⟨u, hr, hu⟩ := hs v rfl
    refine ⟨u, w, .inl ?_, Done.same hw hS hu⟩
    simp only [Sem.run_bind, hr, Result.andThen_ok, Sem.run_pure]
  · cases h
theorem owes_val2 {x : Option (AV × AH)} {nx : Next1} (h : val2 x = some nx) {s : Sem Value} (hs : ∀ v H1, x = some (v, H1) → ∃ u w1, s.run P w = .ok u w1 ∧ Done B E H w v H1 u w1) :
    Owes P B E H w nx ((do pure (.value (← s)) : Sem Next).run P w) := by
  unfold val2 at h
  split at h
  · next p =>
    cases h
    obtain ⟨u, w1, hr, hd⟩ := hs p.1 p.2 rfl
    refine ⟨u, w1, .inl ?_, hd⟩
    simp only [Sem.run_bind, hr, Result.andThen_ok, Sem.run_pure]
  · cases h
theorem owes_unit {x : Option AH} {nx : Next1} (h : unit1 x = some nx) {s : Sem Unit} (hs : ∀ H1, x = some H1 → ∃ w1, s.run P w = .ok () w1 ∧ St B E H1 w1 ∧ Post E H w E H1 w1 ∧ H1.Wf) :
    Owes P B E H w nx ((do s; pure .skip : Sem Next).run P w) := by
  unfold unit1 at h
  split at h
  · next H1 =>
    cases h
    obtain ⟨w1, hr, h1, h2, h3⟩ := hs H1 rfl
    refine ⟨undef, w1, .inr ⟨?_, rfl⟩, E, fun _ _ => rfl, h1, h2, h3⟩
    simp only [Sem.run_bind, hr, Result.andThen_ok, Sem.run_pure]
  · cases h

theorem run_wrapchk (t : TypeId) (a : Addr) (s1 s2 : String) : (Builtin.ssaWrapNilChk_ #[t] t #[.pointer (some a), strVal s1, strVal s2]).run P w = .ok (.pointer (some a)) w := rfl
theorem evMethod_ok (hL : LOk0 L P) (hR : HRel B E H w) {t : TypeId} {v r : AV} {name : String} {f : FuncId} (h : evMethod L t v name H = some (f, r)) (n : Nat) :
    (method (n + 1) t (conc E v) name).run P w = .ok (f, conc E r) w := by
  unfold evMethod at h
  split at h
  · cases h
  · next i hi =>
    split at h
    · cases h
    · next m hm =>
      split at h
      · cases h
      · next hp =>
        split at h
        · cases h
        · next f' pr hf =>
          split at h
          · cases h
          · next d hd =>
            have hm' : i.methods.find? (·.name == name) = some m := by rw [← hm]; simp
            have hpe : m.path.isEmpty = true := by
              have : m.path = #[] := by
                apply Array.ext'
                simpa using hp
              rw [this]; rfl
            unfold method
            simp only [Sem.run_bind, run_info hL hi, Result.andThen_ok, hm', hp, hf]
            unfold follow
            simp only [Sem.run_pure, Result.andThen_ok, Sem.run_bind, hpe, if_true]
            unfold receiverAt
            simp only [Sem.run_bind, run_under hL hd, Result.andThen_ok]
            split at h
            · cases h
              simp only [Place.get, Sem.run_pure, Result.andThen_ok]
            · split at h
              · next x hx =>
                cases h
                simp only [Place.get, Sem.run_pure, Result.andThen_ok, Sem.run_bind]
                have hl := evLoad_ok (P := P) hL hR hx
                unfold evLoad at hx
                split at hx
                · simp only [conc] at hl ⊢
                  simp only [run_wrapchk, Sem.run_pure, Result.andThen_ok, asAddr, Sem.run_bind]
                  unfold Instr.loadAt at hl
                  simp only [Instr.sureAddr, Sem.run_bind, Sem.run_pure, Result.andThen_ok] at hl
                  rw [hl]
                  rfl
                · cases hx
              · cases h
            · cases h
            · next h1 h2 h3 =>
              cases h
              cases d <;> first
                | exact (h3 _ rfl).elim
                | (simp only [Place.get, Sem.run_pure, Result.andThen_ok])
end
end Go.Ev

set_option linter.unusedSimpArgs false
set_option linter.unusedVariables false
namespace Go.Ev
section
variable {L : Lk} {P : Program} {w : World} {E : Env} {B : Nat} {H : AH}

theorem StL.cons {n : Nat} {x : AV} {l : List AV} {us : List Value} (h : StL E n (x :: l) us) : ∃ u us', us = u :: us' ∧ StV E n x u ∧ StL E n l us' := by
  have h0 := h E (Agree.refl _ _)
  refine ⟨conc E x, concL E l, h0, fun E' hE => ?_, fun E' hE => ?_⟩
  · have := h E' hE
    rw [h0] at this
    exact (List.cons.inj this).1
  · have := h E' hE
    rw [h0] at this
    exact (List.cons.inj this).2

theorem evBuiltin_ok (hL : LOk0 L P) (hw : H.Wf) (hS : St B E H w) {b : Builtin} {ts : Array TypeId} {ty : TypeId} {cs : Array Bool} {args : List AV} {us : List Value} (hus : StL E H.next args us) {v : AV} {H1 : AH}
    (h : evBuiltin L b ts.toList args H = some (v, H1)) : ∃ u w1, (builtin b ts ty cs us.toArray).run P w = .ok (.value u) w1 ∧ Done B E H w v H1 u w1 := by
  have lift : ∀ (s : Sem Value), (∃ u w1, s.run P w = .ok u w1 ∧ Done B E H w v H1 u w1) → ∃ u w1, ((do pure (.value (← s)) : Sem Next)).run P w = .ok (.value u) w1 ∧ Done B E H w v H1 u w1 := by
    rintro s ⟨u, w1, hr, hd⟩
    exact ⟨u, w1, by simp only [Sem.run_bind, hr, Result.andThen_ok, Sem.run_pure], hd⟩
  unfold evBuiltin at h
  split at h
  · split at h
    · next t r x l hts =>
      split at h
      · next rv hv =>
        cases h
        have ht : ts[0]? = some t := by simp [← Array.getElem?_toList, hts]
        obtain ⟨u, us', rfl, hx, _⟩ := hus.cons
        refine lift _ ⟨_, w, ?_, Done.same hw hS (v := v) (u := conc E v) ?_⟩
        · rw [hx.self]; exact evLen_ok hL hS.self ht hv
        · intro E' hE
          have h1 := evLen_ok (P := P) (ty := ty) (us := us') hL hS.self ht hv
          have h2 := evLen_ok (P := P) (ty := ty) (us := us') hL (hS E' hE) ht hv
          rw [← hx.self] at h1
          rw [← hx E' hE, h1] at h2
          exact (Result.ok.inj h2).1
      · cases h
    · cases h
  · split at h
    · next t r x l hts =>
      split at h
      · next rv hv =>
        cases h
        have ht : ts[0]? = some t := by simp [← Array.getElem?_toList, hts]
        obtain ⟨u, us', rfl, hx, _⟩ := hus.cons
        refine lift _ ⟨_, w, ?_, Done.same hw hS (v := v) (u := conc E v) ?_⟩
        · rw [hx.self]; exact evCap_ok hL ht hv
        · intro E' hE
          have h1 := evCap_ok (P := P) (w := w) (E := E) (ty := ty) (us := us') hL ht hv
          have h2 := evCap_ok (P := P) (w := w) (E := E') (ty := ty) (us := us') hL ht hv
          rw [← hx.self] at h1
          rw [← hx E' hE, h1] at h2
          exact (Result.ok.inj h2).1
      · cases h
    · cases h
  · split at h
    · next t t' r s x l hts =>
      have ht : ts[0]? = some t := by simp [← Array.getElem?_toList, hts]
      have ht' : ts[1]? = some t' := by simp [← Array.getElem?_toList, hts]
      obtain ⟨u, us1, rfl, hs, h1⟩ := hus.cons
      obtain ⟨u2, us2, rfl, hx, _⟩ := h1.cons
      split at h
      · next e hu => exact lift _ (evAppend_ok hL hw hS ht ht' hu (.inr ⟨_, rfl⟩) hs hx h)
      · next hu => exact lift _ (evAppend_ok hL hw hS ht ht' hu (.inl rfl) hs hx h)
      · cases h
    · cases h
  · split at h
    · next t r d x l hts =>
      have ht : ts[0]? = some t := by simp [← Array.getElem?_toList, hts]
      obtain ⟨u, us1, rfl, hd, h1⟩ := hus.cons
      obtain ⟨u2, us2, rfl, hx, _⟩ := h1.cons
      exact lift _ (evCopy_ok hL hw hS ht hd hx h)
    · cases h
  · split at h
    · next x l =>
      split at h
      · next rv hv =>
        cases h
        have key : ∀ E, (Builtin.min_ ts ty (concL E (x :: l)).toArray).run P w = .ok (conc E v) w := fun E => fold2_ok (E := E) (f := evMin2) (g := Builtin.min2) (fun x y r h => evMin2_ok h) l x v hv
        refine lift _ ⟨_, w, by rw [hus E (Agree.refl _ _)]; exact key E, Done.same hw hS (v := v) (fun E' hE => ?_)⟩
        have h2 := key E'
        rw [← hus E' hE, hus E (Agree.refl _ _), key E] at h2
        exact (Result.ok.inj h2).1
      · cases h
    · cases h
  · split at h
    · next x l =>
      split at h
      · next rv hv =>
        cases h
        have key : ∀ E, (Builtin.max_ ts ty (concL E (x :: l)).toArray).run P w = .ok (conc E v) w := fun E => fold2_ok (E := E) (f := evMax2) (g := Builtin.max2) (fun x y r h => evMax2_ok h) l x v hv
        refine lift _ ⟨_, w, by rw [hus E (Agree.refl _ _)]; exact key E, Done.same hw hS (v := v) (fun E' hE => ?_)⟩
        have h2 := key E'
        rw [← hus E' hE, hus E (Agree.refl _ _), key E] at h2
        exact (Result.ok.inj h2).1
      · cases h
    · cases h
  · split at h
    · next t r x l hts =>
      have ht : ts[0]? = some t := by simp [← Array.getElem?_toList, hts]
      obtain ⟨u, us1, rfl, hx, h1⟩ := hus.cons
      split at h
      · next H' hc =>
        cases h
        obtain ⟨w1, hr, k1, k2, k3⟩ := evClear_ok (P := P) (ty := ty) (rest' := us1) hL hw hS ht hc
        exact lift _ ⟨undef, w1, by rw [hx.self]; exact hr, E, fun _ _ => rfl, k1, k2, k3⟩
      · cases h
    · cases h
  · split at h
    · next t r m k l hts =>
      have ht : ts[0]? = some t := by simp [← Array.getElem?_toList, hts]
      obtain ⟨u, us1, rfl, hm, h1⟩ := hus.cons
      obtain ⟨u2, us2, rfl, hk, _⟩ := h1.cons
      split at h
      · next H' hc =>
        cases h
        obtain ⟨w1, hr, k1, k2, k3⟩ := evDelete_ok (P := P) (ty := ty) (rest' := us2) hL hw hS ht hc
        exact lift _ ⟨undef, w1, by rw [hm.self, hk.self]; exact hr, E, fun _ _ => rfl, k1, k2, k3⟩
      · cases h
    · cases h
  · cases h
end
end Go.Ev

set_option linter.unusedSimpArgs false
set_option linter.unusedVariables false
namespace Go.Ev
section
variable {L : Lk} {P : Program} {w : World} {E : Env} {B : Nat} {H : AH} {T : Tr AV} {a : Act}

theorem optOpnds {n : Nat} (hT : StT E n T a.tmps) {o : Option Operand} {l : List AV} (h : mapO (opnd T) o.toList = some l) : ∀ E', Agree n E E' → o.map a.eval = l.head?.map (conc E') := by
  intro E' hE
  cases o with
  | none => cases h; rfl
  | some x =>
    obtain ⟨h1, h2⟩ := (mapO_some _ _ _).1 h
    obtain ⟨b, hb, hr⟩ := h2 0 x (by simp)
    cases l with
    | nil => simp at h1
    | cons y l =>
      simp only [List.getElem?_cons_zero, Option.some.injEq] at hr
      subst hr
      simp [opnd_ok (hT E' hE) hb]

theorem parts_ok {n : Nat} (hT : StT E n T a.tmps) {parts : Array (Nat × Operand)} {ps : List (Nat × AV)} (h : mapO (fun p : Nat × Operand => match opnd T p.2 with | some v => some (p.1, v) | none => none) parts.toList = some ps) :
    ∀ E', Agree n E E' → (parts.map fun (p : Nat × Operand) => (p.1, a.eval p.2)) = (ps.map fun p => (p.1, conc E' p.2)).toArray := by
  intro E' hE
  apply Array.ext'
  simp only [Array.toList_map]
  refine mapO_map _ (fun p : Nat × AV => (p.1, conc E' p.2)) (fun p : Nat × Operand => (p.1, a.eval p.2)) (fun p q hpq => ?_) h
  split at hpq
  · next v hv => cases hpq; rw [opnd_ok (hT E' hE) hv]
  · cases hpq

/-- A pure result, by one law for every environment. -/
theorem pure_st {n : Nat} {s : Sem Value} {r : AV} (h : ∀ E', Agree n E E' → s.run P w = .ok (conc E' r) w) : ∃ u, s.run P w = .ok u w ∧ StV E n r u :=
  ⟨conc E r, h E (Agree.refl _ _), fun E' hE => by
    have h1 := h E (Agree.refl _ _)
    rw [h E' hE] at h1
    exact (Result.ok.inj h1).1.symm⟩

theorem StV.yld_lt {n l : Nat} {u : Value} (h : StV E n (.yld l) u) : l < n := by
  rcases Nat.lt_or_ge l n with h' | h'
  · exact h'
  · have h1 := h.self
    have h2 := h (E.add l ⟨(E l).blk + 1, 0, 0⟩) (fun i hi => by simp [Env.add]; omega)
    rw [h1] at h2
    simp only [conc, Env.add_self, Value.func.injEq, Fn.yield.injEq, and_true] at h2
    omega
theorem evCallFn_ok (hw : H.Wf) {g : AV} {ug : Value} (hg : StV E H.next g ug) {args : List AV} {us : List Value} (hus : StL E H.next args us) {nx : Next1} (h : evCallFn g args = some nx) :
    Owes P B E H w nx ((do let d ← Deferred.ofValue ug us.toArray; invoke d.target d.args : Sem Next).run P w) := by
  unfold evCallFn at h
  split at h
  · next f first captured =>
    cases h
    refine ⟨(concL E (first ++ args ++ captured)), fun E' hE => ?_, ?_⟩
    · have h1 := hg E' hE
      rw [hg.self] at h1
      simp only [conc, Value.func.injEq, true_and] at h1
      have h2 := hus E' hE
      rw [hus E (Agree.refl _ _)] at h2
      simp only [concL_append, h2]
      have e1 : concL E first = concL E' first := by simpa using congrArg Array.toList h1.1
      have e2 : concL E captured = concL E' captured := by simpa using congrArg Array.toList h1.2
      rw [e1, e2]
    · rw [hg.self, hus E (Agree.refl _ _)]
      simp only [conc, Deferred.ofValue, Sem.run_bind, Sem.run_pure, Result.andThen_ok, invoke, concL_append]
      congr 2
      simp
  · next l =>
    cases h
    refine ⟨us, hus, ?_, hg.yld_lt⟩
    rw [hg.self]
    simp only [conc, Deferred.ofValue, Sem.run_bind, Sem.run_pure, Result.andThen_ok, invoke]
    congr 2
    simp
  · cases h

theorem evInvoke_ok (hL : LOk0 L P) (hw : H.Wf) (hS : St B E H w) {r : AV} {ur : Value} (hr : StV E H.next r ur) {name : String} {args : List AV} {us : List Value} (hus : StL E H.next args us) {nx : Next1} (h : evInvoke L r name args H = some nx) :
    Owes P B E H w nx ((callMethod ur name us.toArray).run P w) := by
  unfold evInvoke at h
  split at h
  · next t v =>
    split at h
    · next f rc hm =>
      cases h
      have hd : P.types.size + Made.depth = (P.types.size + 99) + 1 := rfl
      have hmr : ∀ E', Agree H.next E E' → (method (P.types.size + Made.depth) t (conc E' v) name).run P w = .ok (f, conc E' rc) w := fun E' hE => by
        rw [hd]; exact evMethod_ok hL (hS E' hE) hm _
      have hvE : ∀ E', Agree H.next E E' → conc E' v = conc E v := fun E' hE => by
        have h1 := hr E' hE
        rw [hr.self] at h1
        simp only [conc, Value.iface.injEq, true_and] at h1
        exact h1.symm
      refine ⟨conc E rc :: us, fun E' hE => ?_, ?_⟩
      · have h1 := hmr E' hE
        rw [hvE E' hE, hmr E (Agree.refl _ _)] at h1
        have h2 := (Result.ok.inj h1).1
        simp only [Prod.mk.injEq, true_and] at h2
        show conc E rc :: us = conc E' rc :: concL E' args
        rw [h2, hus E' hE]
      · rw [hr.self]
        simp only [conc, callMethod, Sem.run_bind, program, Sem.run, Result.andThen_ok, hmr E (Agree.refl _ _)]
        congr 2
        simp
    · cases h
  · cases h

theorem evMakeChan_ok (hL : LOk0 L P) (hw : H.Wf) (hS : St B E H w) {t : TypeId} {n v : AV} {H1 : AH} (h : evMakeChan L t n H = some (v, H1)) :
    ∃ u w1, (Instr.makeChan t (conc E n)).run P w = .ok u w1 ∧ Done B E H w v H1 u w1 := by
  unfold evMakeChan at h
  split at h
  · next d e hu =>
    split at h
    · next n' b hn hb =>
      split at h
      · next hbb =>
        cases h
        rw [Bool.and_eq_true] at hbb
        have b1 := ble_t hbb.1
        have b2 := ble_t hbb.2
        obtain ⟨k, rfl⟩ := natOf_ok hn
        obtain ⟨i, hi, hib⟩ := run_bytes hL hb w
        have key := new_ok hw hS (.chan n' []) (.chan n' #[] false 0 0 false) 0 (fun E' hE hn => ⟨0, 0, by rw [hn]; exact wNew_self⟩)
        refine ⟨.chan (some w.heap.size), wNew w (.chan n' #[] false 0 0 false), ?_, _, fun E' hE => ?_, key⟩
        · unfold Instr.makeChan
          simp only [conc, Sem.run_bind, asInt, asIntOf, Sem.run_pure, Result.andThen_ok, run_under hL hu, hi, Sem.run_ite]
          rw [if_neg (by
            rw [hib]
            have h2 : (b : Int) * n' = ((b * n' : Nat) : Int) := by simp
            have h3 : IntKind.i64.max = 9223372036854775807 := rfl
            rw [h3]
            rintro (h | h | h)
            · omega
            · omega
            · have : (b : Int) * n' > 281474976710544 := h
              omega)]
          simp only [newObj, Sem.run_bind, Sem.run, Result.andThen_ok, Sem.run_pure]
          rfl
        · have : E' H.next = ⟨w.heap.size, 0, 0⟩ := (hE H.next (Nat.lt_succ_self _)).trans (Env.add_self _ _ _)
          simp [conc, this]
      · cases h
    · cases h
  · cases h

theorem evOp_ok (hL : LOk0 L P) (hw : H.Wf) (hS : St B E H w) (hT : StT E H.next T a.tmps) {o : Oper} {nx : Next1} (h : evOp L T o H = some nx) :
    Owes P B E H w nx ((execOp a.eval o).run P w) := by
  obtain ⟨dst, op, ty, pos, after, guard⟩ := o
  unfold evOp at h
  unfold execOp
  cases op with
  | move x =>
    simp only at h ⊢
    unfold val1 at h
    split at h
    · next v hv => cases h; exact ⟨a.eval x, w, .inl rfl, Done.same hw hS (opnd_st hT hv)⟩
    · cases h
  | assign x =>
    simp only at h ⊢
    unfold val1 at h
    split at h
    · next v hv => cases h; exact ⟨a.eval x, w, .inl rfl, Done.same hw hS (opnd_st hT hv)⟩
    · cases h
  | pick c x y =>
    simp only at h ⊢
    unfold val1 at h
    split at h
    · next hc =>
      split at h
      · next v hv =>
        cases h
        refine ⟨a.eval x, w, .inl ?_, Done.same hw hS (opnd_st hT hv)⟩
        rw [(opnd_st hT hc).self]
        rfl
      · cases h
    · next hc =>
      split at h
      · next v hv =>
        cases h
        refine ⟨a.eval y, w, .inl ?_, Done.same hw hS (opnd_st hT hv)⟩
        rw [(opnd_st hT hc).self]
        rfl
      · cases h
    · cases h
  | alloc e =>
    simp only at h ⊢
    split at h
    · next z s hz hs =>
      cases h
      obtain ⟨u, w1, hr, hd⟩ := evAlloc_ok (P := P) hL hw hS hz s
      exact ⟨u, w1, .inl (by simp only [Sem.run_bind, hr, Result.andThen_ok, Sem.run_pure]), hd⟩
    · cases h
  | box e x =>
    simp only at h ⊢
    split at h
    · next v s hv hs =>
      cases h
      obtain ⟨u, w1, hr, hd⟩ := evBox_ok (P := P) hw hS e (opnd_st hT hv) s
      exact ⟨u, w1, .inl (by simp only [Sem.run_bind, hr, Result.andThen_ok, Sem.run_pure]), hd⟩
    · cases h
  | build t parts =>
    simp only at h ⊢
    split at h
    · next ps hp =>
      refine owes_val1 hw hS h fun v hv => pure_st fun E' hE => ?_
      rw [parts_ok hT hp E' hE]
      exact evBuild_ok hL hv
    · cases h
  | buildSlice t n parts =>
    simp only at h ⊢
    split at h
    · next ps hp =>
      refine owes_val2 h fun v H1 hv => ?_
      rw [parts_ok hT hp E (Agree.refl _ _)]
      refine evBuildSlice_ok hL hw hS (fun E' hE => ?_) hv
      have h1 := parts_ok hT hp E' hE
      rw [parts_ok hT hp E (Agree.refl _ _)] at h1
      simpa using congrArg Array.toList h1.symm
    · cases h
  | load t x =>
    simp only at h ⊢
    split at h
    · next v hv => exact owes_val1 hw hS h fun r hr => pure_st fun E' hE => by rw [opnd_ok (hT E' hE) hv]; exact evLoad_ok hL (hS E' hE) hr
    · cases h
  | store t x y =>
    simp only at h ⊢
    split at h
    · next v u hv hu => exact owes_unit h fun H1 hH => evStore_ok hL hw hS (opnd_st hT hv) (opnd_st hT hu) hH
    · cases h
  | nilCheck x =>
    simp only at h ⊢
    split at h
    · next i o hv => cases h; exact ⟨a.eval x, w, .inl (by rw [(opnd_st hT hv).self]; rfl), Done.same hw hS (opnd_st hT hv)⟩
    · next t v hv => cases h; exact ⟨a.eval x, w, .inl (by rw [(opnd_st hT hv).self]; rfl), Done.same hw hS (opnd_st hT hv)⟩
    · next f b c hv => cases h; exact ⟨a.eval x, w, .inl (by rw [(opnd_st hT hv).self]; rfl), Done.same hw hS (opnd_st hT hv)⟩
    · next l hv => cases h; exact ⟨a.eval x, w, .inl (by rw [(opnd_st hT hv).self]; rfl), Done.same hw hS (opnd_st hT hv)⟩
    · cases h
  | binOp op t x y yt =>
    simp only at h ⊢
    split at h
    · next v u hv hu => exact owes_val1 hw hS h fun r hr => pure_st fun E' hE => by rw [opnd_ok (hT E' hE) hv, opnd_ok (hT E' hE) hu]; exact evBin_ok hL hr
    · cases h
  | unOp op t x =>
    simp only at h ⊢
    split at h
    · next v hv => exact owes_val1 hw hS h fun r hr => pure_st fun E' hE => by rw [opnd_ok (hT E' hE) hv]; exact evUn_ok hr
    · cases h
  | convert s d x =>
    simp only at h ⊢
    split at h
    · next v hv => exact owes_val2 h fun r H1 hr => evConvert_ok hL hw hS (opnd_st hT hv) hr
    · cases h
  | makeInterface t x =>
    simp only at h ⊢
    split at h
    · next v hv => exact owes_val1 hw hS h fun r hr => pure_st fun E' hE => by rw [opnd_ok (hT E' hE) hv]; exact evMakeInterface_ok hL hr
    · cases h
  | makeFunc fn first captured =>
    simp only at h ⊢
    split at h
    · next f x y hx hy =>
      cases h
      refine ⟨_, w, .inl rfl, Done.same hw hS (fun E' hE => ?_)⟩
      have e1 := opnds_ok (hT E' hE) hx
      have e2 := opnds_ok (hT E' hE) hy
      simp only [conc, ← e1, ← e2]
      congr 1 <;> (apply Array.ext'; simp)
    · cases h
  | makeMap t r =>
    simp only at h ⊢
    split at h
    · cases h
      have key := new_ok hw hS (.map [] 0) (.map #[] 0) 0 (fun E' hE hn => by
        show (wNew w _).heap[(E' H.next).blk]? = _
        rw [hn]; exact wNew_self)
      refine ⟨.map (some w.heap.size), wNew w (.map #[] 0), .inl ?_, _, fun E' hE => ?_, key⟩
      · simp only [Option.map_none, Instr.makeMap, newObj, Sem.run_bind, Sem.run, Result.andThen_ok, Sem.run_pure]
        rfl
      · have : E' H.next = ⟨w.heap.size, 0, 0⟩ := (hE H.next (Nat.lt_succ_self _)).trans (Env.add_self _ _ _)
        simp [conc, this]
    · cases h
  | makeSlice t l c =>
    simp only at h ⊢
    split at h
    · next v u hv hu => exact owes_val2 h fun r H1 hr => by rw [(opnd_st hT hv).self, (opnd_st hT hu).self]; exact evMakeSlice_ok hL hw hS hr
    · cases h
  | makeChan t s =>
    simp only at h ⊢
    split at h
    · next v hv => exact owes_val2 h fun r H1 hr => by rw [(opnd_st hT hv).self]; exact evMakeChan_ok hL hw hS hr
    · cases h
  | slice t x lo hi mx =>
    simp only at h ⊢
    split at h
    · next v p q r hv hp hq hr =>
      exact owes_val1 hw hS h fun rr hrr => pure_st fun E' hE => by
        rw [opnd_ok (hT E' hE) hv, optOpnds hT hp E' hE, optOpnds hT hq E' hE, optOpnds hT hr E' hE]
        exact evSlice_ok hL hrr
    · cases h
  | fieldAddr s x f =>
    simp only at h ⊢
    split at h
    · next v hv => exact owes_val1 hw hS h fun r hr => pure_st fun E' hE => by rw [opnd_ok (hT E' hE) hv]; exact evFieldAddr_ok hL hr
    · cases h
  | field t x f =>
    simp only at h ⊢
    split at h
    · next v hv => exact owes_val1 hw hS h fun r hr => pure_st fun E' hE => by rw [opnd_ok (hT E' hE) hv]; exact evField_ok hL hr
    · cases h
  | indexAddr t x ix =>
    simp only at h ⊢
    split at h
    · next v u hv hu => exact owes_val1 hw hS h fun r hr => pure_st fun E' hE => by rw [opnd_ok (hT E' hE) hv, opnd_ok (hT E' hE) hu]; exact evIndexAddr_ok hL hr
    · cases h
  | index t x ix =>
    simp only at h ⊢
    split at h
    · next v u hv hu => exact owes_val1 hw hS h fun r hr => pure_st fun E' hE => by rw [opnd_ok (hT E' hE) hv, opnd_ok (hT E' hE) hu]; exact evIndex_ok hL hr
    · cases h
  | lookup t x k ok =>
    simp only at h ⊢
    split at h
    · next v u hv hu => exact owes_val1 hw hS h fun r hr => pure_st fun E' hE => by rw [opnd_ok (hT E' hE) hv, opnd_ok (hT E' hE) hu]; exact evLookup_ok hL (hS E' hE) hr
    · cases h
  | mapUpdate t m k x =>
    simp only at h ⊢
    split at h
    · next p q r hp hq hr => exact owes_unit h fun H1 hH => evMapUpdate_ok hL hw hS (opnd_st hT hp) (opnd_st hT hq) (opnd_st hT hr) hH
    · cases h
  | insert t m k x =>
    simp only at h ⊢
    split at h
    · next p q r hp hq hr => exact owes_unit h fun H1 hH => evMapUpdate_ok hL hw hS (opnd_st hT hp) (opnd_st hT hq) (opnd_st hT hr) hH
    · cases h
  | typeAssert x xt t ok =>
    simp only at h ⊢
    split at h
    · next v hv => exact owes_val1 hw hS h fun r hr => pure_st fun E' hE => by rw [opnd_ok (hT E' hE) hv]; exact evAssert_ok hL hr
    · cases h
  | extract x ix =>
    simp only at h ⊢
    split at h
    · next vs hv =>
      refine owes_val1 hw hS h fun r hr => pure_st fun E' hE => ?_
      rw [opnd_ok (hT E' hE) hv]
      rw [nth_eq] at hr
      unfold Instr.extract
      simp only [conc]
      have : (concL E' vs).toArray[ix]? = some (conc E' r) := by simp [concL_getElem?, hr]
      rw [this]
      rfl
    · cases h
  | call c =>
    simp only at h ⊢
    split at h
    · cases h
    · next args hargs =>
      have hus := opnds_st hT hargs
      have harr : c.args.map a.eval = (c.args.toList.map a.eval).toArray := by apply Array.ext'; simp
      split at h
      · next b hb =>
        unfold val2 at h
        split at h
        · next p hp =>
          cases h
          obtain ⟨u, w1, hr, hd⟩ := evBuiltin_ok (P := P) (ty := ty) (cs := c.args.map fun | .const _ => true | _ => false) hL hw hS hus hp
          refine ⟨u, w1, .inl ?_, hd⟩
          unfold resolve
          simp only [hb, Sem.run_bind, Sem.run_pure, Result.andThen_ok, invoke, harr]
          exact hr
        · cases h
      · next f hf =>
        split at h
        · next g hg =>
          have := evCallFn_ok (P := P) (B := B) (w := w) hw (opnd_st hT hg) hus h
          unfold resolve
          simp only [hf, harr]
          exact this
        · cases h
      · next r name hr =>
        split at h
        · next v hv =>
          have := evInvoke_ok (P := P) hL hw hS (opnd_st hT hv) hus h
          unfold resolve
          simp only [hr, Sem.run_bind, Sem.run_pure, Result.andThen_ok, invoke, harr]
          have h0 : (#[a.eval r] ++ (List.map a.eval c.args.toList).toArray)[0]? = some (a.eval r) := by simp
          have h1 : (#[a.eval r] ++ (List.map a.eval c.args.toList).toArray).extract 1 (#[a.eval r] ++ (List.map a.eval c.args.toList).toArray).size = (List.map a.eval c.args.toList).toArray := by
            apply Array.ext'
            simp
            rw [List.take_of_length_le (by simp)]
          rw [h0]
          simp only [h1]
          exact this
        · cases h
  | _ => cases h

end
end Go.Ev
