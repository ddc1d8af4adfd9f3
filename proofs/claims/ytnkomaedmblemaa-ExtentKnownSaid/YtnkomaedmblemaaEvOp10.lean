import Derived.Test.YtnkomaedmblemaaEvOp9
set_option linter.unusedSimpArgs false
set_option linter.unusedVariables false
namespace Go.Ev
section
variable {L : Lk} {P : Program} {w : World} {E : Env} {B : Nat} {H : AH}

theorem minN_eq (n l : Nat) : minN n l = n.min l := by
  unfold minN
  cases hb : Nat.ble n l with
  | true => have := ble_t hb; exact (Nat.min_eq_left this).symm
  | false =>
    have h : ¬ n ≤ l := fun hle => by rw [Nat.ble_eq_true_of_le hle] at hb; cases hb
    exact (Nat.min_eq_right (Nat.le_of_lt (Nat.lt_of_not_le h))).symm
theorem zeroCells_rep {zs : List AV} (n : Nat) : Builtin.zeroCells (concL E zs).toArray n = (concL E (rep zs n)).toArray := by
  have h := range_rep (E := E) (zs := zs) rfl n
  unfold Builtin.zeroCells
  by_cases hn : n * zs.length = 0
  · simp only [if_pos hn] at h
    rw [← h, hn]
    simp [concL_length, hn]
  · simp only [if_neg hn] at h
    rw [← h]
    simp [concL_length]
theorem evCopy_ok (hL : LOk0 L P) (hw : H.Wf) (hS : St B E H w) {ts : Array TypeId} {ty t : TypeId} (ht : ts[0]? = some t)
    {d x : AV} {ud ux : Value} (hd : StV E H.next d ud) (hx : StV E H.next x ux) {rest' : List Value} {v : AV} {H1 : AH} (h : evCopy L t d x H = some (v, H1)) :
    ∃ u w1, (Builtin.copy_ ts ty (ud :: ux :: rest').toArray).run P w = .ok u w1 ∧ Done B E H w v H1 u w1 := by
  rw [hd.self, hx.self]
  have hxE : ∀ E', Agree H.next E E' → conc E' x = conc E x := fun E' hE => (hx E' hE).symm.trans hx.self
  unfold evCopy at h
  split at h
  · next e hu =>
    split at h
    · next z n hz hln =>
      split at h
      · cases h
        refine ⟨_, _, ?_, Done.same hw hS (v := .int .i64 0) (u := .int .i64 0) (fun _ _ => rfl)⟩
        unfold Builtin.copy_
        simp only [ht, List.getElem?_toArray, List.getElem?_cons_zero, List.getElem?_cons_succ]
        have hf0 : (Builtin.firstCells z 0 (conc E x)).run P w = .ok #[] w := by
          unfold lenOf at hln
          split at hln <;> first
            | (cases hln; done)
            | (cases hln; simp [Builtin.firstCells, conc, loadCells, loadCellsFrom]; done)
            | (cases hln; simp [Builtin.firstCells, conc]; done)
        simp only [Sem.run_bind, run_under hL hu, Result.andThen_ok, conc, lenOf_ok (E := E) hln, run_size hL hz]
        rw [show n.min 0 = 0 from Nat.min_zero n, hf0]
        rfl
      · next i o l c op =>
        split at h
        · next new hnew =>
          split at h
          · next H' hwr =>
            cases h
            have hnE : ∀ E', Agree H.next E E' → concL E' new = concL E new := fun E' hE => srcCells_E (P := P) hw hS hxE hnew hE
            obtain ⟨w1, hst, h1, h2, h3, h4⟩ := write_ok (P := P) hw hS hnE hwr
            refine ⟨.int .i64 ((minN n l : Nat) : Int), w1, ?_, E, fun _ _ => rfl, h1, h2, h3⟩
            rw [minN_eq] at hnew ⊢
            unfold Builtin.copy_
            simp only [ht, List.getElem?_toArray, List.getElem?_cons_zero, List.getElem?_cons_succ]
            simp only [Sem.run_bind, run_under hL hu, Result.andThen_ok, conc, lenOf_ok (E := E) hln, run_size hL hz, srcCells_ok (P := P) hS.self hnew]
            rw [show (⟨(E i).blk, (E i).off + o, none⟩ : Addr) = cA E i o from rfl, hst]
            rfl
          · cases h
        · cases h
      · cases h
    · cases h
  · cases h

theorem evClear_ok (hL : LOk0 L P) (hw : H.Wf) (hS : St B E H w) {ts : Array TypeId} {ty t : TypeId} (ht : ts[0]? = some t)
    {x : AV} {rest' : List Value} {H1 : AH} (h : evClear L t x H = some H1) :
    ∃ w1, (Builtin.clear_ ts ty (conc E x :: rest').toArray).run P w = .ok undef w1 ∧ St B E H1 w1 ∧ Post E H w E H1 w1 ∧ H1.Wf := by
  unfold evClear at h
  split at h
  · next d hu =>
    split at h
    · cases h
      refine ⟨w, ?_, hS, Post.refl _ _ _, hw⟩
      unfold Builtin.clear_
      simp only [ht, List.getElem?_toArray, List.getElem?_cons_zero, Sem.run_bind, run_under hL hu, Result.andThen_ok, conc]
      rfl
    · cases h
      refine ⟨w, ?_, hS, Post.refl _ _ _, hw⟩
      unfold Builtin.clear_
      simp only [ht, List.getElem?_toArray, List.getElem?_cons_zero, Sem.run_bind, run_under hL hu, Result.andThen_ok, conc]
      rfl
    · next i =>
      split at h
      · split at h
        · next es clock hlo hg =>
          cases h
          have hlo' := ble_t hlo
          have key := putMap_ok hw hS hg hlo' [] clock (fun _ _ => rfl)
          refine ⟨_, ?_, key⟩
          unfold Builtin.clear_
          simp only [ht, List.getElem?_toArray, List.getElem?_cons_zero, Sem.run_bind, run_under hL hu, Result.andThen_ok, conc]
          rw [run_getObj' (hS.self.map hg) (fun _ _ _ => by simp)]
          simp only [Result.andThen_ok, Sem.run_bind]
          rw [run_setObj' (hS.self.map hg) (fun _ _ _ => by simp)]
          rfl
        · cases h
      · cases h
    · next i o n c op =>
      split at h
      · next e =>
        split at h
        · next z hz =>
          split at h
          · next hn =>
            cases h
            have hn' := Nat.eq_of_beq_eq_true hn
            subst hn'
            refine ⟨w, ?_, hS, Post.refl _ _ _, hw⟩
            unfold Builtin.clear_
            simp only [ht, List.getElem?_toArray, List.getElem?_cons_zero, Sem.run_bind, run_under hL hu, Result.andThen_ok, conc]
            rfl
          · next hn =>
            have hn' : n ≠ 0 := Nat.ne_of_beq_eq_false hn
            obtain ⟨w1, hst, h1, h2, h3, h4⟩ := write_ok (P := P) hw hS (fun E' _ => rep_E (fun A B => zcells_E hz A B) n E' E) h
            refine ⟨w1, ?_, h1, h2, h3⟩
            unfold Builtin.clear_
            simp only [ht, List.getElem?_toArray, List.getElem?_cons_zero, Sem.run_bind, run_under hL hu, Result.andThen_ok, conc]
            obtain ⟨m, rfl⟩ : ∃ m, n = m + 1 := ⟨n - 1, by omega⟩
            simp only [Sem.run_bind, run_zero (E := E) hL hz, Result.andThen_ok, conc_cells, zeroCells_rep]
            rw [show (⟨(E i).blk, (E i).off + o, none⟩ : Addr) = cA E i o from rfl, hst]
            rfl
        · cases h
      · cases h
    · cases h
  · cases h

theorem map_erase {α β : Type} (f : α → β) (l : List α) : ∀ j, (eraseNth l j).map f = (l.map f).eraseIdx j := by
  induction l with
  | nil => intro j; cases j <;> rfl
  | cons a l ih => intro j; cases j with | zero => rfl | succ j => show f a :: (eraseNth l j).map f = _; rw [ih]; rfl
theorem evDelete_ok (hL : LOk0 L P) (hw : H.Wf) (hS : St B E H w) {ts : Array TypeId} {ty t : TypeId} (ht : ts[0]? = some t)
    {m k : AV} {rest' : List Value} {H1 : AH} (h : evDelete L t m k H = some H1) :
    ∃ w1, (Builtin.delete_ ts ty (conc E m :: conc E k :: rest').toArray).run P w = .ok undef w1 ∧ St B E H1 w1 ∧ Post E H w E H1 w1 ∧ H1.Wf := by
  unfold evDelete at h
  split at h
  · next key elem hu =>
    split at h
    · next kd hkd =>
      split at h
      · cases h
      · next c hsk =>
        split at h
        · cases h
          refine ⟨w, ?_, hS, Post.refl _ _ _, hw⟩
          unfold Builtin.delete_
          simp only [ht, List.getElem?_toArray, List.getElem?_cons_zero, List.getElem?_cons_succ, Sem.run_bind, run_under hL hu, Result.andThen_ok, conc]
          simp only [run_checkKey hL hkd hsk, Result.andThen_ok]
          rfl
        · next i =>
          split at h
          · next es clock hlo hg =>
            have hlo' := ble_t hlo
            split at h
            · cases h
            · next hf =>
              cases h
              have hfk := run_findKey (P := P) (w := w) (E := E) hL hkd hf
              have hself : setBlk w (E i).blk (.map (es.map (entryOf E)).toArray clock) = w := by
                have h0 := hS.self.map hg
                have hlt : (E i).blk < w.heap.size := (hS.self.blk i _ hg).obj rfl
                unfold setBlk
                have he : w.heap[(E i).blk] = .map (es.map (entryOf E)).toArray clock := by rw [Array.getElem?_eq_getElem hlt] at h0; exact Option.some.inj h0
                have : w.heap.setIfInBounds (E i).blk (.map (es.map (entryOf E)).toArray clock) = w.heap := by
                  refine Array.ext (by simp) fun q hq1 hq2 => ?_
                  rw [Array.getElem_setIfInBounds (by simpa using hq2)]
                  split
                  · next hh => subst hh; exact he.symm
                  · rfl
                rw [this]
              refine ⟨w, ?_, hS, Post.refl _ _ _, hw⟩
              · unfold Builtin.delete_
                simp only [ht, List.getElem?_toArray, List.getElem?_cons_zero, List.getElem?_cons_succ, Sem.run_bind, run_under hL hu, Result.andThen_ok, conc]
                rw [run_getObj' (hS.self.map hg) (fun _ _ _ => by simp)]
                simp only [Result.andThen_ok, Sem.run_bind, run_checkKey hL hkd hsk]
                rw [hfk]
                simp only [Option.map_none, Result.andThen_ok, Sem.run_bind]
                rw [run_setObj' (hS.self.map hg) (fun _ _ _ => by simp), hself]
                rfl
            · next j v hf =>
              cases h
              obtain ⟨_, hj2, e, he, hse⟩ := findKey_lt es 0 j v hf
              have hfk := run_findKey (P := P) (w := w) (E := E) hL hkd hf
              have key := putMap_ok hw hS hg hlo' (eraseNth es j) clock (fun E' hE => by
                rw [map_erase, map_erase, map_E hw hS hg hE])
              refine ⟨_, ?_, key⟩
              unfold Builtin.delete_
              simp only [ht, List.getElem?_toArray, List.getElem?_cons_zero, List.getElem?_cons_succ, Sem.run_bind, run_under hL hu, Result.andThen_ok, conc]
              rw [run_getObj' (hS.self.map hg) (fun _ _ _ => by simp)]
              simp only [Result.andThen_ok, Sem.run_bind, run_checkKey hL hkd hsk]
              rw [hfk]
              simp only [Option.map_some, Result.andThen_ok, Sem.run_bind]
              rw [run_setObj' (hS.self.map hg) (fun _ _ _ => by simp)]
              simp only [Result.andThen_ok]
              rw [map_erase]
              have hlt : j < (es.map (entryOf E)).toArray.size := by simp; omega
              have : (es.map (entryOf E)).toArray.eraseIdxIfInBounds j = ((es.map (entryOf E)).eraseIdx j).toArray := by
                unfold Array.eraseIdxIfInBounds
                rw [dif_pos hlt]
                simp
              rw [this]
              rfl
          · cases h
        · cases h
    · cases h
  · cases h
end
end Go.Ev
