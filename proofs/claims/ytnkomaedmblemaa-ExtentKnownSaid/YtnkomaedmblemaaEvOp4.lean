import Derived.Test.YtnkomaedmblemaaEvOp3
set_option linter.unusedSimpArgs false
set_option linter.unusedVariables false
namespace Go.Ev
section
variable {L : Lk} {P : Program} {w : World} {E : Env}

/-! ### Aggregates -/
theorem foldl_set (off : Nat) (l : List Value) : ∀ (k : Nat) (arr : Array Value), off + k + l.length ≤ arr.size →
    ((l.zipIdx k).foldl (fun cs p => cs.setIfInBounds (off + p.2) p.1) arr).size = arr.size ∧
    ∀ j : Nat, ((l.zipIdx k).foldl (fun cs p => cs.setIfInBounds (off + p.2) p.1) arr)[j]? = if off + k ≤ j ∧ j < off + k + l.length then l[j - (off + k)]? else arr[j]? := by
  induction l with
  | nil => intro k arr _; exact ⟨rfl, fun j => by rw [if_neg (by simp)]; rfl⟩
  | cons a l ih =>
    intro k arr h
    simp only [List.length_cons] at h
    rw [List.zipIdx_cons, List.foldl_cons]
    obtain ⟨h1, h2⟩ := ih (k + 1) (arr.setIfInBounds (off + k) a) (by simp; omega)
    refine ⟨by rw [h1]; simp, fun j => ?_⟩
    rw [h2]
    simp only [List.length_cons]
    by_cases h0 : j = off + k
    · subst h0
      rw [if_neg (by omega), if_pos (by omega), Array.getElem?_setIfInBounds, if_pos rfl, if_pos (by omega)]
      simp
    · by_cases hin : off + (k + 1) ≤ j ∧ j < off + (k + 1) + l.length
      · rw [if_pos hin, if_pos (by omega)]
        obtain ⟨d, hd⟩ : ∃ d, j - (off + k) = d + 1 := ⟨j - (off + k) - 1, by omega⟩
        rw [hd, show j - (off + (k + 1)) = d from by omega]; simp
      · rw [if_neg hin, if_neg (by omega), Array.getElem?_setIfInBounds, if_neg (by omega)]
theorem fill_over {xs cs cs' : List AV} {off : Nat} (h : overAt xs cs off = some cs') :
    ((concL E xs).toArray.zipIdx.foldl (fun cs p => cs.setIfInBounds (off + p.2) p.1) (concL E cs).toArray) = (concL E cs').toArray := by
  obtain ⟨hle, he⟩ := (overAt_some xs cs off cs').1 h
  have key := foldl_set off (concL E xs) 0 (concL E cs).toArray (by simp [concL_length]; omega)
  have hz : (concL E xs).toArray.zipIdx.foldl (fun cs p => cs.setIfInBounds (off + p.2) p.1) (concL E cs).toArray = ((concL E xs).zipIdx 0).foldl (fun cs p => cs.setIfInBounds (off + p.2) p.1) (concL E cs).toArray := by
    rw [← Array.foldl_toList]
    simp
  rw [hz]
  refine Array.ext_getElem? fun j => ?_
  rw [key.2]
  simp only [concL_length, Nat.add_zero]
  rw [he]
  simp only [List.getElem?_toArray, concL_getElem?]
  by_cases hin : off ≤ j ∧ j < off + xs.length
  · rw [if_pos hin, List.append_assoc, List.getElem?_append_right (by simp; omega), List.getElem?_append_left (by simp; omega)]
    simp only [List.length_take, show min off cs.length = off from by omega]
  · rw [if_neg hin]
    by_cases hj : j < off
    · rw [List.append_assoc, List.getElem?_append_left (by simp; omega), List.getElem?_take_of_lt hj]
    · rw [List.getElem?_append_right (by simp; omega), List.getElem?_drop]
      simp only [List.length_append, List.length_take, show min off cs.length = off from by omega]
      rw [show off + xs.length + (j - (off + xs.length)) = j from by omega]

theorem fill_ok {pl pl' : Nat → Option (Nat × Nat)} (parts : List (Nat × AV)) : ∀ {cs cs' : List AV}, (∀ i x, pl i = some x → pl' i = some x) → fillL pl parts cs = some cs' →
    Instr.fill pl' (concL E cs).toArray (parts.map fun p => (p.1, conc E p.2)) = some (concL E cs').toArray := by
  induction parts with
  | nil => intro cs cs' _ h; cases h; rfl
  | cons p parts ih =>
    intro cs cs' hpl h
    unfold fillL at h
    rw [lrec_cons] at h
    split at h
    · cases h
    · next os hos =>
      split at h
      · cases h
      · next hb =>
        split at h
        · cases h
        · next cs1 hov =>
          have hlen := Nat.eq_of_beq_eq_true hb
          rw [len_eq] at hlen
          have hle := ((overAt_some _ _ _ _).1 hov).1
          show Instr.fill pl' (concL E cs).toArray ((p.1, conc E p.2) :: parts.map fun p => (p.1, conc E p.2)) = _
          unfold Instr.fill
          rw [hpl _ _ hos]
          obtain ⟨o1, o2⟩ := os
          simp only at hlen hov hle ⊢
          rw [conc_cells]
          rw [if_neg (by simp [concL_length, hlen]; omega)]
          rw [fill_over hov]
          exact ih hpl h

theorem run_listMapM {α β : Type} (f : α → Sem β) (l : List α) : ∀ (r : List β), r.length = l.length → (∀ (i : Nat) a, l[i]? = some a → ∃ b, r[i]? = some b ∧ (f a).run P w = .ok b w) → (l.mapM f).run P w = .ok r w := by
  induction l with
  | nil => intro r hr _; have : r = [] := List.eq_nil_of_length_eq_zero (by simpa using hr); subst this; simp
  | cons a l ih =>
    intro r hr h
    cases r with
    | nil => simp at hr
    | cons b r =>
      obtain ⟨b', hb', hf⟩ := h 0 a (by simp)
      simp only [List.getElem?_cons_zero, Option.some.injEq] at hb'
      subst hb'
      rw [List.mapM_cons]
      simp only [Sem.run_bind, hf, Result.andThen_ok]
      rw [ih r (by simpa using hr) (fun i x hx => by simpa using h (i + 1) x (by simpa using hx))]
      simp
theorem run_mapM {α β : Type} (f : α → Sem β) (xs : Array α) (r : List β) (hr : r.length = xs.toList.length) (h : ∀ (i : Nat) a, xs.toList[i]? = some a → ∃ b, r[i]? = some b ∧ (f a).run P w = .ok b w) :
    (xs.mapM f).run P w = .ok r.toArray w := by
  rw [Array.mapM_eq_mapM_toList]
  simp only [Sem.run_map, run_listMapM f xs.toList r hr h, Result.andThen_ok]

theorem evBuild_ok (hL : LOk0 L P) {t : TypeId} {parts : List (Nat × AV)} {r : AV} (h : evBuild L t parts = some r) :
    (Instr.build t (parts.map fun p => (p.1, conc E p.2)).toArray).run P w = .ok (conc E r) w := by
  unfold evBuild at h
  split at h
  · cases h
  · next z hz =>
    split at h
    · next fields hu =>
      split at h
      · next pls hp =>
        split at h
        · next cs hf =>
          cases h
          unfold Instr.build
          simp only [Sem.run_bind, run_zero (E := E) hL hz, Result.andThen_ok, run_under hL hu, conc_cells]
          obtain ⟨p1, p2⟩ := (mapO_some _ _ _).1 hp
          rw [run_mapM (P := P) (w := w) (fun f : Field => do pure (f.offset, ← sizeOf f.type)) fields pls p1 (fun i f hf => by
            obtain ⟨b, hb, hr⟩ := p2 i f hf
            split at hb
            · next s hs => cases hb; exact ⟨_, hr, by simp only [Sem.run_bind, run_size hL hs, Result.andThen_ok, Sem.run_pure]⟩
            · cases hb)]
          simp only [Result.andThen_ok]
          rw [fill_ok (E := E) parts (pl' := fun i => pls.toArray[i]?) (fun i x hx => by rw [nth_eq] at hx; simpa using hx) hf]
          rfl
        · cases h
      · cases h
    · next n e hu =>
      split at h
      · next s hs =>
        split at h
        · next cs hf =>
          cases h
          unfold Instr.build
          simp only [Sem.run_bind, run_zero (E := E) hL hz, Result.andThen_ok, run_under hL hu, conc_cells, run_size hL hs]
          rw [fill_ok (E := E) parts (fun i x hx => hx) hf]
          rfl
        · cases h
      · cases h
    · cases h

/-! ### New blocks -/
theorem run_newRow (e : TypeId) (cs : Array Value) : (newRow e cs).run P w = .ok ⟨w.heap.size, 0, none⟩ (wNew w (.cells cs e)) := by
  unfold newRow newObj
  simp only [Sem.run_bind, Sem.run, Result.andThen_ok, Sem.run_pure]
  rfl

/-- A new row of cells. -/
theorem newCells_ok {B : Nat} {H : AH} (hw : H.Wf) (hS : St B E H w) {vs : List AV} (e : TypeId) (z : Nat) (op : Bool) (ex : Nat) (rest : List Value)
    (hx : ∀ E', Agree H.next E E' → concL E' vs = concL E vs) (hr : rest.length = if op then ex * z else 0) :
    St B (E.add H.next ⟨w.heap.size, 0, ex⟩) (H.new (.cells vs e z op false)) (wNew w (.cells ((concL E vs) ++ rest).toArray e)) ∧
    Post E H w (E.add H.next ⟨w.heap.size, 0, ex⟩) (H.new (.cells vs e z op false)) (wNew w (.cells ((concL E vs) ++ rest).toArray e)) ∧ (H.new (.cells vs e z op false)).Wf :=
  new_ok hw hS _ _ ex fun E' hE hn => by
    refine ⟨((concL E vs) ++ rest).toArray, e, (0, 0), by rw [hn]; exact wNew_self, fun j v hv => ?_, fun _ => ⟨fun j hj => by simp, ?_⟩⟩
    · rw [hn]
      have hlt : j < vs.length := by
        rcases Nat.lt_or_ge j vs.length with h | h
        · exact h
        · rw [List.getElem?_eq_none h] at hv; cases hv
      simp only [Nat.zero_add, List.getElem?_toArray]
      rw [List.getElem?_append_left (by rw [concL_length]; exact hlt), ← hx E' hE, concL_getElem?, hv]
      rfl
    · rw [hn]
      simp [concL_length, hr]

theorem rep_conc {z : AV} {s : Nat} (hz : z.cells.length = s) (n : Nat) : (if n * s = 0 then (#[] : Array Value) else (conc E z).cells) = (if n * s = 0 then (#[] : Array Value) else (concL E z.cells).toArray) := by rw [conc_cells]
theorem range_rep {zs : List AV} {s : Nat} (hz : zs.length = s) (n : Nat) :
    (Array.range (n * s)).map ((if n * s = 0 then (#[] : Array Value) else (concL E zs).toArray)[· % (if n * s = 0 then (#[] : Array Value) else (concL E zs).toArray).size]!) = (concL E (rep zs n)).toArray := by
  refine Array.ext_getElem? fun j => ?_
  by_cases hj : j < n * s
  · rw [if_neg (by omega)]
    have hs : 0 < s := by
      rcases Nat.eq_zero_or_pos s with h | h
      · subst h; simp at hj
      · exact h
    have hlt : j % s < zs.length := by rw [hz]; exact Nat.mod_lt _ hs
    simp only [Array.getElem?_map, Array.getElem?_range, if_pos hj, Option.map_some, List.getElem?_toArray, concL_getElem?]
    rw [rep_getElem zs n j (by rw [hz]; exact hj), hz]
    simp only [List.size_toArray, concL_length, hz]
    rw [List.getElem?_eq_getElem hlt]
    simp [concL_eq, hlt, getElem!_pos]
  · rw [Array.getElem?_eq_none (by simp; omega), Array.getElem?_eq_none (by simp [concL_length, rep_length, hz]; omega)]
end
end Go.Ev
