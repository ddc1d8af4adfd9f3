import Derived.Test.YtnkomaedmblemaaEvRun3
set_option linter.unusedSimpArgs false
set_option linter.unusedVariables false
namespace Go.Ev
section
variable {L : Lk} {P : Program} {B : Nat} {rec : Rec} {F : Fence}

theorem getT_setArgs (l : List AV) : ∀ (j : Nat) (T : Tr AV) (t : Nat), getT (setArgs l j T) t = if j ≤ t ∧ t < j + l.length then (l[t - j]?).getD .undef else getT T t := by
  induction l with
  | nil => intro j T t; rw [if_neg (by simp)]; rfl
  | cons v l ih =>
    intro j T t
    show getT (setArgs l (j + 1) (T.set j v)) t = _
    rw [ih, getT_set]
    by_cases h0 : t = j
    · subst h0
      rw [if_neg (by omega), if_pos rfl, if_pos (by simp)]
      simp
    · by_cases h1 : j + 1 ≤ t ∧ t < j + 1 + l.length
      · rw [if_pos h1, if_pos (by simp; omega)]
        obtain ⟨d, hd⟩ : ∃ d, t - j = d + 1 := ⟨t - j - 1, by omega⟩
        rw [hd, show t - (j + 1) = d from by omega]
        simp
      · rw [if_neg h1, if_neg h0, if_neg (by simp; omega)]

theorem StT.args {E : Env} {n : Nat} {args : List AV} {us : List Value} (h : StL E n args us) (m : Nat) : StT E n (setArgs args 0 .nil) (us.toArray ++ Array.replicate m undef) := by
  intro E' hE t
  have hu := h E' hE
  rw [getT_setArgs, hu]
  have hg : getT (.nil : Tr AV) t = .undef := by unfold getT; rw [Tr.get_nil]; rfl
  by_cases ht : t < args.length
  · rw [if_pos (by omega)]
    simp only [Array.getD_eq_getD_getElem?]
    rw [Array.getElem?_append_left (by simp [concL_length]; exact ht)]
    simp [concL_getElem?, List.getElem?_eq_getElem ht]
  · rw [if_neg (by omega), hg]
    simp only [Array.getD_eq_getD_getElem?]
    rw [Array.getElem?_append_right (by simp [concL_length]; omega), Array.getElem?_replicate]
    split <;> rfl

theorem TRel.params {E : Env} {m : Nat} (ps : List Tmp) : ∀ (args : List AV) (T : Tr AV) (tmps : Array Value), TRel E T tmps → (∀ d ∈ ps, d < m) → m ≤ tmps.size →
    TRel E (setParams (ps.zip args) T) ((ps.zip (concL E args)).foldl (fun tmps (p : Tmp × Value) => tmps.setIfInBounds p.1 p.2) tmps) ∧ ((ps.zip (concL E args)).foldl (fun tmps (p : Tmp × Value) => tmps.setIfInBounds p.1 p.2) tmps).size = tmps.size := by
  induction ps with
  | nil => intro args T tmps h _ _; exact ⟨h, rfl⟩
  | cons p ps ih =>
    intro args T tmps h hp hm
    cases args with
    | nil => exact ⟨h, rfl⟩
    | cons v args =>
      have hlt := hp p (by simp)
      have := ih args (T.set p v) (tmps.setIfInBounds p (conc E v)) (fun t => by
        rw [getT_set]
        simp only [Array.getD_eq_getD_getElem?, Array.getElem?_setIfInBounds]
        by_cases ht : t = p
        · subst ht; rw [if_pos rfl, if_pos rfl, if_pos (Nat.lt_of_lt_of_le hlt hm)]; rfl
        · rw [if_neg (fun e => ht e.symm), if_neg ht]
          have := h t
          simpa [Array.getD_eq_getD_getElem?] using this) (fun d hd => hp d (by simp [hd])) (by simpa using hm)
      exact ⟨this.1, this.2.trans (by simp)⟩

noncomputable def resOf (L : Lk) (T : Tr AV) (H : AH) (r : ResultVar) : Option AV := match r with
  | .tmp t => (match T.get t with | some v => some v | none => some AV.undef)
  | .cell a t => (match T.get a with | some v => evLoad L t v H | none => none)
theorem run_mapM_of {α : Type} {E : Env} {w : World} (g : α → Option AV) (f : α → Sem Value) (hf : ∀ r v, g r = some v → (f r).run P w = .ok (conc E v) w) : ∀ (l : List α) (vs : List AV), mapO g l = some vs → (l.mapM f).run P w = .ok (concL E vs) w := by
  intro l
  induction l with
  | nil => intro vs h; cases h; simp [Sem.run_pure, concL]
  | cons r l ih =>
    intro vs h
    have h' : obind (g r) (fun b => obind (mapO g l) fun bs => some (b :: bs)) = some vs := h
    cases hr : g r with
    | none => rw [hr] at h'; cases h'
    | some v =>
      rw [hr] at h'
      cases hl : mapO g l with
      | none => rw [hl] at h'; cases h'
      | some us =>
        rw [hl] at h'
        cases h'
        rw [List.mapM_cons]
        simp only [Sem.run_bind, hf r v hr, Result.andThen_ok, ih us hl, Sem.run_pure]
        rfl
noncomputable def tupOf (vs : List AV) : AV := match vs with | [v] => v | vs => .tup vs
theorem evResults_ok (hL : LOk0 L P) {fn : Func} {T : Tr AV} {H : AH} {E : Env} {w : World} {tmps : Array Value} {vs : List AV} (hR : HRel B E H w) (hT : TRel E T tmps) (h : evResults L T H fn.results.toList = some vs) :
    (results fn tmps).run P w = .ok (conc E (tupOf vs)) w := by
  have h' : mapO (resOf L T H) fn.results.toList = some vs := h
  unfold results
  rw [Array.mapM_eq_mapM_toList]
  simp only [Sem.run_bind, Sem.run_map]
  rw [run_mapM_of (E := E) (resOf L T H) _ (fun r v hv => ?_) _ vs h']
  · simp only [Result.andThen_ok, Sem.run_pure]
    congr 1
    cases vs with
    | nil => rfl
    | cons v vs =>
      cases vs with
      | nil => rfl
      | cons u vs => rw [dif_neg (by simp [concL])]; rfl
  · unfold resOf at hv
    cases r with
    | tmp t =>
      simp only at hv ⊢
      have := hT t
      unfold getT at this
      rw [Sem.run_pure, this]
      congr 2
      cases hg : T.get t with
      | none => rw [hg] at hv; cases hv; rfl
      | some v' => rw [hg] at hv; cases hv; rfl
    | cell a t =>
      simp only at hv ⊢
      cases hg : T.get a with
      | none => rw [hg] at hv; cases hv
      | some v' =>
        rw [hg] at hv
        simp only at hv
        have hta := hT a
        unfold getT at hta
        rw [hg] at hta
        have hl := evLoad_ok (P := P) hL hR hv
        rw [hta]
        unfold evLoad at hv
        split at hv
        · exact hl
        · cases hv
end
end Go.Ev
