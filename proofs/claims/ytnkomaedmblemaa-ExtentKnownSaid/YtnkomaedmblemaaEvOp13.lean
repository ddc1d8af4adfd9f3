import Derived.Test.YtnkomaedmblemaaEvOp12
set_option linter.unusedSimpArgs false
set_option linter.unusedVariables false
namespace Go.Ev
section
variable {L : Lk} {P : Program} {w : World} {E : Env} {B : Nat} {H : AH}

theorem StL.cons {n : Nat} {x : AV} {l : List AV} {us : List Value} (h : StL E n (x :: l) us) : ∃ u us', us = u :: us' ∧ StV E n x u ∧ StL E n l us' := by
  have h0 := h E (Agree.refl _ _)
  refine ⟨conc E x, concL E l, h0, fun E' hE => ?_, fun E' hE => ?_⟩
  · have := h E' hE
    rw [h0] at this
    exact (List.cons.inj this).1
  · have := h E' hE
    rw [h0] at this
    exact (List.cons.inj this).2

theorem evBuiltin_ok (hL : LOk0 L P) (hw : H.Wf) (hS : St B E H w) {b : Builtin} {ts : Array TypeId} {ty : TypeId} {cs : Array Bool} {args : List AV} {us : List Value} (hus : StL E H.next args us) {v : AV} {H1 : AH}
    (h : evBuiltin L b ts.toList args H = some (v, H1)) : ∃ u w1, (builtin b ts ty cs us.toArray).run P w = .ok (.value u) w1 ∧ Done B E H w v H1 u w1 := by
  have lift : ∀ (s : Sem Value), (∃ u w1, s.run P w = .ok u w1 ∧ Done B E H w v H1 u w1) → ∃ u w1, ((do pure (.value (← s)) : Sem Next)).run P w = .ok (.value u) w1 ∧ Done B E H w v H1 u w1 := by
    rintro s ⟨u, w1, hr, hd⟩
    exact ⟨u, w1, by simp only [Sem.run_bind, hr, Result.andThen_ok, Sem.run_pure], hd⟩
  unfold evBuiltin at h
  split at h
  · split at h
    · next t r x l hts =>
      split at h
      · next rv hv =>
        cases h
        have ht : ts[0]? = some t := by simp [← Array.getElem?_toList, hts]
        obtain ⟨u, us', rfl, hx, _⟩ := hus.cons
        refine lift _ ⟨_, w, ?_, Done.same hw hS (v := v) (u := conc E v) ?_⟩
        · rw [hx.self]; exact evLen_ok hL hS.self ht hv
        · intro E' hE
          have h1 := evLen_ok (P := P) (ty := ty) (us := us') hL hS.self ht hv
          have h2 := evLen_ok (P := P) (ty := ty) (us := us') hL (hS E' hE) ht hv
          rw [← hx.self] at h1
          rw [← hx E' hE, h1] at h2
          exact (Result.ok.inj h2).1
      · cases h
    · cases h
  · split at h
    · next t r x l hts =>
      split at h
      · next rv hv =>
        cases h
        have ht : ts[0]? = some t := by simp [← Array.getElem?_toList, hts]
        obtain ⟨u, us', rfl, hx, _⟩ := hus.cons
        refine lift _ ⟨_, w, ?_, Done.same hw hS (v := v) (u := conc E v) ?_⟩
        · rw [hx.self]; exact evCap_ok hL ht hv
        · intro E' hE
          have h1 := evCap_ok (P := P) (w := w) (E := E) (ty := ty) (us := us') hL ht hv
          have h2 := evCap_ok (P := P) (w := w) (E := E') (ty := ty) (us := us') hL ht hv
          rw [← hx.self] at h1
          rw [← hx E' hE, h1] at h2
          exact (Result.ok.inj h2).1
      · cases h
    · cases h
  · split at h
    · next t t' r s x l hts =>
      have ht : ts[0]? = some t := by simp [← Array.getElem?_toList, hts]
      have ht' : ts[1]? = some t' := by simp [← Array.getElem?_toList, hts]
      obtain ⟨u, us1, rfl, hs, h1⟩ := hus.cons
      obtain ⟨u2, us2, rfl, hx, _⟩ := h1.cons
      split at h
      · next e hu => exact lift _ (evAppend_ok hL hw hS ht ht' hu (.inr ⟨_, rfl⟩) hs hx h)
      · next hu => exact lift _ (evAppend_ok hL hw hS ht ht' hu (.inl rfl) hs hx h)
      · cases h
    · cases h
  · split at h
    · next t r d x l hts =>
      have ht : ts[0]? = some t := by simp [← Array.getElem?_toList, hts]
      obtain ⟨u, us1, rfl, hd, h1⟩ := hus.cons
      obtain ⟨u2, us2, rfl, hx, _⟩ := h1.cons
      exact lift _ (evCopy_ok hL hw hS ht hd hx h)
    · cases h
  · split at h
    · next x l =>
      split at h
      · next rv hv =>
        cases h
        have key : ∀ E, (Builtin.min_ ts ty (concL E (x :: l)).toArray).run P w = .ok (conc E v) w := fun E => fold2_ok (E := E) (f := evMin2) (g := Builtin.min2) (fun x y r h => evMin2_ok h) l x v hv
        refine lift _ ⟨_, w, by rw [hus E (Agree.refl _ _)]; exact key E, Done.same hw hS (v := v) (fun E' hE => ?_)⟩
        have h2 := key E'
        rw [← hus E' hE, hus E (Agree.refl _ _), key E] at h2
        exact (Result.ok.inj h2).1
      · cases h
    · cases h
  · split at h
    · next x l =>
      split at h
      · next rv hv =>
        cases h
        have key : ∀ E, (Builtin.max_ ts ty (concL E (x :: l)).toArray).run P w = .ok (conc E v) w := fun E => fold2_ok (E := E) (f := evMax2) (g := Builtin.max2) (fun x y r h => evMax2_ok h) l x v hv
        refine lift _ ⟨_, w, by rw [hus E (Agree.refl _ _)]; exact key E, Done.same hw hS (v := v) (fun E' hE => ?_)⟩
        have h2 := key E'
        rw [← hus E' hE, hus E (Agree.refl _ _), key E] at h2
        exact (Result.ok.inj h2).1
      · cases h
    · cases h
  · split at h
    · next t r x l hts =>
      have ht : ts[0]? = some t := by simp [← Array.getElem?_toList, hts]
      obtain ⟨u, us1, rfl, hx, h1⟩ := hus.cons
      split at h
      · next H' hc =>
        cases h
        obtain ⟨w1, hr, k1, k2, k3⟩ := evClear_ok (P := P) (ty := ty) (rest' := us1) hL hw hS ht hc
        exact lift _ ⟨undef, w1, by rw [hx.self]; exact hr, E, fun _ _ => rfl, k1, k2, k3⟩
      · cases h
    · cases h
  · split at h
    · next t r m k l hts =>
      have ht : ts[0]? = some t := by simp [← Array.getElem?_toList, hts]
      obtain ⟨u, us1, rfl, hm, h1⟩ := hus.cons
      obtain ⟨u2, us2, rfl, hk, _⟩ := h1.cons
      split at h
      · next H' hc =>
        cases h
        obtain ⟨w1, hr, k1, k2, k3⟩ := evDelete_ok (P := P) (ty := ty) (rest' := us2) hL hw hS ht hc
        exact lift _ ⟨undef, w1, by rw [hm.self, hk.self]; exact hr, E, fun _ _ => rfl, k1, k2, k3⟩
      · cases h
    · cases h
  · cases h
end
end Go.Ev
