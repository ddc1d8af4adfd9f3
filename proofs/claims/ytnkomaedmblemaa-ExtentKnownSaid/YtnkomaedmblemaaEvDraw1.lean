import Derived.Test.YtnkomaedmblemaaEvRun1
set_option linter.unusedSimpArgs false
set_option linter.unusedVariables false
namespace Go.Ev

theorem opnd_tmp (T : Tr AV) (t : Nat) : opnd T (.tmp t) = some (getT T t) := by
  show (match T.get t with | some v => some v | none => some AV.undef) = _
  unfold getT
  cases T.get t <;> rfl
theorem opnd_congr {T T' : Tr AV} (x : Operand) (h : ∀ t, x = .tmp t → getT T t = getT T' t) : opnd T x = opnd T' x := by
  cases x with
  | tmp t => rw [opnd_tmp, opnd_tmp, h t rfl]
  | _ => rfl
theorem mem_opdTs {l : List Operand} {t : Nat} (h : Operand.tmp t ∈ l) : t ∈ opdTs l := by
  induction l with
  | nil => cases h
  | cons x l ih =>
    show t ∈ (match x with | .tmp t => t :: opdTs l | _ => opdTs l)
    rcases List.mem_cons.1 h with rfl | h2
    · exact List.mem_cons_self
    · cases x with
      | tmp s => exact List.mem_cons_of_mem _ (ih h2)
      | const v => exact ih h2
      | global g => exact ih h2
      | func f => exact ih h2
theorem mapO_congr {α β : Type} {f g : α → Option β} {l : List α} (h : ∀ a ∈ l, f a = g a) : mapO f l = mapO g l := by
  induction l with
  | nil => rfl
  | cons a l ih =>
    show obind (f a) (fun b => obind (mapO f l) fun bs => some (b :: bs)) = obind (g a) (fun b => obind (mapO g l) fun bs => some (b :: bs))
    rw [h a (by simp), ih fun a ha => h a (by simp [ha])]

theorem evOp_congr {L : Lk} {T T' : Tr AV} {o : Oper} {H : AH} (h : ∀ t ∈ opdTs (opOpds o.op), getT T t = getT T' t) : evOp L T o H = evOp L T' o H := by
  have hx : ∀ x ∈ opOpds o.op, opnd T x = opnd T' x := fun x hx => opnd_congr x fun t ht => h t (mem_opdTs (ht ▸ hx))
  have hl : ∀ l : List Operand, (∀ x ∈ l, x ∈ opOpds o.op) → mapO (opnd T) l = mapO (opnd T') l := fun l hl => mapO_congr fun a ha => hx a (hl a ha)
  unfold evOp
  generalize ho : o.op = op at *
  cases op with
  | build t ps =>
    simp only
    rw [mapO_congr fun (p : Nat × Operand) hp => by rw [hx p.2 (List.mem_map.2 ⟨p, hp, rfl⟩)]]
  | buildSlice t n ps =>
    simp only
    rw [mapO_congr fun (p : Nat × Operand) hp => by rw [hx p.2 (List.mem_map.2 ⟨p, hp, rfl⟩)]]
  | makeFunc fn a b =>
    simp only [opnds]
    rw [hl a.toList fun x hx => List.mem_append_left _ hx, hl b.toList fun x hx => List.mem_append_right _ hx]
  | slice t x lo hi mx =>
    simp only
    rw [hx x (by simp [opOpds]), hl lo.toList fun y hy => by simp only [opOpds, List.mem_cons, List.mem_append]; exact .inr (.inl hy),
      hl hi.toList fun y hy => by simp only [opOpds, List.mem_cons, List.mem_append]; exact .inr (.inr (.inl hy)),
      hl mx.toList fun y hy => by simp only [opOpds, List.mem_cons, List.mem_append]; exact .inr (.inr (.inr hy))]
  | call c =>
    simp only [opnds]
    obtain ⟨callee, args, ats⟩ := c
    cases callee with
    | builtin b => simp only; rw [hl args.toList fun x hx => hx]
    | value f =>
      simp only
      rw [hl args.toList fun x hx => List.mem_cons_of_mem _ hx, hx f (by simp [opOpds])]
    | invoke r m =>
      simp only
      rw [hl args.toList fun x hx => List.mem_cons_of_mem _ hx, hx r (by simp [opOpds])]
  | _ => simp only [opOpds, List.mem_cons, List.not_mem_nil, or_false, forall_eq_or_imp, forall_eq, implies_true] at hx <;> simp only [hx]


def Sub (H H' : AH) : Prop := ∀ i b, H.get i = some b → H'.get i = some b

/-- What only reads the heap says the same of a greater one. -/
theorem Sub.row {H H' : AH} (hs : Sub H H') {i : Nat} {vs : List AV} (h : H.row i = some vs) : H'.row i = some vs := by
  unfold AH.row at *
  cases hg : H.get i with
  | none => rw [hg] at h; cases h
  | some b => rw [hg] at h; rw [hs i b hg]; exact h
theorem Sub.read {H H' : AH} (hs : Sub H H') {i o n : Nat} {l : List AV} (h : H.read i o n = some l) : H'.read i o n = some l := by
  unfold AH.read at *
  cases hg : H.row i with
  | none => rw [hg] at h; cases h
  | some b => rw [hg] at h; rw [hs.row hg]; exact h
theorem Sub.read1 {H H' : AH} (hs : Sub H H') {i o : Nat} {l : AV} (h : H.read1 i o = some l) : H'.read1 i o = some l := by
  unfold AH.read1 at *
  cases hg : H.row i with
  | none => rw [hg] at h; cases h
  | some b => rw [hg] at h; rw [hs.row hg]; exact h
theorem Sub.load {L : Lk} {H H' : AH} (hs : Sub H H') {t : TypeId} {a v : AV} (h : evLoad L t a H = some v) : evLoad L t a H' = some v := by
  unfold evLoad at *
  split at h
  · split at h
    · split at h
      · split at h
        · next hr => rw [hs.read hr]; exact h
        · cases h
      · cases h
    · exact hs.read1 h
    · cases h
  · cases h
theorem Sub.lookup {L : Lk} {H H' : AH} (hs : Sub H H') {t : TypeId} {x k v : AV} {ok : Bool} (h : evLookup L t x k ok H = some v) : evLookup L t x k ok H' = some v := by
  unfold evLookup at *
  split at h
  · split at h
    · cases x with
      | map i =>
        simp only at h ⊢
        cases hg : H.get i with
        | none => rw [hg] at h; cases h
        | some b => rw [hg] at h; rw [hs i b hg]; exact h
      | _ => exact h
    · cases h
  · cases h
theorem Sub.len {L : Lk} {H H' : AH} (hs : Sub H H') {t : TypeId} {x v : AV} (h : evLen L t x H = some v) : evLen L t x H' = some v := by
  unfold evLen at *
  split at h
  · exact h
  · exact h
  · exact h
  · exact h
  · cases x with
    | map i =>
      simp only at h ⊢
      cases hg : H.get i with
      | none => rw [hg] at h; cases h
      | some b => rw [hg] at h; rw [hs i b hg]; exact h
    | _ => exact h
  · cases h
theorem len_any {L : Lk} {H H' : AH} {t : TypeId} {x v : AV} (ht : ∀ k e, L.under t ≠ some (.map k e)) (h : evLen L t x H = some v) : evLen L t x H' = some v := by
  unfold evLen at *
  split at h <;> first
    | exact h
    | (next hm => exact absurd hm (ht _ _))
    | cases h

theorem builtin_any {L : Lk} {b : Builtin} {ts : List TypeId} {args : List AV} {H : AH} {p : AV × AH} (hb : b = .cap ∨ b = .min ∨ b = .max) (h : evBuiltin L b ts args H = some p) :
    p.2 = H ∧ ∀ H', evBuiltin L b ts args H' = some (p.1, H') := by
  rcases hb with rfl | rfl | rfl <;> unfold evBuiltin at * <;> simp only at h ⊢ <;> split at h <;> first | (cases h; done) | (split at h <;> first | (cases h; done) | (cases h; exact ⟨rfl, fun _ => rfl⟩))
theorem len_builtin {L : Lk} {ts : List TypeId} {args : List AV} {H : AH} {p : AV × AH} (h : evBuiltin L .len ts args H = some p) :
    ∃ t ts' x as', ts = t :: ts' ∧ args = x :: as' ∧ evLen L t x H = some p.1 ∧ p.2 = H := by
  unfold evBuiltin at h
  simp only at h
  split at h
  · split at h
    · next hl => cases h; exact ⟨_, _, _, _, rfl, rfl, hl, rfl⟩
    · cases h
  · cases h

theorem pure_any {L : Lk} {T : Tr AV} {o : Oper} {H : AH} {nx : Next1} (hp : pureOp L o.op = true) (h : evOp L T o H = some nx) :
    ∃ v, nx = .val v H ∧ ∀ H', evOp L T o H' = some (.val v H') := by
  unfold evOp at h ⊢
  generalize ho : o.op = op at *
  have key : ∀ x : Option AV, val1 x H = some nx → ∃ v, nx = .val v H ∧ ∀ H', val1 x H' = some (.val v H') := by
    intro x hx
    unfold val1 at hx
    split at hx
    · next v => cases hx; exact ⟨v, rfl, fun _ => rfl⟩
    · cases hx
  cases op with
  | call c =>
    obtain ⟨callee, args, ats⟩ := c
    cases callee with
    | builtin b =>
      simp only at h ⊢
      split at h
      · cases h
      · next as has =>
        unfold val2 at h
        split at h
        · next p hb =>
          cases h
          have fin : (b = .cap ∨ b = .min ∨ b = .max) → ∃ v, Next1.val p.1 p.2 = .val v H ∧ ∀ H', val2 (evBuiltin L b ats.toList as H') = some (.val v H') := fun hc => by
            obtain ⟨h1, h2⟩ := builtin_any hc hb
            exact ⟨p.1, by rw [h1], fun H' => by rw [h2 H']; rfl⟩
          cases b with
          | len =>
            obtain ⟨t, ts', x, as', e1, e2, hl, e3⟩ := len_builtin hb
            refine ⟨p.1, by rw [e3], fun H' => ?_⟩
            simp only [pureOp, e1] at hp
            have : evLen L t x H' = some p.1 := len_any (fun k e hk => by rw [hk] at hp; cases hp) hl
            rw [e1, e2]
            unfold evBuiltin
            simp only [this]
            rfl
          | cap => exact fin (.inl rfl)
          | min => exact fin (.inr (.inl rfl))
          | max => exact fin (.inr (.inr rfl))
          | _ => cases hp
        · cases h
    | _ => cases hp
  | _ => first
    | (cases hp; done)
    | (simp only at h ⊢; exact key _ h)
    | (simp only at h ⊢; split at h <;> first | (cases h; done) | exact key _ h | (cases h; exact ⟨_, rfl, fun _ => rfl⟩))

theorem read_any {L : Lk} {T : Tr AV} {o : Oper} {H : AH} {nx : Next1} (hp : readOp o.op = true) (h : evOp L T o H = some nx) :
    ∃ v, nx = .val v H ∧ ∀ H', Sub H H' → evOp L T o H' = some (.val v H') := by
  unfold evOp at h ⊢
  generalize ho : o.op = op at *
  cases op with
  | load t x =>
    simp only at h ⊢
    split at h
    · unfold val1 at h
      split at h
      · next v hv => cases h; exact ⟨v, rfl, fun H' hs => by rw [hs.load hv]; rfl⟩
      · cases h
    · cases h
  | lookup t x k ok =>
    simp only at h ⊢
    split at h
    · unfold val1 at h
      split at h
      · next v hv => cases h; exact ⟨v, rfl, fun H' hs => by rw [hs.lookup hv]; rfl⟩
      · cases h
    · cases h
  | call c =>
    obtain ⟨callee, args, ats⟩ := c
    cases callee with
    | builtin b =>
      cases b with
      | len =>
        simp only at h ⊢
        split at h
        · cases h
        · next as has =>
          unfold val2 at h
          split at h
          · next p hb =>
            cases h
            obtain ⟨t, ts', x, as', e1, e2, hl, e3⟩ := len_builtin hb
            refine ⟨p.1, by rw [e3], fun H' hs => ?_⟩
            have := hs.len hl
            rw [e1, e2]
            unfold evBuiltin
            simp only [this]
            rfl
          · cases h
      | _ => cases hp
    | _ => cases hp
  | _ => cases hp
end Go.Ev
