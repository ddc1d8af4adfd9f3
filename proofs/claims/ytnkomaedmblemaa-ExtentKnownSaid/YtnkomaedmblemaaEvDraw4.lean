import Derived.Test.YtnkomaedmblemaaEvDraw3
set_option linter.unusedSimpArgs false
set_option linter.unusedVariables false
namespace Go.Ev

/-- All that is known of a region's steps. -/
structure Steps (L : Lk) (rec : Rec) (all : List Oper) (T : Tr AV) (H : AH) (ss : List Stp) (T1 : Tr AV) (H1 : AH) : Prop where
  chain : Chain L rec all [] T H ss T1 H1
  one : ∀ s ∈ ss, Known1 L rec all s
  two : ss.Pairwise (Known2 L all)
  deps : ∀ a s b, ss = a ++ s :: b → ∀ e ∈ s.x.2.2.after.toList, Region.binds .any e = true → ∃ y ∈ a, y.x.1 = e.on
  all : ∀ i, i < all.length → ∃ s ∈ ss, s.x.1 = i

theorem isHeavy_free {L : Lk} {o : Oper} (h : isHeavy L o = true) (h' : isFree L o = true) : False := by
  unfold isHeavy at h; unfold isFree at h'
  cases hk : kindOf L o.op <;> rw [hk] at h h' <;> first | (cases h; done) | (cases h'; done)
theorem isHeavy_read {L : Lk} {o : Oper} (h : isHeavy L o = true) (h' : isRead L o = true) : False := by
  unfold isHeavy at h; unfold isRead at h'
  cases hk : kindOf L o.op <;> rw [hk] at h h' <;> first | (cases h; done) | (cases h'; done)
theorem isRead_free {L : Lk} {o : Oper} (h : isRead L o = true) (h' : isFree L o = true) : False := by
  unfold isRead at h; unfold isFree at h'
  cases hk : kindOf L o.op <;> rw [hk] at h h' <;> first | (cases h; done) | (cases h'; done)
theorem light_kind {L : Lk} {o : Oper} (h : isHeavy L o = false) : pureOp L o.op = true ∨ (readOp o.op = true ∧ isRead L o = true) := by
  unfold isHeavy kindOf at h
  unfold isRead kindOf
  cases hp : pureOp L o.op with
  | true => exact .inl rfl
  | false =>
    rw [hp] at h
    cases hr : readOp o.op with
    | true => exact .inr ⟨rfl, rfl⟩
    | false => rw [hr] at h; cases h

section
variable {L : Lk} {rec : Rec} {all : List Oper} {T T1 : Tr AV} {H H1 : AH} {ss : List Stp} {D : Nat → Bool}

def ins (D : Nat → Bool) (k : Nat) : Nat → Bool := fun i => if i = k then true else D i

structure At (L : Lk) (rec : Rec) (all : List Oper) (T : Tr AV) (H : AH) (ss : List Stp) (T1 : Tr AV) (H1 : AH) (D : Nat → Bool) (a : List Stp) (s : Stp) (b : List Stp) : Prop where
  S : Steps L rec all T H ss T1 H1
  eq : ss = a ++ s :: b
  cl : Closed all D
  new : D s.x.1 = false
  dep : Deps s.x.2.2 D

variable {a b : List Stp} {s : Stp}

theorem At.k1 (h : At L rec all T H ss T1 H1 D a s b) : Known1 L rec all s := h.S.one s (by rw [h.eq]; simp)
theorem At.left (h : At L rec all T H ss T1 H1 D a s b) : ∀ y ∈ a, Known2 L all y s := by
  have := h.S.two
  rw [h.eq, List.pairwise_append] at this
  exact fun y hy => this.2.2 y hy s (by simp)
theorem At.right (h : At L rec all T H ss T1 H1 D a s b) : ∀ y ∈ b, Known2 L all s y := by
  have := h.S.two
  rw [h.eq, List.pairwise_append, List.pairwise_cons] at this
  exact fun y hy => this.2.1.1 y hy
theorem At.anc (h : At L rec all T H ss T1 H1 D a s b) {j : Nat} (hb : Nat.testBit s.x.2.1 j = true) : D j = true := h.k1.anc D h.cl h.dep j hb
theorem At.bitL (h : At L rec all T H ss T1 H1 D a s b) {y : Stp} (hd : D y.x.1 = false) : Nat.testBit s.x.2.1 y.x.1 = false := by
  cases hb : Nat.testBit s.x.2.1 y.x.1 with
  | false => rfl
  | true => rw [h.anc hb] at hd; cases hd
theorem At.bitR (h : At L rec all T H ss T1 H1 D a s b) {y : Stp} (hy : y ∈ b) (hd : D y.x.1 = true) : Nat.testBit y.x.2.1 s.x.1 = false := by
  have hk : Known1 L rec all y := h.S.one y (by rw [h.eq]; simp [hy])
  cases hb : Nat.testBit y.x.2.1 s.x.1 with
  | false => rfl
  | true =>
    have := hk.anc D h.cl (fun e he hbd => h.cl y.x.1 y.x.2.2 hk.op hd e he hbd) s.x.1 hb
    rw [h.new] at this; cases this
theorem At.other (h : At L rec all T H ss T1 H1 D a s b) {y : Stp} (hy : y ∈ ss) (hi : y.x.1 = s.x.1) : y = s := by
  rw [h.eq, List.mem_append, List.mem_cons] at hy
  rcases hy with hy | rfl | hy
  · exact absurd hi (h.left y hy).pair.ne
  · rfl
  · exact absurd hi.symm (h.right y hy).pair.ne
theorem At.insL (h : At L rec all T H ss T1 H1 D a s b) {y : Stp} (hy : y ∈ a) : ins D s.x.1 y.x.1 = D y.x.1 := if_neg (h.left y hy).pair.ne
theorem At.insR (h : At L rec all T H ss T1 H1 D a s b) {y : Stp} (hy : y ∈ b) : ins D s.x.1 y.x.1 = D y.x.1 := if_neg (fun e => (h.right y hy).pair.ne e.symm)
theorem ins_self (D : Nat → Bool) (k : Nat) : ins D k k = true := if_pos rfl

/-- What the operation looks at is as it was in the one order. -/
theorem At.looks (h : At L rec all T H ss T1 H1 D a s b) {t : Nat} (ht : t ∈ looksT all s.x.2.2) : getT (TD D ss T) t = getT s.T t := by
  have hc := h.S.chain
  rw [h.eq] at hc
  rw [h.eq, TD_append, (hc.at a).1]
  rw [TD_none]
  · refine TD_same a T T (fun y hy hd => ?_) rfl
    have hyd : D y.x.1 = false := by
      cases hh : D y.x.1 with
      | false => rfl
      | true => rw [hh] at hd; exact absurd rfl hd
    exact fun hdst => (clash_no ((h.left y hy).pair.apart (h.bitL hyd))).1 hdst ht
  · intro y hy hd hdst
    rcases List.mem_cons.1 hy with rfl | hy
    · rw [h.new] at hd; cases hd
    · exact (clash_no ((h.right y hy).pair.apart (h.bitR hy hd))).2.1 hdst ht

/-- No heavy operation behind this heavy one is done. -/
theorem At.heavyR (h : At L rec all T H ss T1 H1 D a s b) (hh : isHeavy L s.x.2.2 = true) : ∀ y ∈ b, isHeavy L y.x.2.2 = true → D y.x.1 = false := by
  intro y hy hyh
  cases hd : D y.x.1 with
  | false => rfl
  | true => exact (isHeavy_free hyh ((h.right y hy).pair.mem (h.bitR hy hd) hh)).elim
theorem At.heavyL (h : At L rec all T H ss T1 H1 D a s b) (hh : isFree L s.x.2.2 = false) : ∀ y ∈ a, isHeavy L y.x.2.2 = true → D y.x.1 = true := by
  intro y hy hyh
  cases hd : D y.x.1 with
  | true => rfl
  | false => have := (h.left y hy).pair.mem (h.bitL hd) hyh; rw [hh] at this; cases this

theorem At.heapNow (h : At L rec all T H ss T1 H1 D a s b) (hh : isHeavy L s.x.2.2 = true) : HD L D ss H = s.H := by
  have hc := h.S.chain
  rw [h.eq] at hc
  rw [h.eq, HD_append, (hc.at a).2]
  have hf : isFree L s.x.2.2 = false := by
    cases hx : isFree L s.x.2.2 with
    | false => rfl
    | true => exact (isHeavy_free hh hx).elim
  rw [HD_same (D' := tt) a H fun y hy hyh => h.heavyL hf y hy hyh]
  refine HD_none _ _ fun y hy hyh => ?_
  rcases List.mem_cons.1 hy with rfl | hy
  · exact h.new
  · exact h.heavyR hh y hy hyh
theorem At.heapThen (h : At L rec all T H ss T1 H1 D a s b) (hh : isHeavy L s.x.2.2 = true) : HD L (ins D s.x.1) ss H = s.H' := by
  rw [h.eq, HD_append]
  show HD L _ b (if ins D s.x.1 s.x.1 = true ∧ isHeavy L s.x.2.2 = true then s.H' else _) = _
  rw [if_pos ⟨ins_self _ _, hh⟩]
  exact HD_none _ _ fun y hy hyh => by rw [h.insR hy]; exact h.heavyR hh y hy hyh
theorem At.heapLight (h : At L rec all T H ss T1 H1 D a s b) (hh : isHeavy L s.x.2.2 = false) : HD L (ins D s.x.1) ss H = HD L D ss H := by
  refine HD_same ss H fun y hy hyh => if_neg fun hi => ?_
  rw [h.other hy hi, hh] at hyh
  cases hyh
theorem At.temps (h : At L rec all T H ss T1 H1 D a s b) (t : Nat) : getT (TD (ins D s.x.1) ss T) t = getT (putT (TD D ss T) s.x.2.2.dst s.v) t := by
  rw [getT_putT]
  split
  · next hd =>
    rw [h.eq, TD_append]
    show getT (TD _ b (if ins D s.x.1 s.x.1 = true then _ else _)) t = _
    rw [if_pos (ins_self _ _), TD_none]
    · rw [getT_putT, if_pos hd]
    · intro y hy hyd
      rw [h.insR hy] at hyd
      exact (clash_no ((h.right y hy).pair.apart (h.bitR hy hyd))).2.2 hd
  · next hd =>
    refine TD_same ss T T (fun y hy hne => ?_) rfl
    by_cases hi : y.x.1 = s.x.1
    · rw [h.other hy hi]; exact hd
    · exact absurd (if_neg hi) hne
theorem At.closed (h : At L rec all T H ss T1 H1 D a s b) : Closed all (ins D s.x.1) := by
  intro i o hi hd e he hb
  show (if e.on = s.x.1 then true else D e.on) = true
  split
  · rfl
  · by_cases hk : i = s.x.1
    · subst hk
      rw [h.k1.op] at hi
      cases hi
      exact h.dep e he hb
    · have : D i = true := by
        have hd : (if i = s.x.1 then true else D i) = true := hd
        rwa [if_neg hk] at hd
      exact h.cl i o hi this e he hb

/-- Blocks that a reading operation that is not done yet will read. -/
def Mono (L : Lk) (H : AH) (ss : List Stp) (D : Nat → Bool) : Prop := ∀ a s b, ss = a ++ s :: b → isRead L s.x.2.2 = true → D s.x.1 = false → (∀ y ∈ a, isHeavy L y.x.2.2 = true → D y.x.1 = true) → SubN s s.H (HD L D ss H)

theorem At.mono (h : At L rec all T H ss T1 H1 D a s b) (hm : Mono L H ss D) (hsub : ∀ r ∈ a, isRead L r.x.2.2 = true → Nat.testBit s.x.2.1 r.x.1 = false → SubN r s.H s.H') : Mono L H ss (ins D s.x.1) := by
  intro a2 r b2 he hr hd hl
  have hrd : D r.x.1 = false := by
    have hd : (if r.x.1 = s.x.1 then true else D r.x.1) = false := hd
    split at hd
    · cases hd
    · exact hd
  by_cases hh : isHeavy L s.x.2.2 = true
  · rw [h.heapThen hh]
    have hc := h.S.chain
    -- is the reading one ahead or behind?
    have hpos := he.symm.trans h.eq
    rw [List.append_eq_append_iff] at hpos
    rcases hpos with ⟨c, hc1, hc2⟩ | ⟨c, hc1, hc2⟩
    · cases c with
      | nil =>
        simp only [List.nil_append, List.cons.injEq] at hc2
        rw [hc2.1] at hr
        exact (isHeavy_read hh hr).elim
      | cons z c =>
        simp only [List.cons_append, List.cons.injEq] at hc2
        obtain ⟨rfl, hc2⟩ := hc2
        have hra : r ∈ a := by rw [hc1]; simp
        have hla : ∀ y ∈ a2, isHeavy L y.x.2.2 = true → D y.x.1 = true := fun y hy hyh => by
          rw [← h.insL (by rw [hc1]; simp [hy])]
          exact hl y hy hyh
        have h1 := hm a2 r b2 he hr hrd hla
        rw [h.heapNow hh] at h1
        exact h1.trans (hsub r hra hr (h.bitL hrd))
    · cases c with
      | nil =>
        simp only [List.nil_append, List.cons.injEq] at hc2
        rw [← hc2.1] at hr
        exact (isHeavy_read hh hr).elim
      | cons z c =>
        simp only [List.cons_append, List.cons.injEq] at hc2
        obtain ⟨rfl, hc2⟩ := hc2
        rw [he] at hc
        rw [(hc.at a2).2, hc1, HD_append]
        show SubN r (HD L tt c (if tt s.x.1 = true ∧ isHeavy L s.x.2.2 = true then s.H' else _)) _
        rw [if_pos ⟨rfl, hh⟩, HD_light]
        · exact fun _ _ _ hg => hg
        · intro y hy
          cases hyh : isHeavy L y.x.2.2 with
          | false => rfl
          | true =>
            have hyb : y ∈ b := by rw [hc2]; simp [hy]
            have := hl y (by rw [hc1]; simp [hy]) hyh
            rw [h.insR hyb, h.heavyR hh y hyb hyh] at this
            cases this
  · have hh : isHeavy L s.x.2.2 = false := by simpa using hh
    rw [h.heapLight hh]
    refine hm a2 r b2 he hr hrd fun y hy hyh => ?_
    have h1 := hl y hy hyh
    have h1 : (if y.x.1 = s.x.1 then true else D y.x.1) = true := h1
    split at h1
    · next hi =>
      rw [h.other (by rw [he]; simp [hy]) hi, hh] at hyh
      cases hyh
    · exact h1
end
end Go.Ev
