import Derived.Test.YtnkomaedmblemaaEvDraw2
set_option linter.unusedSimpArgs false
set_option linter.unusedVariables false
namespace Go.Ev

noncomputable def TD (D : Nat → Bool) : List Stp → Tr AV → Tr AV
  | [], T => T
  | s :: ss, T => TD D ss (if D s.x.1 = true then putT T s.x.2.2.dst s.v else T)
noncomputable def HD (L : Lk) (D : Nat → Bool) : List Stp → AH → AH
  | [], H => H
  | s :: ss, H => HD L D ss (if D s.x.1 = true ∧ isHeavy L s.x.2.2 = true then s.H' else H)
abbrev tt : Nat → Bool := fun _ => true

theorem getT_putT (T : Tr AV) (d : Option Tmp) (v : AV) (t : Nat) : getT (putT T d v) t = if d = some t then v else getT T t := by
  cases d with
  | none => simp [putT]
  | some d =>
    show getT (T.set d v) t = _
    rw [getT_set]
    by_cases h : t = d
    · subst h; simp
    · rw [if_neg h, if_neg (by simp; exact fun e => h e.symm)]

theorem TD_append (D : Nat → Bool) (a b : List Stp) : ∀ T, TD D (a ++ b) T = TD D b (TD D a T) := by
  induction a with
  | nil => intro T; rfl
  | cons s a ih => intro T; exact ih _
theorem HD_append (L : Lk) (D : Nat → Bool) (a b : List Stp) : ∀ T, HD L D (a ++ b) T = HD L D b (HD L D a T) := by
  induction a with
  | nil => intro T; rfl
  | cons s a ih => intro T; exact ih _
theorem TD_same {D D' : Nat → Bool} {t : Nat} (ss : List Stp) : ∀ (T T' : Tr AV), (∀ s ∈ ss, D s.x.1 ≠ D' s.x.1 → s.x.2.2.dst ≠ some t) → getT T t = getT T' t → getT (TD D ss T) t = getT (TD D' ss T') t := by
  induction ss with
  | nil => intro T T' _ h; exact h
  | cons s ss ih =>
    intro T T' hs h
    refine ih _ _ (fun y hy => hs y (by simp [hy])) ?_
    have h0 := hs s (by simp)
    by_cases hd : s.x.2.2.dst = some t
    · have he : D s.x.1 = D' s.x.1 := by
        by_cases he : D s.x.1 = D' s.x.1
        · exact he
        · exact absurd hd (h0 he)
      rw [he]
      split
      · rw [getT_putT, getT_putT, if_pos hd, if_pos hd]
      · exact h
    · have k : ∀ (c : Prop) [Decidable c] (T : Tr AV), getT (if c then putT T s.x.2.2.dst s.v else T) t = getT T t := by
        intro c _ T
        split
        · rw [getT_putT, if_neg hd]
        · rfl
      rw [k, k, h]
theorem TD_none {D : Nat → Bool} {t : Nat} (ss : List Stp) : ∀ (T : Tr AV), (∀ s ∈ ss, D s.x.1 = true → s.x.2.2.dst ≠ some t) → getT (TD D ss T) t = getT T t := by
  induction ss with
  | nil => intro T _; rfl
  | cons s ss ih =>
    intro T hs
    refine (ih _ (fun y hy => hs y (by simp [hy]))).trans ?_
    split
    · next h => rw [getT_putT, if_neg (hs s (by simp) h)]
    · rfl
theorem HD_same {L : Lk} {D D' : Nat → Bool} (ss : List Stp) : ∀ (H : AH), (∀ s ∈ ss, isHeavy L s.x.2.2 = true → D s.x.1 = D' s.x.1) → HD L D ss H = HD L D' ss H := by
  induction ss with
  | nil => intro H _; rfl
  | cons s ss ih =>
    intro H hs
    show HD L D ss _ = HD L D' ss _
    rw [ih _ (fun y hy => hs y (by simp [hy]))]
    congr 1
    by_cases h : isHeavy L s.x.2.2 = true
    · rw [hs s (by simp) h]
    · rw [if_neg (fun hc => h hc.2), if_neg (fun hc => h hc.2)]
theorem HD_none {L : Lk} {D : Nat → Bool} (ss : List Stp) : ∀ (H : AH), (∀ s ∈ ss, isHeavy L s.x.2.2 = true → D s.x.1 = false) → HD L D ss H = H := by
  induction ss with
  | nil => intro H _; rfl
  | cons s ss ih =>
    intro H hs
    show HD L D ss _ = _
    rw [ih _ (fun y hy => hs y (by simp [hy])), if_neg]
    rintro ⟨h1, h2⟩
    rw [hs s (by simp) h2] at h1
    cases h1
theorem HD_light {L : Lk} {D : Nat → Bool} (ss : List Stp) (H : AH) (h : ∀ s ∈ ss, isHeavy L s.x.2.2 = false) : HD L D ss H = H := by
  have : HD L D ss H = HD L (fun _ => false) ss H := HD_same ss H fun s hs hh => by rw [h s hs] at hh; cases hh
  rw [this]
  exact HD_none ss H fun _ _ _ => rfl

theorem StepOk.light {L : Lk} {rec : Rec} {all : List Oper} {s : Stp} (h : StepOk L rec all s) (hl : isHeavy L s.x.2.2 = false) : s.H' = s.H := by
  rcases h with ⟨_, _, h⟩ | ⟨_, ⟨_, _, h⟩ | ⟨h, _⟩ | ⟨h, _⟩ | ⟨h, _⟩⟩
  · exact h
  · exact h
  · rw [hl] at h; cases h
  · rw [hl] at h; cases h
  · rw [hl] at h; cases h

theorem Chain.at {L : Lk} {rec : Rec} {all : List Oper} (a : List Stp) : ∀ {pre : List Ent} {T : Tr AV} {H : AH} {s : Stp} {b : List Stp} {T1 : Tr AV} {H1 : AH}, Chain L rec all pre T H (a ++ s :: b) T1 H1 →
    s.T = TD tt a T ∧ s.H = HD L tt a H := by
  induction a with
  | nil =>
    intro pre T H s b T1 H1 h
    cases h
    exact ⟨rfl, rfl⟩
  | cons y a ih =>
    intro pre T H s b T1 H1 h
    rw [List.cons_append] at h
    cases h with
    | cons h hr =>
      obtain ⟨e1, e2⟩ := ih hr
      refine ⟨e1, e2.trans ?_⟩
      show _ = HD L tt a _
      by_cases hh : isHeavy L y.x.2.2 = true
      · rw [if_pos ⟨rfl, hh⟩]
      · rw [if_neg (fun hc => hh hc.2), h.light (by simpa using hh)]
theorem Chain.pre {L : Lk} {rec : Rec} {all : List Oper} (a : List Stp) : ∀ {pre : List Ent} {T : Tr AV} {H : AH} {s : Stp} {b : List Stp} {T1 : Tr AV} {H1 : AH}, Chain L rec all pre T H (a ++ s :: b) T1 H1 →
    s.pre = (a.map (·.x)).reverse ++ pre := by
  induction a with
  | nil =>
    intro pre T H s b T1 H1 h
    cases h
    rfl
  | cons y a ih =>
    intro pre T H s b T1 H1 h
    rw [List.cons_append] at h
    cases h with
    | cons h hr => rw [ih hr]; simp
theorem Chain.end {L : Lk} {rec : Rec} {all : List Oper} (a : List Stp) : ∀ {pre : List Ent} {T : Tr AV} {H : AH} {T1 : Tr AV} {H1 : AH}, Chain L rec all pre T H a T1 H1 →
    T1 = TD tt a T ∧ H1 = HD L tt a H := by
  induction a with
  | nil =>
    intro pre T H T1 H1 h
    cases h
    exact ⟨rfl, rfl⟩
  | cons y a ih =>
    intro pre T H T1 H1 h
    cases h with
    | cons h hr =>
      obtain ⟨e1, e2⟩ := ih hr
      refine ⟨e1, e2.trans ?_⟩
      show _ = HD L tt a _
      by_cases hh : isHeavy L y.x.2.2 = true
      · rw [if_pos ⟨rfl, hh⟩]
      · rw [if_neg (fun hc => hh hc.2), h.light (by simpa using hh)]

theorem wantedA_congr {all : List Oper} {T T' : Tr AV} {o : Oper} (h : ∀ t ∈ looksT all o, getT T t = getT T' t) : wantedA all T o = wantedA all T' o := by
  unfold wantedA
  unfold looksT at h
  cases hg : o.guard with
  | none => rfl
  | some g =>
    obtain ⟨j, want⟩ := g
    rw [hg] at h
    simp only at h ⊢
    cases hn : nth all j with
    | none => rfl
    | some oj =>
      rw [hn] at h
      simp only at h ⊢
      cases hd : oj.dst with
      | none => rfl
      | some d =>
        rw [hd] at h
        have := h d (by simp)
        unfold getT at this
        simp only
        cases h1 : T.get d with
        | none =>
          cases h2 : T'.get d with
          | none => rfl
          | some v' => rw [h1, h2] at this; simp only [Option.getD_none, Option.getD_some] at this; rw [← this]; rfl
        | some v =>
          cases h2 : T'.get d with
          | none => rw [h1, h2] at this; simp only [Option.getD_none, Option.getD_some] at this; rw [this]; rfl
          | some v' => rw [h1, h2] at this; simp only [Option.getD_some] at this; rw [this]
theorem opds_looks {all : List Oper} {o : Oper} {t : Nat} (h : t ∈ opdTs (opOpds o.op)) : t ∈ looksT all o := by
  unfold looksT
  split
  · exact h
  · split
    · split
      · exact List.mem_cons_of_mem _ h
      · exact h
    · exact h
theorem has_ok {l : List Nat} {t : Nat} (h : t ∈ l) : has l t = true := by
  induction l with
  | nil => cases h
  | cons x l ih =>
    unfold has
    rw [lrec_cons]
    rcases List.mem_cons.1 h with rfl | h
    · simp
    · split
      · rfl
      · exact ih h
theorem clash_no {all : List Oper} {x y : Oper} (h : clash all x y = false) {t : Nat} : (x.dst = some t → t ∉ looksT all y) ∧ (y.dst = some t → t ∉ looksT all x) ∧ (x.dst = some t → y.dst ≠ some t) := by
  unfold clash at h
  simp only [Bool.or_eq_false_iff] at h
  obtain ⟨h1, h2, h3⟩ := h
  refine ⟨fun hx hm => ?_, fun hy hm => ?_, fun hx hy => ?_⟩
  · rw [hx] at h1; have := has_ok hm; simp only [dstIn] at h1; rw [this] at h1; cases h1
  · rw [hy] at h2; have := has_ok hm; simp only [dstIn] at h2; rw [this] at h2; cases h2
  · rw [hx, hy] at h3; simp [sameDst] at h3

/-- Is a block one that a reading step may need? -/
def Nd (r : Stp) (i : Nat) : Prop := ∀ t k i' o, r.x.2.2.op = .load t (.tmp k) → r.T.get k = some (.ptr i' o) → i = i'
def SubN (r : Stp) (H H' : AH) : Prop := ∀ i b, Nd r i → H.get i = some b → H'.get i = some b
theorem Sub.toN {r : Stp} {H H' : AH} (h : Sub H H') : SubN r H H' := fun i b _ hg => h i b hg
theorem SubN.trans {r : Stp} {H H1 H2 : AH} (h : SubN r H H1) (k : SubN r H1 H2) : SubN r H H2 := fun i b hn hg => k i b hn (h i b hn hg)
theorem read_anyN {L : Lk} {r : Stp} {H : AH} {nx : Next1} (hp : readOp r.x.2.2.op = true) (h : evOp L r.T r.x.2.2 H = some nx) :
    ∃ v, nx = .val v H ∧ ∀ H', SubN r H H' → evOp L r.T r.x.2.2 H' = some (.val v H') := by
  by_cases hx : ∃ t k i o, r.x.2.2.op = .load t (.tmp k) ∧ r.T.get k = some (.ptr i o)
  · obtain ⟨t, k, i, o, h1, h2⟩ := hx
    have ho : ∀ H', evOp L r.T r.x.2.2 H' = val1 (evLoad L t (.ptr i o) H') H' := fun H' => by
      unfold evOp
      rw [h1]
      simp only [opnd, h2]
    rw [ho] at h
    unfold val1 at h
    split at h
    · next v hv =>
      cases h
      refine ⟨v, rfl, fun H' hs => ?_⟩
      rw [ho]
      have : evLoad L t (.ptr i o) H' = some v := by
        have hrow : ∀ vs, H.row i = some vs → H'.row i = some vs := fun vs hr => by
          unfold AH.row at hr ⊢
          cases hg : H.get i with
          | none => rw [hg] at hr; cases hr
          | some b =>
            rw [hs i b (fun t' k' i' o' e1 e2 => by rw [h1] at e1; cases e1; rw [h2] at e2; cases e2; rfl) hg]
            rw [hg] at hr
            exact hr
        unfold evLoad at hv ⊢
        simp only at hv ⊢
        split at hv
        · split at hv
          · split at hv
            · next l hl =>
              cases hv
              have : H'.read i o ‹Nat› = some l := by
                unfold AH.read at hl ⊢
                cases hr : H.row i with
                | none => rw [hr] at hl; cases hl
                | some vs => rw [hr] at hl; rw [hrow vs hr]; exact hl
              rw [this]
            · cases hv
          · cases hv
        · unfold AH.read1 at hv ⊢
          cases hr : H.row i with
          | none => rw [hr] at hv; cases hv
          | some vs => rw [hr] at hv; rw [hrow vs hr]; exact hv
        · cases hv
      rw [this]; rfl
    · cases h
  · obtain ⟨v, h1, h2⟩ := read_any hp h
    refine ⟨v, h1, fun H' hs => h2 H' fun i b hg => hs i b (fun t k i' o e1 e2 => absurd ⟨t, k, i', o, e1, e2⟩ hx) hg⟩

theorem farAux_cons (L : Lk) (x : Ent) (j : Nat) (T : Tr AV) (y : Ent) (pre : List Ent) (ds : List Nat) : farAux L x j T (y :: pre) ds = (match isRead L y.2.2 && !Nat.testBit x.2.1 y.1 with
    | false => farAux L x j T pre (match y.2.2.dst with | some d => d :: ds | none => ds)
    | true => (match y.2.2.op with
      | .load _ (.tmp k) => (match has (match y.2.2.dst with | some d => d :: ds | none => ds) k with
        | true => false
        | false => (match T.get k with
          | some (.ptr i _) => (match Nat.beq i j with | true => false | false => farAux L x j T pre (match y.2.2.dst with | some d => d :: ds | none => ds))
          | _ => false))
      | _ => false)) := rfl
theorem farAux_ok {L : Lk} {x : Ent} {j : Nat} {T : Tr AV} (pre : List Ent) : ∀ ds, farAux L x j T pre ds = true → ∀ p1 y p2, pre = p1 ++ y :: p2 → isRead L y.2.2 = true → Nat.testBit x.2.1 y.1 = false →
    ∃ t k i o, y.2.2.op = .load t (.tmp k) ∧ T.get k = some (.ptr i o) ∧ i ≠ j ∧ ∀ z ∈ p1 ++ [y], z.2.2.dst ≠ some k := by
  induction pre with
  | nil => intro ds _ p1 y p2 h; simp at h
  | cons z pre ih =>
    intro ds h p1 y p2 he hr hb
    have key : ∀ (pre : List Ent) (ds : List Nat), farAux L x j T pre ds = true → ∀ p1 y p2, pre = p1 ++ y :: p2 → isRead L y.2.2 = true → Nat.testBit x.2.1 y.1 = false → ∀ t k, y.2.2.op = .load t (.tmp k) → k ∉ ds := by
      intro pre
      induction pre with
      | nil => intro ds _ p1 y p2 h; simp at h
      | cons z pre ih2 =>
        intro ds h p1 y p2 he hr hb t k hop hk
        rw [farAux_cons] at h
        have sub : ∀ d : Option Tmp, k ∈ (match d with | some d => d :: ds | none => ds) := fun d => by cases d <;> simp [hk]
        cases p1 with
        | nil =>
          simp only [List.nil_append, List.cons.injEq] at he
          obtain ⟨rfl, rfl⟩ := he
          rw [hr, hb] at h
          simp only [Bool.not_false, Bool.and_self, hop] at h
          rw [has_ok (sub _)] at h
          cases h
        | cons q p1 =>
          simp only [List.cons_append, List.cons.injEq] at he
          obtain ⟨rfl, rfl⟩ := he
          split at h
          · exact ih2 _ h p1 y p2 rfl hr hb t k hop (sub _)
          · split at h
            · split at h
              · cases h
              · split at h
                · split at h
                  · cases h
                  · exact ih2 _ h p1 y p2 rfl hr hb t k hop (sub _)
                · cases h
            · cases h
    have hall := key _ _ h p1 y p2 he hr hb
    rw [farAux_cons] at h
    cases p1 with
    | nil =>
      simp only [List.nil_append, List.cons.injEq] at he
      obtain ⟨rfl, rfl⟩ := he
      rw [hr, hb] at h
      simp only [Bool.not_false, Bool.and_self] at h
      split at h
      · next t k hop =>
        split at h
        · cases h
        · next hno =>
          split at h
          · next i o hg =>
            split at h
            · cases h
            · next hij =>
              refine ⟨t, k, i, o, hop, hg, Nat.ne_of_beq_eq_false hij, fun z hz hd => ?_⟩
              simp only [List.nil_append, List.mem_singleton] at hz
              subst hz
              rw [hd] at hno
              rw [has_ok (List.mem_cons_self)] at hno
              cases hno
          · cases h
      · cases h
    | cons q p1 =>
      simp only [List.cons_append, List.cons.injEq] at he
      obtain ⟨rfl, rfl⟩ := he
      have go : ∀ ds', (∀ d, z.2.2.dst = some d → d ∈ ds') → farAux L x j T (p1 ++ y :: p2) ds' = true → ∃ t k i o, y.2.2.op = .load t (.tmp k) ∧ T.get k = some (.ptr i o) ∧ i ≠ j ∧ ∀ q ∈ (z :: p1) ++ [y], q.2.2.dst ≠ some k := by
        intro ds' hds hf
        obtain ⟨t, k, i, o, h1, h2, h3, h4⟩ := ih ds' hf p1 y p2 rfl hr hb
        refine ⟨t, k, i, o, h1, h2, h3, fun q hq hd => ?_⟩
        rcases List.mem_cons.1 hq with rfl | hq
        · exact key _ ds' hf p1 y p2 rfl hr hb t k h1 (hds k hd)
        · exact h4 q hq hd
      have hds : ∀ d, z.2.2.dst = some d → d ∈ (match z.2.2.dst with | some d => d :: ds | none => ds) := fun d hd => by rw [hd]; simp
      split at h
      · exact go _ hds h
      · split at h
        · split at h
          · cases h
          · split at h
            · split at h
              · cases h
              · exact go _ hds h
            · cases h
        · cases h
theorem far_ok {L : Lk} {T : Tr AV} {x : Ent} {pre : List Ent} (h : far L T x pre = true) : ∃ t k v j o, x.2.2.op = .store t (.tmp k) v ∧ T.get k = some (.ptr j o) ∧ ∀ p1 y p2, pre = p1 ++ y :: p2 → isRead L y.2.2 = true → Nat.testBit x.2.1 y.1 = false →
    ∃ t k i o, y.2.2.op = .load t (.tmp k) ∧ T.get k = some (.ptr i o) ∧ i ≠ j ∧ ∀ z ∈ p1 ++ [y], z.2.2.dst ≠ some k := by
  unfold far at h
  split at h
  · next t k v hop =>
    split at h
    · next j o hg => exact ⟨t, k, v, j, o, hop, hg, farAux_ok pre [] h⟩
    · cases h
  · cases h
/-- A store changes one block alone. -/
theorem store_other {L : Lk} {rec : Rec} {T : Tr AV} {o : Oper} {H : AH} {r : AV × AH} {t : TypeId} {k j off : Nat} {v : Operand} (hop : o.op = .store t (.tmp k) v) (hg : T.get k = some (.ptr j off)) (h : evOper L rec T o H = some r)
    {i : Nat} (hi : i ≠ j) : r.2.get i = H.get i := by
  unfold evOper evOp at h
  rw [hop] at h
  simp only [opnd, hg] at h
  cases hv : opnd T v with
  | none => simp only [opnd] at hv; simp only [hv] at h; cases h
  | some u =>
    have hv' := hv
    simp only [opnd] at hv'
    simp only [hv'] at h
    unfold unit1 evStore at h
    simp only at h
    split at h
    · cases h
    · next nx hnx =>
      split at hnx
      · next H' hs =>
        cases hnx
        simp only [Option.some.injEq] at h
        subst h
        split at hs
        · split at hs
          · unfold AH.write at hs
            split at hs
            · cases hs
            · split at hs
              · split at hs
                · cases hs
                · split at hs
                  · cases hs
                  · split at hs
                    · cases hs
                      show (H.put j _).get i = _
                      unfold AH.get AH.put
                      show (match H.vis i with | true => (H.tree.set j _).get i | false => none) = _
                      rw [Tr.get_set_ne _ _ hi]; rfl
                    · cases hs
              · cases hs
          · cases hs
        · cases hs
      · cases hnx

theorem relo {E E1 : Env} {H H2 : AH} {w w1 : World} (hw : H.Wf) (hp : Post E { H with lo := H.next } w E1 H2 w1) (h2 : H2.Wf) :
    Post E H w E1 { H2 with lo := H.lo } w1 ∧ ({ H2 with lo := H.lo } : AH).Wf ∧ Sub H { H2 with lo := H.lo } := by
  have hk : ∀ i, i < H.next → H2.tree.get i = H.tree.get i := fun i hi => hp.keep i (.inl hi)
  have hv : ∀ i, H2.vis i = H.vis i := vis_of hp.hide
  have hsub : ∀ i b, H.get i = some b → H2.get i = some b := fun i b hg => by
    have hlt := hw.get_lt hg
    rw [AH.get_some] at hg ⊢
    rw [hv, hk i hlt]
    exact hg
  refine ⟨⟨hp.ext, hp.next, rfl, hp.hide, hp.tape, hp.os, hp.output, hp.size, fun c hc hn => ?_, fun c ho => ?_, fun i hi => ?_, hp.loops, hp.froz⟩, ⟨h2.tree, ?_, h2.hide⟩, hsub⟩
  · refine hp.frame c hc fun ho => hn ?_
    obtain ⟨i, b, hg, hb, hlo, he⟩ := ho
    exact ⟨i, b, hg, hb, Nat.le_trans hw.lo hlo, he⟩
  · obtain ⟨i, b, hg, hb, hlo, he⟩ := ho
    have hg : H2.get i = some b := hg
    by_cases hi : i < H.next
    · left
      refine ⟨i, b, ?_, hb, hlo, ?_⟩
      · rw [AH.get_some] at hg ⊢
        rw [hv, hk i hi] at hg
        exact hg
      · rw [← he, hp.ext i hi]
    · rcases hp.own c ⟨i, b, hg, hb, by rw [hp.lo]; exact Nat.le_of_not_lt hi, he⟩ with ho | ho
      · obtain ⟨i', b', hg', hb', hlo', he'⟩ := ho
        exact .inl ⟨i', b', hg', hb', Nat.le_trans hw.lo hlo', he'⟩
      · exact .inr ho
  · refine hp.keep i ?_
    rcases hi with hi | hi
    · exact .inl (Nat.lt_of_lt_of_le hi hw.lo)
    · exact .inr hi
  · exact Nat.le_trans hw.lo hp.next
theorem St.relo {B : Nat} {E : Env} {H : AH} {w : World} (h : St B E H w) (n : Nat) : St B E { H with lo := n } w := fun E' hE =>
  ⟨(h E' hE).blk, (h E' hE).inj, (h E' hE).base, (h E' hE).size⟩
end Go.Ev
