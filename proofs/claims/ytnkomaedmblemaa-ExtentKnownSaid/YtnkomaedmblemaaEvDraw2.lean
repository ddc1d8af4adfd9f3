import Derived.Test.YtnkomaedmblemaaEvDraw1
import Derived.OrdersIn
set_option linter.unusedSimpArgs false
set_option linter.unusedVariables false
namespace Go.Ev

def Closed (all : List Oper) (D : Nat → Bool) : Prop := ∀ i o, all[i]? = some o → D i = true → ∀ e ∈ o.after.toList, Region.binds .any e = true → D e.on = true
def Deps (o : Oper) (D : Nat → Bool) : Prop := ∀ e ∈ o.after.toList, Region.binds .any e = true → D e.on = true

theorem testBit_ancs {o : Oper} {pre : List Ent} {j : Nat} (h : Nat.testBit (ancs o pre) j = true) : ∃ e ∈ o.after.toList, Region.binds .any e = true ∧ (e.on = j ∨ Nat.testBit (ancOf pre e.on) j = true) := by
  unfold ancs at h
  generalize o.after.toList = l at *
  induction l with
  | nil => exact absurd h (by simp [lrec])
  | cons e l ih =>
    rw [lrec_cons] at h
    split at h
    · next hb =>
      have h : Nat.testBit (((1 <<< e.on) ||| ancOf pre e.on) ||| _) j = true := h
      rw [Nat.testBit_or, Nat.testBit_or, Bool.or_eq_true, Bool.or_eq_true] at h
      rcases h with (h | h) | h
      · refine ⟨e, by simp, hb, .inl ?_⟩
        rw [Nat.testBit_shiftLeft] at h
        simp only [Bool.and_eq_true, decide_eq_true_eq, Nat.testBit_one_eq_true_iff_self_eq_zero] at h
        omega
      · exact ⟨e, by simp, hb, .inr h⟩
      · obtain ⟨e', he', h'⟩ := ih h
        exact ⟨e', by simp [he'], h'⟩
    · obtain ⟨e', he', h'⟩ := ih h
      exact ⟨e', by simp [he'], h'⟩

theorem ancOf_bit {pre : List Ent} {i j : Nat} (h : Nat.testBit (ancOf pre i) j = true) : ∃ y ∈ pre, y.1 = i ∧ Nat.testBit y.2.1 j = true := by
  induction pre with
  | nil => exact absurd h (by simp [ancOf, lrec])
  | cons y pre ih =>
    unfold ancOf at h
    rw [lrec_cons] at h
    split at h
    · next hb => exact ⟨y, by simp, Nat.eq_of_beq_eq_true hb, h⟩
    · obtain ⟨y', h1, h2⟩ := ih h
      exact ⟨y', by simp [h1], h2⟩

/-- What a set of bits stands for. -/
def AncP (all : List Oper) (x : Ent) : Prop := ∀ D, Closed all D → Deps x.2.2 D → ∀ j, Nat.testBit x.2.1 j = true → D j = true

theorem ancs_ok {all : List Oper} {pre : List Ent} (hpre : ∀ y ∈ pre, all[y.1]? = some y.2.2 ∧ AncP all y) {i : Nat} {o : Oper} : AncP all (i, ancs o pre, o) := by
  intro D hD hdep j hj
  obtain ⟨e, he, hb, h⟩ := testBit_ancs hj
  have hde := hdep e he hb
  rcases h with rfl | h
  · exact hde
  · obtain ⟨y, hy, hye, hyj⟩ := ancOf_bit h
    obtain ⟨h1, h2⟩ := hpre y hy
    exact h2 D hD (fun e' he' hb' => hD y.1 y.2.2 h1 (hye ▸ hde) e' he' hb') j hyj

structure OkPair (L : Lk) (all : List Oper) (y x : Ent) : Prop where
  ne : y.1 ≠ x.1
  apart : Nat.testBit x.2.1 y.1 = false → clash all y.2.2 x.2.2 = false
  mem : Nat.testBit x.2.1 y.1 = false → isHeavy L y.2.2 = true → isFree L x.2.2 = true

theorem okAt_ok {L : Lk} {all : List Oper} {x : Ent} {pre : List Ent} (h : okAt L all x pre = true) : ∀ y ∈ pre, OkPair L all y x := by
  induction pre with
  | nil => intro y hy; cases hy
  | cons z pre ih =>
    unfold okAt at h
    rw [lrec_cons, Bool.and_eq_true] at h
    intro y hy
    rcases List.mem_cons.1 hy with rfl | hy
    · obtain ⟨h1, _⟩ := h
      split at h1
      · cases h1
      · next hne =>
        refine ⟨Nat.ne_of_beq_eq_false hne, fun hf => ?_, fun hf hh => ?_⟩
        · rw [hf] at h1
          simp only [Bool.and_eq_true, Bool.not_eq_true'] at h1
          exact h1.1
        · rw [hf] at h1
          simp only [Bool.and_eq_true, Bool.not_eq_true', hh, Bool.true_and, Bool.not_eq_false'] at h1
          exact h1.2
    · exact ih h.2 y hy

theorem depsIn_ok {o : Oper} {pre : List Ent} (h : depsIn o pre = true) : ∀ e ∈ o.after.toList, Region.binds .any e = true → ∃ y ∈ pre, y.1 = e.on := by
  unfold depsIn at h
  generalize o.after.toList = l at *
  induction l with
  | nil => intro e he; cases he
  | cons z l ih =>
    rw [lrec_cons] at h
    intro e he hb
    rcases List.mem_cons.1 he with rfl | he
    · rw [hb] at h
      simp only [Bool.and_eq_true, List.any_eq_true] at h
      obtain ⟨⟨y, hy, hyb⟩, _⟩ := h
      exact ⟨y, hy, Nat.eq_of_beq_eq_true hyb⟩
    · split at h
      · simp only [Bool.and_eq_true] at h
        exact ih h.2 e he hb
      · exact ih h e he hb

theorem watched_of {L : Lk} {x y : Ent} {pre : List Ent} (hy : y ∈ pre) (hr : isRead L y.2.2 = true) (hb : Nat.testBit x.2.1 y.1 = false) : watched L x pre = true := by
  induction pre with
  | nil => cases hy
  | cons z pre ih =>
    unfold watched
    rw [lrec_cons, Bool.or_eq_true]
    rcases List.mem_cons.1 hy with rfl | hy
    · left; rw [hr, hb]; rfl
    · right; exact ih hy

theorem covers_ok {pl : List Ent} {n : Nat} (h : covers pl n = true) : ∀ i, i < n → ∃ y ∈ pl, y.1 = i := by
  induction n with
  | zero => intro i hi; omega
  | succ n ih =>
    have h' : ((pl.any fun y => Nat.beq y.1 n) && covers pl n) = true := h
    rw [Bool.and_eq_true, List.any_eq_true] at h'
    obtain ⟨⟨y, hy, hyb⟩, h2⟩ := h'
    intro i hi
    by_cases he : i = n
    · subst he; exact ⟨y, hy, Nat.eq_of_beq_eq_true hyb⟩
    · exact ih h2 i (by omega)

/-- One step of the one order in which a region is evaluated. -/
structure Stp where
  x : Ent
  pre : List Ent
  T : Tr AV
  H : AH
  v : AV
  H' : AH

def StepOk (L : Lk) (rec : Rec) (all : List Oper) (s : Stp) : Prop :=
  (wantedA all s.T s.x.2.2 = false ∧ s.v = .undef ∧ s.H' = s.H) ∨
  (wantedA all s.T s.x.2.2 = true ∧
    ((isHeavy L s.x.2.2 = false ∧ (∃ H2, evOper L rec s.T s.x.2.2 s.H = some (s.v, H2)) ∧ s.H' = s.H) ∨
     (isHeavy L s.x.2.2 = true ∧ watched L s.x s.pre = false ∧ evOper L rec s.T s.x.2.2 s.H = some (s.v, s.H')) ∨
     (isHeavy L s.x.2.2 = true ∧ far L s.T s.x s.pre = true ∧ evOper L rec s.T s.x.2.2 s.H = some (s.v, s.H')) ∨
     (isHeavy L s.x.2.2 = true ∧ watched L s.x s.pre = true ∧ ∃ H2, evOper L rec s.T s.x.2.2 { s.H with lo := s.H.next } = some (s.v, H2) ∧ s.H' = { H2 with lo := s.H.lo })))

inductive Chain (L : Lk) (rec : Rec) (all : List Oper) : List Ent → Tr AV → AH → List Stp → Tr AV → AH → Prop where
  | nil (pre T H) : Chain L rec all pre T H [] T H
  | cons {s : Stp} {ss : List Stp} {T1 : Tr AV} {H1 : AH} (h : StepOk L rec all s) (hr : Chain L rec all (s.x :: s.pre) (putT s.T s.x.2.2.dst s.v) s.H' ss T1 H1) : Chain L rec all s.pre s.T s.H (s :: ss) T1 H1

theorem evDraw_chain {L : Lk} {rec : Rec} {all : List Oper} (pl : List Ent) : ∀ (pre : List Ent) (T : Tr AV) (H : AH) (T1 : Tr AV) (H1 : AH), evDraw L rec all pl pre T H = some (T1, H1) →
    ∃ ss : List Stp, ss.map (·.x) = pl ∧ Chain L rec all pre T H ss T1 H1 := by
  induction pl with
  | nil => intro pre T H T1 H1 h; cases h; exact ⟨[], rfl, .nil _ _ _⟩
  | cons x pl ih =>
    intro pre T H T1 H1 h
    unfold evDraw at h
    rw [lrec_cons] at h
    have fin : ∀ v H', StepOk L rec all ⟨x, pre, T, H, v, H'⟩ → evDraw L rec all pl (x :: pre) (putT T x.2.2.dst v) H' = some (T1, H1) → ∃ ss : List Stp, ss.map (·.x) = x :: pl ∧ Chain L rec all pre T H ss T1 H1 := by
      intro v H' hs he
      obtain ⟨ss, e1, e2⟩ := ih _ _ _ _ _ he
      exact ⟨⟨x, pre, T, H, v, H'⟩ :: ss, by simp [e1], .cons (s := ⟨x, pre, T, H, v, H'⟩) hs e2⟩
    split at h
    · next hw => exact fin _ _ (.inl ⟨hw, rfl, rfl⟩) h
    · next hw =>
      split at h
      · next hh =>
        split at h
        · next r hr => exact fin _ _ (.inr ⟨hw, .inl ⟨hh, ⟨r.2, hr⟩, rfl⟩⟩) h
        · cases h
      · next hh =>
        split at h
        · next hwt =>
          split at h
          · next r hr => exact fin _ _ (.inr ⟨hw, .inr (.inl ⟨hh, hwt, hr⟩)⟩) h
          · cases h
        · next hwt =>
          split at h
          · next hf =>
            split at h
            · next r hr => exact fin _ _ (.inr ⟨hw, .inr (.inr (.inl ⟨hh, hf, hr⟩))⟩) h
            · cases h
          · split at h
            · next r hr => exact fin _ _ (.inr ⟨hw, .inr (.inr (.inr ⟨hh, hwt, r.2, hr, rfl⟩))⟩) h
            · cases h

/-- What is known of each step, and of each two. -/
structure Known1 (L : Lk) (rec : Rec) (all : List Oper) (s : Stp) : Prop where
  step : StepOk L rec all s
  op : all[s.x.1]? = some s.x.2.2
  anc : AncP all s.x
structure Known2 (L : Lk) (all : List Oper) (y s : Stp) : Prop where
  pair : OkPair L all y.x s.x
  watch : isRead L y.x.2.2 = true → Nat.testBit s.x.2.1 y.x.1 = false → watched L s.x s.pre = true

theorem annot_chain {L : Lk} {rec : Rec} {all : List Oper} (l : List Nat) : ∀ (pre : List Ent) (pl : List Ent) (T : Tr AV) (H : AH) (ss : List Stp) (T1 : Tr AV) (H1 : AH), annot L all l pre = some pl → ss.map (·.x) = pl → Chain L rec all pre T H ss T1 H1 →
    (∀ y ∈ pre, all[y.1]? = some y.2.2 ∧ AncP all y) →
    (∀ s ∈ ss, Known1 L rec all s) ∧ ss.Pairwise (Known2 L all) ∧ (∀ s ∈ ss, ∀ y ∈ pre, OkPair L all y s.x ∧ (isRead L y.2.2 = true → Nat.testBit s.x.2.1 y.1 = false → watched L s.x s.pre = true)) ∧
    (∀ a s b, ss = a ++ s :: b → ∀ e ∈ s.x.2.2.after.toList, Region.binds .any e = true → (∃ y ∈ pre, y.1 = e.on) ∨ ∃ y ∈ a, y.x.1 = e.on) := by
  induction l with
  | nil =>
    intro pre pl T H ss T1 H1 ha hm hc _
    cases ha
    have : ss = [] := List.map_eq_nil_iff.1 hm
    subst this
    exact ⟨fun _ h => (nomatch h), .nil, fun _ h => (nomatch h), fun a s b h => by simp at h⟩
  | cons i l ih =>
    intro pre pl T H ss T1 H1 ha hm hc hpre
    unfold annot at ha
    rw [lrec_cons] at ha
    split at ha
    · cases ha
    · next o ho =>
      rw [nth_eq] at ho
      split at ha
      · next hok =>
        rw [Bool.and_eq_true] at hok
        split at ha
        · next r hr =>
          cases ha
          cases hc with
          | nil => simp at hm
          | cons h hrest =>
            next s ss =>
            simp only [List.map_cons, List.cons.injEq] at hm
            obtain ⟨hx, hm⟩ := hm
            have hop : all[s.x.1]? = some s.x.2.2 := by rw [hx]; exact ho
            have hanc : AncP all s.x := by rw [hx]; exact ancs_ok hpre
            have hpair : ∀ y ∈ s.pre, OkPair L all y s.x := by
              have := hok.2
              rw [← hx] at this
              exact okAt_ok this
            have hdep : depsIn s.x.2.2 s.pre = true := by rw [hx]; exact hok.1
            rw [← hx] at hr
            obtain ⟨k1, k2, k3, k4⟩ := ih (s.x :: s.pre) r _ _ ss T1 H1 hr hm hrest (fun y hy => by
              rcases List.mem_cons.1 hy with rfl | hy
              · exact ⟨hop, hanc⟩
              · exact hpre y hy)
            refine ⟨fun s' hs' => ?_, ?_, fun s' hs' y hy => ?_, fun a s' b hab => ?_⟩
            · rcases List.mem_cons.1 hs' with rfl | hs'
              · exact ⟨h, hop, hanc⟩
              · exact k1 s' hs'
            · refine List.pairwise_cons.2 ⟨fun s' hs' => ?_, k2⟩
              have := k3 s' hs' s.x (by simp)
              exact ⟨this.1, this.2⟩
            · rcases List.mem_cons.1 hs' with rfl | hs'
              · exact ⟨hpair y hy, fun h1 h2 => watched_of hy h1 h2⟩
              · exact k3 s' hs' y (by simp [hy])
            · intro e he hb
              cases a with
              | nil =>
                simp only [List.nil_append, List.cons.injEq] at hab
                obtain ⟨rfl, rfl⟩ := hab
                exact .inl (depsIn_ok hdep e he hb)
              | cons z a =>
                simp only [List.cons_append, List.cons.injEq] at hab
                obtain ⟨rfl, hab⟩ := hab
                rcases k4 a s' b hab e he hb with ⟨y, hy, hye⟩ | ⟨y, hy, hye⟩
                · rcases List.mem_cons.1 hy with rfl | hy
                  · exact .inr ⟨s, by simp, hye⟩
                  · exact .inl ⟨y, hy, hye⟩
                · exact .inr ⟨y, by simp [hy], hye⟩
        · cases ha
      · cases ha
end Go.Ev
