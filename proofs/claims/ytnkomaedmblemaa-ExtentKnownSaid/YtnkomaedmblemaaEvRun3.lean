import Derived.Test.YtnkomaedmblemaaEvRun2
import Derived.LoopNIn
set_option linter.unusedSimpArgs false
set_option linter.unusedVariables false
namespace Go.Ev

def mark (r : Nat) : Deferred := { target := .collected r, args := #[] }
/-- The marks among an activation's deferred calls: blocks that nobody touches. -/
def DefOk (N : Nat) (E : Env) (H : AH) (w : World) (ds : List Deferred) : Prop :=
  ∃ rs : List Nat, ds = rs.map mark ∧ rs.Nodup ∧ ∀ r ∈ rs, N ≤ r ∧ r < w.heap.size ∧ w.heap[r]? = some (.deferred (some [])) ∧ ¬ Own E H r
theorem DefOk.nil (N : Nat) (E : Env) (H : AH) (w : World) : DefOk N E H w [] := ⟨[], rfl, List.nodup_nil, fun _ h => by cases h⟩
theorem DefOk.post {N : Nat} {E E1 : Env} {H H1 : AH} {w w1 : World} {ds : List Deferred} (h : DefOk N E H w ds) (hp : Post E H w E1 H1 w1) : DefOk N E1 H1 w1 ds := by
  obtain ⟨rs, he, hn, hr⟩ := h
  refine ⟨rs, he, hn, fun r hm => ?_⟩
  obtain ⟨h0, h1, h2, h3⟩ := hr r hm
  refine ⟨h0, Nat.lt_of_lt_of_le h1 hp.size, (hp.frame r h1 h3).trans h2, fun ho => ?_⟩
  rcases hp.own r ho with h | h
  · exact h3 h
  · omega

inductive ExR : Ex → Exit → Prop where
  | normal : ExR .normal .normal
  | exit (id : Nat) : ExR (.exit id) (.exit id)
  | ret : ExR .ret .ret
  | goto (l : Nat) : ExR (.goto l) (.goto l)

/-- What holds behind a piece of code. -/
structure Behind (B N : Nat) (E : Env) (H : AH) (w : World) (a : Act) (out : Out) (e : Exit) (a1 : Act) (w1 : World) : Prop where
  intro ::
  env : ∃ E1, St B E1 out.H w1 ∧ StT E1 out.H.next out.T a1.tmps ∧ Post E H w E1 out.H w1 ∧ DefOk N E1 out.H w1 a1.defers
  wf : out.H.Wf
  ex : ExR out.ex e
  size : a1.tmps.size = a.tmps.size

structure Ahead (B : Nat) (F : Fence) (N : Nat) (E : Env) (T : Tr AV) (H : AH) (w : World) (a : Act) : Prop where
  wf : H.Wf
  st : St B E H w
  tmps : StT E H.next T a.tmps
  defs : DefOk N E H w a.defers
  base : N ≤ w.heap.size
  rnd : ∀ l, F.round = some l → ∃ r : Loop, w.heap[l]? = some (Obj.loop r)

theorem Behind.trans {B N : Nat} {E E1 : Env} {H H1 : AH} {w w1 : World} {a a1 : Act} {out : Out} {e : Exit} {a2 : Act} {w2 : World}
    (hp : Post E H w E1 H1 w1) (hs : a1.tmps.size = a.tmps.size) (h : Behind B N E1 H1 w1 a1 out e a2 w2) : Behind B N E H w a out e a2 w2 := by
  obtain ⟨⟨E2, h1, h2, h3, h4⟩, h5, h6, h7⟩ := h
  exact ⟨⟨E2, h1, h2, hp.trans h3, h4⟩, h5, h6, h7.trans hs⟩

structure CodeRec (P : Program) (B m : Nat) (rec : Rec) : Prop extends RecOk P B rec where
  loop : ∀ body T H out, rec (.loop body T H) = some out → ∀ F, Open F → ∀ N n, wfC n body = true → ∀ E w a, Ahead B F N E T H w a → n ≤ a.tmps.size → ∀ Q,
    (∀ e a1 w1, Behind B N E H w a out e a1 w1 → Q e a1 w1) → Code.roundsIn F 0 P body Q m a w
  range : ∀ g ps assign body T H out, rec (.range g ps.toList assign body T H) = some out → ∀ F, Open F → ∀ N n, (∀ d ∈ ps.toList, d < n) → wfC n assign = true → wfC n body = true → ∀ x E w a, Ahead B F N E T H w a → n ≤ a.tmps.size →
    StV E H.next g (a.eval x) → ∀ Q, (∀ e a1 w1, Behind B N E H w a out e a1 w1 → Q e a1 w1) → (Code.rangeFunc x ps assign body).wpIn F 0 P Q a w

section
variable {L : Lk} {P : Program} {B : Nat} {rec : Rec} {F : Fence}

theorem stepR_scope {b : Frame} {a : Act} {k : List Item} {cs : List Frame} {w : World} {c : Code} : step P (lone (b.atR a (.code (.scope c) :: k)) cs w) = .next (lone (b.atR a (.code c :: .inScope c :: k)) cs w) :=
  step_lone_go (by simp [stepG, stepG.exec, Frame.atR])
theorem stepR_inScope {b : Frame} {a : Act} {k : List Item} {cs : List Frame} {w : World} {c : Code} : step P (lone (b.atR a (.inScope c :: k)) cs w) = .next (lone (b.atR a k) cs w) :=
  step_lone_go (by simp [stepG, stepG.exec, Frame.atR])
def noGoto (Q : Exit → Act → World → Prop) : Exit → Act → World → Prop
  | .goto _, _, _ => False
  | e, a, w => Q e a w
theorem wpIn_scope {n : Nat} {Q : Exit → Act → World → Prop} {a : Act} {w : World} {c : Code} (h : c.wpIn F n P (noGoto Q) a w) : (Code.scope c).wpIn F n P Q a w := by
  intro b k cs hro hb hr
  have h0 : (lone (b.atR a (.code (.scope c) :: k)) cs w).fenced P F := fenced_calm hb hr rfl
  obtain ⟨e, a₁, w₁, hq, harr⟩ := h b (.inScope c :: k) cs hro hb hr
  cases e with
  | normal => exact ⟨.normal, a₁, w₁, hq, .head h0 stepR_scope (StepsIn.trans harr (.one (fenced_calm hb hr rfl) stepR_inScope))⟩
  | exit id =>
    have hx : exitTo id (.inScope c :: k) = exitTo id k := by simp [exitTo]
    exact ⟨.exit id, a₁, w₁, hq, fun k' hk => .head h0 stepR_scope (harr.1 k' (by rw [hx]; exact hk)),
      fun hr' hk => let ⟨k₁, h1, h2⟩ := harr.2 hr' (by rw [hx]; exact hk); ⟨k₁, h1, .head h0 stepR_scope h2⟩⟩
  | goto l => exact hq.elim
  | ret => exact ⟨_, a₁, w₁, hq, .of_steps (.one h0 stepR_scope) harr⟩
  | panic ch => exact ⟨_, a₁, w₁, hq, .of_steps (.one h0 stepR_scope) harr⟩
  | outgrown => exact ⟨_, a₁, w₁, hq, .of_steps (.one h0 stepR_scope) harr⟩

theorem evRegion_ok (hL : LOk0 L P) (hm : P.follows .mixedOrders = true) (hr : RecOk P B rec) (hF : Open F) {id : Nat} {ops : Array Oper} {draw : Bool} {T : Tr AV} {H : AH} {T1 : Tr AV} {H1 : AH} (h : evRegion L rec ops.toList draw T H = some (T1, H1))
    {n : Nat} (hwf : wfOps n ops = true) {N : Nat} {E : Env} {w : World} {a : Act} (hA : Ahead B F N E T H w a) (hn : n ≤ a.tmps.size) {Q : Exit → Act → World → Prop} (hQ : ∀ e a1 w1, Behind B N E H w a ⟨.normal, T1, H1⟩ e a1 w1 → Q e a1 w1) :
    (Code.region id ops draw).wpIn F 0 P Q a w := by
  have hd : ∀ o ∈ ops.toList, ∀ d, o.dst = some d → d < a.tmps.size := by
    intro o ho d hod
    unfold wfOps at hwf
    have := List.all_eq_true.1 hwf o ho
    rw [hod] at this
    have h2 : d + 1 ≤ n := Nat.le_of_ble_eq_true this
    exact Nat.lt_of_lt_of_le h2 hn
  have fin : ∀ E1 a1 w1, St B E1 H1 w1 → StT E1 H1.next T1 a1.tmps → Post E H w E1 H1 w1 → H1.Wf → a1.tmps.size = a.tmps.size → a1.defers = a.defers → Q .normal a1 w1 := fun E1 a1 w1 h1 h2 h3 h4 h5 h6 =>
    hQ _ _ _ ⟨⟨E1, h1, h2, h3, by rw [h6]; exact hA.defs.post h3⟩, h4, .normal, h5⟩
  unfold evRegion at h
  split at h
  · refine wpIn_region ?_
    rw [List.range_eq_range', ← Array.length_toList]
    exact evOps_ok hL hr hF ops ops.toList 0 (fun j => by simp) T H T1 H1 h E w a hA.wf hA.st hA.tmps hd Q fin
  · split at h
    · next pl hpl =>
      refine wpIn_region_draw fun t => ?_
      exact evDraw_ok hL hm hr hF ops hpl h E w a hA.wf hA.st hA.tmps hd Q fin t
    · cases h

theorem evCode_ok (hL : LOk0 L P) (hm : P.follows .mixedOrders = true) {m : Nat} (hr : CodeRec P B m rec) (n : Nat) (c : Code) : ∀ (F : Fence), Open F → ∀ (T : Tr AV) (H : AH) (out : Out), evCode L rec c T H = some out → wfC n c = true → ∀ (N : Nat) (E : Env) (w : World) (a : Act), Ahead B F N E T H w a → n ≤ a.tmps.size → ∀ (Q : Exit → Act → World → Prop),
    (∀ e a1 w1, Behind B N E H w a out e a1 w1 → Q e a1 w1) → c.wpIn F 0 P Q a w := by
  induction c with
  | skip =>
    intro F hF T H out h _ N E w a hA _ Q hQ
    cases h
    exact wpIn_skip (hQ _ _ _ ⟨⟨E, hA.st, hA.tmps, Post.refl _ _ _, hA.defs⟩, hA.wf, .normal, rfl⟩)
  | region id ops draw =>
    intro F hF T H out h hwf N E w a hA hn Q hQ
    have h' : (match evRegion L rec ops.toList draw T H with | some r => some (⟨.normal, r.1, r.2⟩ : Out) | none => none) = some out := h
    split at h'
    · next r hr' => cases h'; exact evRegion_ok hL hm hr.toRecOk hF hr' hwf hA hn hQ
    · cases h'
  | seq x y ihx ihy =>
    intro F hF T H out h hwf N E w a hA hn Q hQ
    simp only [wfC, Bool.and_eq_true] at hwf
    have h' : (match evCode L rec x T H with | some o => (match o.ex with | .normal => evCode L rec y o.T o.H | _ => some o) | none => none) = some out := h
    split at h'
    · next o ho =>
      refine wpIn_seq (ihx F hF T H o ho hwf.1 N E w a hA hn _ fun e a1 w1 hb => ?_)
      obtain ⟨⟨E1, h1, h2, h3, h4⟩, h5, h6, h7⟩ := hb
      generalize hex : o.ex = ex at h' h6
      cases h6 with
      | normal => exact ihy F hF o.T o.H out h' hwf.2 N E1 w1 a1 ⟨h5, h1, h2, h4, Nat.le_trans hA.base h3.size, fun l hl => let ⟨r, hr⟩ := hA.rnd l hl; h3.loops l r hr⟩ (by omega) Q fun e2 a2 w2 hb2 => hQ e2 a2 w2 (hb2.trans h3 h7)
      | exit id => cases h'; exact hQ _ _ _ ⟨⟨E1, h1, h2, h3, h4⟩, h5, by rw [hex]; exact .exit id, h7⟩
      | ret => cases h'; exact hQ _ _ _ ⟨⟨E1, h1, h2, h3, h4⟩, h5, by rw [hex]; exact .ret, h7⟩
      | goto l => cases h'; exact hQ _ _ _ ⟨⟨E1, h1, h2, h3, h4⟩, h5, by rw [hex]; exact .goto l, h7⟩
    · cases h'
  | cond x y z ihy ihz =>
    intro F hF T H out h hwf N E w a hA hn Q hQ
    simp only [wfC, Bool.and_eq_true] at hwf
    have h' : (match opnd T x with | some (.bool true) => evCode L rec y T H | some (.bool false) => evCode L rec z T H | _ => none) = some out := h
    split at h'
    · next hx => exact wpIn_cond_true (by rw [opnd_ok (hA.tmps E (Agree.refl _ _)) hx]; rfl) (ihy F hF T H out h' hwf.1 N E w a hA hn Q hQ)
    · next hx => exact wpIn_cond_false (by rw [opnd_ok (hA.tmps E (Agree.refl _ _)) hx]; rfl) (ihz F hF T H out h' hwf.2 N E w a hA hn Q hQ)
    · cases h'
  | block id x ih =>
    intro F hF T H out h hwf N E w a hA hn Q hQ
    have h' : (match evCode L rec x T H with
      | some o => (match o.ex with | .exit i => (match Nat.beq i id with | true => some (⟨.normal, o.T, o.H⟩ : Out) | false => some o) | _ => some o)
      | none => none) = some out := h
    split at h'
    · next o ho =>
      refine wpIn_block (ih F hF T H o ho hwf N E w a hA hn _ fun e a1 w1 hb => ?_)
      obtain ⟨⟨E1, h1, h2, h3, h4⟩, h5, h6, h7⟩ := hb
      generalize hex : o.ex = ex at h' h6
      cases h6 with
      | normal => cases h'; exact hQ _ _ _ ⟨⟨E1, h1, h2, h3, h4⟩, h5, by rw [hex]; exact .normal, h7⟩
      | exit i =>
        simp only at h'
        show if i = id then Q .normal a1 w1 else Q (.exit i) a1 w1
        split at h'
        · next hb => cases h'; rw [if_pos (Nat.eq_of_beq_eq_true hb)]; exact hQ _ _ _ ⟨⟨E1, h1, h2, h3, h4⟩, h5, .normal, h7⟩
        · next hb => cases h'; rw [if_neg (Nat.ne_of_beq_eq_false hb)]; exact hQ _ _ _ ⟨⟨E1, h1, h2, h3, h4⟩, h5, by rw [hex]; exact .exit i, h7⟩
      | ret => cases h'; exact hQ _ _ _ ⟨⟨E1, h1, h2, h3, h4⟩, h5, by rw [hex]; exact .ret, h7⟩
      | goto l => cases h'; exact hQ _ _ _ ⟨⟨E1, h1, h2, h3, h4⟩, h5, by rw [hex]; exact .goto l, h7⟩
    · cases h'
  | loop x ih =>
    intro F hF T H out h hwf N E w a hA hn Q hQ
    exact wpIn_loop_rounds m (hr.loop x T H out h F hF N n hwf E w a hA hn Q hQ)
  | rangeFunc f ps as bd _ _ =>
    intro F hF T H out h hwf N E w a hA hn Q hQ
    simp only [wfC, Bool.and_eq_true] at hwf
    have h' : (match opnd T f with | some g => rec (.range g ps.toList as bd T H) | none => none) = some out := h
    split at h'
    · next g hg =>
      exact hr.range g ps as bd T H out h' F hF N n (fun d hd => Nat.le_of_ble_eq_true (List.all_eq_true.1 hwf.1.1 d hd)) hwf.1.2 hwf.2 f E w a hA hn (opnd_st hA.tmps hg) Q hQ
    · cases h'
  | exit id =>
    intro F hF T H out h _ N E w a hA _ Q hQ
    cases h
    exact wpIn_exit (hQ _ _ _ ⟨⟨E, hA.st, hA.tmps, Post.refl _ _ _, hA.defs⟩, hA.wf, .exit id, rfl⟩)
  | scope x ih =>
    intro F hF T H out h hwf N E w a hA hn Q hQ
    have h' : (match evCode L rec x T H with | some o => (match o.ex with | .goto _ => none | _ => some o) | none => none) = some out := h
    split at h'
    · next o ho =>
      refine wpIn_scope (ih F hF T H o ho hwf N E w a hA hn _ fun e a1 w1 hb => ?_)
      obtain ⟨⟨E1, h1, h2, h3, h4⟩, h5, h6, h7⟩ := hb
      generalize hex : o.ex = ex at h' h6
      cases h6 with
      | normal => cases h'; exact hQ _ _ _ ⟨⟨E1, h1, h2, h3, h4⟩, h5, by rw [hex]; exact .normal, h7⟩
      | exit i => cases h'; exact hQ _ _ _ ⟨⟨E1, h1, h2, h3, h4⟩, h5, by rw [hex]; exact .exit i, h7⟩
      | ret => cases h'; exact hQ _ _ _ ⟨⟨E1, h1, h2, h3, h4⟩, h5, by rw [hex]; exact .ret, h7⟩
      | goto l => cases h'
    · cases h'
  | label l =>
    intro F hF T H out h _ N E w a hA _ Q hQ
    cases h
    exact wpIn_label (hQ _ _ _ ⟨⟨E, hA.st, hA.tmps, Post.refl _ _ _, hA.defs⟩, hA.wf, .normal, rfl⟩)
  | goto l =>
    intro F hF T H out h _ N E w a hA _ Q hQ
    cases h
    exact wpIn_goto (hQ _ _ _ ⟨⟨E, hA.st, hA.tmps, Post.refl _ _ _, hA.defs⟩, hA.wf, .goto l, rfl⟩)
  | ret =>
    intro F hF T H out h _ N E w a hA _ Q hQ
    cases h
    exact wpIn_ret (hQ _ _ _ ⟨⟨E, hA.st, hA.tmps, Post.refl _ _ _, hA.defs⟩, hA.wf, .ret, rfl⟩)
  | refuse s => intro F hF T H out h; cases h
end
end Go.Ev
