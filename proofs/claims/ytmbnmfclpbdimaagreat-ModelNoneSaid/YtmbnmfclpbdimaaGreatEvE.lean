import Derived.Test.YtmbnmfclpbdimaaGreatEvD
import Derived.LoopNIn
import Derived.RangeFuncNested
import Derived.RecoverIn
import Derived.RowKit3
set_option linter.unusedSimpArgs false
set_option linter.unusedVariables false
namespace Go.Ev
section
variable {L : Lk} {P : Program} {B : Nat} {rec : Rec} {F : Fence}

structure Inv (L : Lk) (B : Nat) (all : List Oper) (T : Tr AV) (H : AH) (ss : List Stp) (E0 : Env) (w0 : World) (a0 : Act) (D : Nat → Bool) (E : Env) (w : World) (a : Act) : Prop where
  closed : Closed all D
  st : St B E (HD L D ss H) w
  wf : (HD L D ss H).Wf
  tmps : StT E (HD L D ss H).next (TD D ss T) a.tmps
  post : Post E0 H w0 E (HD L D ss H) w
  size : a.tmps.size = a0.tmps.size
  defs : a.defers = a0.defers
  mono : Mono L H ss D

theorem StT.congr {E : Env} {n : Nat} {T T' : Tr AV} {tmps : Array Value} (h : StT E n T tmps) (he : ∀ t, getT T' t = getT T t) : StT E n T' tmps := by
  intro E' hE t
  rw [he t]
  exact h E' hE t

theorem evOper_congr {T T' : Tr AV} {all : List Oper} {o : Oper} {H : AH} (h : ∀ t ∈ looksT all o, getT T t = getT T' t) : evOper L rec T o H = evOper L rec T' o H := by
  unfold evOper
  rw [evOp_congr (L := L) (T := T) (T' := T') (o := o) (H := H) fun t ht => h t (opds_looks ht)]

theorem draw_step (hL : LOk0 L P) (hr : RecOk P B rec) (hF : Open F) {ops : Array Oper} {T T1 : Tr AV} {H H1 : AH} {ss a b : List Stp} {s : Stp} {D : Nat → Bool} {E0 E : Env} {w0 w : World} {a0 act : Act} {Q : Exit → Act → World → Prop}
    (hAt : At L rec ops.toList T H ss T1 H1 D a s b) (hI : Inv L B ops.toList T H ss E0 w0 a0 D E w act) (hd : ∀ o ∈ ops.toList, ∀ d, o.dst = some d → d < a0.tmps.size) {K : Act → World → Prop}
    (hK : ∀ E2 w2 a2, Inv L B ops.toList T H ss E0 w0 a0 (ins D s.x.1) E2 w2 a2 → K a2 w2) : wpOpIn F 0 P ops Q s.x.1 K act w := by
  have h0 : ops[s.x.1]? = some s.x.2.2 := by have := hAt.k1.op; simpa using this
  have hdo : ∀ d, s.x.2.2.dst = some d → d < act.tmps.size := fun d hdd => by
    rw [hI.size]; exact hd _ (List.mem_of_getElem? hAt.k1.op) d hdd
  unfold wpOpIn
  simp only [h0]
  rw [wanted_ok (hI.tmps E (Agree.refl _ _)) ops s.x.2.2, wantedA_congr (all := ops.toList) fun t ht => hAt.looks ht]
  have hlk : ∀ t ∈ looksT ops.toList s.x.2.2, getT (TD D ss T) t = getT s.T t := fun t ht => hAt.looks ht
  -- where the operation leaves the heap as the one order says
  have fin : ∀ (u : Value) (E2 : Env) (w2 : World), St B E2 (HD L (ins D s.x.1) ss H) w2 → (HD L (ins D s.x.1) ss H).Wf → StV E2 (HD L (ins D s.x.1) ss H).next s.v u → Post E (HD L D ss H) w E2 (HD L (ins D s.x.1) ss H) w2 → (∀ r ∈ a, isRead L r.x.2.2 = true → Nat.testBit s.x.2.1 r.x.1 = false → SubN r s.H s.H') →
      K (act.put s.x.2.2.dst u) w2 := by
    intro u E2 w2 h1 h2 h3 h4 h5
    refine hK E2 w2 _ ⟨hAt.closed, h1, h2, ?_, hI.post.trans h4, (put_size _ _ _).trans hI.size, (put_defers _ _ _).trans hI.defs, hAt.mono hI.mono h5⟩
    exact (StT.put (hI.tmps.up h4.ext h4.next) h3 hdo).congr fun t => hAt.temps t
  rcases hAt.k1.step with ⟨hw, hv, hH⟩ | ⟨hw, hcase⟩
  · rw [if_neg (by rw [hw]; simp)]
    refine ⟨fun f _ => hF.1 f, ?_⟩
    have he : HD L (ins D s.x.1) ss H = HD L D ss H := by
      by_cases hh : isHeavy L s.x.2.2 = true
      · rw [hAt.heapThen hh, hAt.heapNow hh, hH]
      · exact hAt.heapLight (by simpa using hh)
    refine fin undef E w ?_ ?_ ?_ ?_ ?_
    · rw [he]; exact hI.st
    · rw [he]; exact hI.wf
    · rw [hv]; exact fun _ _ => rfl
    · rw [he]; exact Post.refl _ _ _
    · intro r _ _ _; rw [hH]; exact fun _ _ _ hg => hg
  · rw [if_pos hw]
    rcases hcase with ⟨hh, ⟨H2, hev⟩, hH⟩ | ⟨hh, hwt, hev⟩ | ⟨hh, hfar, hev⟩ | ⟨hh, hwt, H2, hev, hH⟩
    · have he := hAt.heapLight hh
      have hev2 : evOper L rec (TD D ss T) s.x.2.2 (HD L D ss H) = some (s.v, HD L D ss H) := by
        rw [evOper_congr (all := ops.toList) hlk]
        unfold evOper at hev ⊢
        cases hop : evOp L s.T s.x.2.2 s.H with
        | none => rw [hop] at hev; cases hev
        | some nx =>
          rw [hop] at hev
          have key : ∃ v, nx = .val v s.H ∧ evOp L s.T s.x.2.2 (HD L D ss H) = some (.val v (HD L D ss H)) := by
            rcases light_kind hh with hp | ⟨hp, hr'⟩
            · obtain ⟨v, h1, h2⟩ := pure_any hp hop
              exact ⟨v, h1, h2 _⟩
            · obtain ⟨v, h1, h2⟩ := read_anyN (r := s) hp hop
              refine ⟨v, h1, h2 _ (hI.mono a s b hAt.eq hr' hAt.new (hAt.heavyL ?_))⟩
              cases hx : isFree L s.x.2.2 with
              | false => rfl
              | true => exact (isRead_free hr' hx).elim
          obtain ⟨v, rfl, h2⟩ := key
          rw [h2]
          simp only [Option.some.injEq, Prod.mk.injEq] at hev ⊢
          exact ⟨hev.1, trivial⟩
      refine evOper_ok hL hr hF hev2 hI.wf hI.st hI.tmps fun u w1 ⟨E1, hv, hS1, hp, hw1⟩ => ?_
      refine fin u E1 w1 ?_ ?_ ?_ ?_ ?_
      · rw [he]; exact hS1
      · rw [he]; exact hw1
      · rw [he]; exact hv
      · rw [he]; exact hp
      · intro r _ _ _; rw [hH]; exact fun _ _ _ hg => hg
    · have e1 := hAt.heapNow hh
      have e2 := hAt.heapThen hh
      have hev2 : evOper L rec (TD D ss T) s.x.2.2 (HD L D ss H) = some (s.v, s.H') := by
        rw [evOper_congr (all := ops.toList) hlk, e1]; exact hev
      refine evOper_ok hL hr hF hev2 hI.wf hI.st hI.tmps fun u w1 ⟨E1, hv, hS1, hp, hw1⟩ => ?_
      refine fin u E1 w1 ?_ ?_ ?_ ?_ ?_
      · rw [e2]; exact hS1
      · rw [e2]; exact hw1
      · rw [e2]; exact hv
      · rw [e2]; exact hp
      · intro r hra hr hb
        have := (hAt.left r hra).watch hr hb
        rw [hwt] at this; cases this
    · have e1 := hAt.heapNow hh
      have e2 := hAt.heapThen hh
      have hev2 : evOper L rec (TD D ss T) s.x.2.2 (HD L D ss H) = some (s.v, s.H') := by
        rw [evOper_congr (all := ops.toList) hlk, e1]; exact hev
      refine evOper_ok hL hr hF hev2 hI.wf hI.st hI.tmps fun u w1 ⟨E1, hv, hS1, hp, hw1⟩ => ?_
      refine fin u E1 w1 ?_ ?_ ?_ ?_ ?_
      · rw [e2]; exact hS1
      · rw [e2]; exact hw1
      · rw [e2]; exact hv
      · rw [e2]; exact hp
      · intro r hra hr hb i b hn hg
        obtain ⟨t, k, vo, j, o, hop, hgk, hrest⟩ := far_ok hfar
        obtain ⟨a1, a2, haa⟩ := List.append_of_mem hra
        have hch := hAt.S.chain
        rw [hAt.eq] at hch
        have hpre := hch.pre
        rw [haa] at hpre
        simp only [List.map_append, List.map_cons, List.reverse_append, List.reverse_cons, List.append_nil, List.append_assoc, List.singleton_append] at hpre
        obtain ⟨t', k', i', o', h1, h2, h3, h4⟩ := hrest _ _ _ hpre hr hb
        have hsT := (hch.at a).1
        have hrT : r.T = TD tt a1 T := by
          have hch2 := hch
          rw [haa, List.append_assoc, List.cons_append] at hch2
          exact (hch2.at a1).1
        have hgt : getT s.T k' = getT r.T k' := by
          rw [hsT, haa, TD_append, ← hrT]
          refine TD_none _ _ fun z hz _ hd => h4 z.x ?_ hd
          rcases List.mem_cons.1 hz with rfl | hz
          · simp
          · rw [List.mem_append]; left; rw [List.mem_reverse, List.mem_map]; exact ⟨z, hz, rfl⟩
        have hrk : r.T.get k' = some (.ptr i' o') := by
          unfold getT at hgt
          rw [h2] at hgt
          cases hc : r.T.get k' with
          | none => rw [hc] at hgt; cases hgt
          | some x => rw [hc] at hgt; simp only [Option.getD_some] at hgt; rw [hgt]
        have hii : i = i' := hn t' k' i' o' h1 hrk
        rw [store_other hop hgk hev (by rw [hii]; exact h3)]
        exact hg
    · have e1 := hAt.heapNow hh
      have e2 := hAt.heapThen hh
      have hwf : ({ HD L D ss H with lo := (HD L D ss H).next } : AH).Wf := ⟨hI.wf.tree, Nat.le_refl _, hI.wf.hide⟩
      have hev2 : evOper L rec (TD D ss T) s.x.2.2 { HD L D ss H with lo := (HD L D ss H).next } = some (s.v, H2) := by
        rw [evOper_congr (all := ops.toList) hlk, e1]; exact hev
      refine evOper_ok hL hr hF hev2 hwf (hI.st.relo _) hI.tmps fun u w1 ⟨E1, hv, hS1, hp, hw1⟩ => ?_
      obtain ⟨r1, r2, r3⟩ := relo hI.wf hp hw1
      rw [e1] at r2 r3
      have e3 : ({ H2 with lo := (HD L D ss H).lo } : AH) = s.H' := by rw [e1, hH]
      have e4 : ({ H2 with lo := s.H.lo } : AH) = s.H' := hH.symm
      refine fin u E1 w1 ?_ ?_ ?_ ?_ ?_
      · rw [e2, ← e4]; exact hS1.relo _
      · rw [e2, ← e4]; exact r2
      · rw [e2, ← e4]; exact hv
      · rw [e2, ← e3]; exact r1
      · intro r _ _ _; rw [← e4]; exact r3.toN

theorem evDraw_ok (hL : LOk0 L P) (hm : P.follows .mixedOrders = true) (hr : RecOk P B rec) (hF : Open F) (ops : Array Oper) {T : Tr AV} {H : AH} {T1 : Tr AV} {H1 : AH} {pl : List Ent}
    (hpl : plan L ops.toList = some pl) (h : evDraw L rec ops.toList pl [] T H = some (T1, H1))
    (E : Env) (w : World) (a : Act) (hw : H.Wf) (hS : St B E H w) (hT : StT E H.next T a.tmps) (hd : ∀ o ∈ ops.toList, ∀ d, o.dst = some d → d < a.tmps.size) (Q : Exit → Act → World → Prop)
    (hQ : ∀ E1 a1 w1, St B E1 H1 w1 → StT E1 H1.next T1 a1.tmps → Post E H w E1 H1 w1 → H1.Wf → a1.tmps.size = a.tmps.size → a1.defers = a.defers → Q .normal a1 w1) (t : Nat) :
    wpOpsIn F 0 P ops Q (Region.schedule (P.follows .mixedOrders) ops t) a { w with drawn := w.drawn + 1 } := by
  obtain ⟨ss, hmap, hch⟩ := evDraw_chain pl [] T H T1 H1 h
  unfold plan at hpl
  split at hpl
  · next pl' han =>
    split at hpl
    · next hcov =>
      cases hpl
      obtain ⟨k1, k2, _, k4⟩ := annot_chain _ [] pl T H ss T1 H1 han hmap hch (fun y hy => by cases hy)
      have hSteps : Steps L rec ops.toList T H ss T1 H1 := ⟨hch, k1, k2, fun a s b he e hm hb => (k4 a s b he e hm hb).elim (fun ⟨_, hy, _⟩ => by cases hy) id, fun i hi => by
        obtain ⟨y, hy, hyi⟩ := covers_ok hcov i (by rw [len_eq]; exact hi)
        rw [← hmap, List.mem_map] at hy
        obtain ⟨s, hs, rfl⟩ := hy
        exact ⟨s, hs, hyi⟩⟩
      simp only [Region.schedule, hm, Bool.true_or, if_true]
      refine wpAnyIn_sound ops.size t _ a _ ?_
      -- every order
      have key : ∀ (fuel : Nat) (listed : Array Bool) (E2 : Env) (w2 : World) (a2 : Act), listed.size = ops.size → listed.toList.countP (fun x => !x) ≤ fuel → Inv L B ops.toList T H ss E w a (fun i => listed.getD i false) E2 w2 a2 →
          wpAnyIn F 0 P .any ops Q fuel listed a2 w2 := by
        have done : ∀ (listed : Array Bool) (E2 : Env) (w2 : World) (a2 : Act), listed.size = ops.size → Inv L B ops.toList T H ss E w a (fun i => listed.getD i false) E2 w2 a2 → Region.ready .any ops listed = [] → Q .normal a2 w2 := by
          intro listed E2 w2 a2 hsz hI hnil
          have hall : ∀ (d c : List Stp), ss = c ++ d → (∀ s ∈ c, listed.getD s.x.1 false = true) → ∀ s ∈ ss, listed.getD s.x.1 false = true := by
            intro d
            induction d with
            | nil => intro c hc hs s hm; rw [hc, List.append_nil] at hm; exact hs s hm
            | cons x d ih =>
              intro c hc hs
              refine ih (c ++ [x]) (by rw [hc]; simp) fun y hy => ?_
              rw [List.mem_append, List.mem_singleton] at hy
              rcases hy with hy | rfl
              · exact hs y hy
              · cases hx : listed.getD y.x.1 false with
                | true => rfl
                | false =>
                  exfalso
                  have hop := (k1 y (by rw [hc]; simp)).op
                  have hop' : ops[y.x.1]? = some y.x.2.2 := by simpa using hop
                  have hlt : y.x.1 < ops.size := (Array.getElem?_eq_some_iff.1 hop').1
                  have hmem : y.x.1 ∈ Region.ready .any ops listed := by
                    unfold Region.ready
                    rw [List.mem_filter]
                    refine ⟨List.mem_range.2 hlt, ?_⟩
                    rw [hop']
                    simp only [Option.map_some, Option.getD_some, Bool.and_eq_true, Bool.not_eq_true']
                    refine ⟨?_, ?_⟩
                    · simp only [Array.getD_eq_getD_getElem?] at hx ⊢
                      rw [Array.getElem?_eq_getElem (by omega)] at hx ⊢
                      exact hx
                    · rw [← Array.all_toList, List.all_eq_true]
                      intro e he
                      cases hb : Region.binds .any e with
                      | false => rfl
                      | true =>
                        obtain ⟨z, hz, hze⟩ := hSteps.deps c y d hc e he hb
                        rw [← hze, hs z hz]; rfl
                  rw [hnil] at hmem
                  cases hmem
          have hD := hall ss [] rfl (fun _ hs => by cases hs)
          obtain ⟨e1, e2⟩ := hch.end
          have eH : HD L (fun i => listed.getD i false) ss H = H1 := by
            rw [e2]
            exact HD_same ss H fun s hs _ => hD s hs
          have h1 := hI.st
          have h2 := hI.tmps
          have h3 := hI.post
          have h4 := hI.wf
          rw [eH] at h1 h2 h3 h4
          refine hQ E2 a2 w2 h1 (h2.congr fun t => ?_) h3 h4 hI.size hI.defs
          rw [e1]
          exact TD_same ss T T (fun s hs hne => absurd (hD s hs) hne) rfl |>.symm
        intro fuel
        induction fuel with
        | zero =>
          intro listed E2 w2 a2 hsz hc hI
          have hnil : Region.ready .any ops listed = [] := by
            rw [List.eq_nil_iff_forall_not_mem]
            intro i hi
            unfold Region.ready at hi
            rw [List.mem_filter] at hi
            simp only [Bool.and_eq_true, Bool.not_eq_true'] at hi
            obtain ⟨hr1, hr2, _⟩ := hi
            have hlt := List.mem_range.1 hr1
            have h0 : listed.toList.countP (fun x => !x) = 0 := by omega
            rw [List.countP_eq_zero] at h0
            simp only [Array.getD_eq_getD_getElem?] at hr2
            rw [Array.getElem?_eq_getElem (by omega)] at hr2
            exact h0 listed[i] (by simp) (by simpa using hr2)
          exact ⟨hnil, done listed E2 w2 a2 hsz hI hnil⟩
        | succ fuel ih =>
          intro listed E2 w2 a2 hsz hc hI
          refine ⟨done listed E2 w2 a2 hsz hI, fun i hi => ?_⟩
          unfold Region.ready at hi
          rw [List.mem_filter] at hi
          simp only [Bool.and_eq_true, Bool.not_eq_true'] at hi
          obtain ⟨hr1, hr2, hr3⟩ := hi
          have hlt := List.mem_range.1 hr1
          obtain ⟨s, hs, hsi⟩ := hSteps.all i (by simpa using hlt)
          obtain ⟨c, d, hcd⟩ := List.append_of_mem hs
          have hop := (k1 s hs).op
          have hop' : ops[s.x.1]? = some s.x.2.2 := by simpa using hop
          have hnew : listed[i]'(by omega) = false := by
            simp only [Array.getD_eq_getD_getElem?] at hr2
            rw [Array.getElem?_eq_getElem (by omega)] at hr2
            exact hr2
          have hAt : At L rec ops.toList T H ss T1 H1 (fun i => listed.getD i false) c s d := ⟨hSteps, hcd, hI.closed, by
            show listed.getD s.x.1 false = false
            rw [hsi]
            simp only [Array.getD_eq_getD_getElem?]
            rw [Array.getElem?_eq_getElem (by omega)]
            exact hnew, by
            intro e he hb
            rw [← hsi, hop'] at hr3
            simp only [Option.map_some, Option.getD_some] at hr3
            rw [← Array.all_toList, List.all_eq_true] at hr3
            have := hr3 e he
            rw [hb] at this
            simpa using this⟩
          rw [← hsi]
          refine draw_step hL hr hF hAt hI hd fun E3 w3 a3 hI3 => ?_
          refine ih _ E3 w3 a3 (by simpa using hsz) ?_ ?_
          · rw [hsi, Array.toList_setIfInBounds, List.countP_set (by simpa using (by omega : i < listed.size))]
            simp only [Array.getElem_toList, hnew, Bool.not_false, if_true, Bool.not_true, Bool.false_eq_true, if_false]
            omega
          · have : (fun j => (listed.setIfInBounds s.x.1 true).getD j false) = ins (fun i => listed.getD i false) s.x.1 := by
              funext j
              unfold ins
              simp only [Array.getD_eq_getD_getElem?, Array.getElem?_setIfInBounds]
              by_cases hj : s.x.1 = j
              · subst hj
                rw [if_pos rfl, if_pos rfl, if_pos (by rw [hsi]; omega)]
                rfl
              · rw [if_neg hj, if_neg (fun e => hj e.symm)]
            rw [this]
            exact hI3
      have hf : (fun i => (Array.replicate ops.size false).getD i false) = fun _ => false := by
        funext i
        simp only [Array.getD_eq_getD_getElem?, Array.getElem?_replicate]
        split <;> rfl
      refine key ops.size _ E _ a (by simp) ?_ ?_
      · exact Nat.le_trans List.countP_le_length (by simp)
      · rw [hf]
        have eH : HD L (fun _ => false) ss H = H := HD_none ss H fun _ _ _ => rfl
        refine ⟨fun _ _ _ hf => (by cases hf), ?_, ?_, ?_, ?_, rfl, rfl, ?_⟩
        · rw [eH]; exact hS.drawn _
        · rw [eH]; exact hw
        · rw [eH]; exact hT.congr fun t => TD_none ss T fun _ _ hf => by cases hf
        · rw [eH]; exact Post.drawn _
        · intro c s d hcd hrd _ hl
          rw [eH]
          have hc2 := hch
          rw [hcd] at hc2
          rw [(hc2.at c).2, HD_light]
          · exact fun _ _ _ hg => hg
          · intro y hy
            cases hyh : isHeavy L y.x.2.2 with
            | false => rfl
            | true => have := hl y hy hyh; cases this
    · cases hpl
  · cases hpl
end
end Go.Ev

set_option linter.unusedSimpArgs false
set_option linter.unusedVariables false
namespace Go.Ev

def mark (r : Nat) : Deferred := { target := .collected r, args := #[] }
/-- The marks among an activation's deferred calls, and the others. -/
def markOf (d : Deferred) : Option Nat := match d.target with | .collected r => some r | _ => none
def marksOf (l : List Deferred) : List Nat := l.filterMap markOf
def realsOf (l : List Deferred) : List Deferred := l.filter fun d => (markOf d).isNone
theorem marksOf_marks (mk : List Nat) (l : List Deferred) : marksOf (mk.map mark ++ l) = mk ++ marksOf l := by
  induction mk with
  | nil => rfl
  | cons r mk ih => show r :: marksOf (mk.map mark ++ l) = _; rw [ih]; rfl
theorem realsOf_marks (mk : List Nat) (l : List Deferred) : realsOf (mk.map mark ++ l) = realsOf l := by
  induction mk with
  | nil => rfl
  | cons r mk ih => show realsOf (mk.map mark ++ l) = _; exact ih
/-- From where on the marks' blocks lie; the deferred calls. -/
structure ND where
  n : Nat
  ds : List Df
/-- A deferred call, as the model has it. -/
def DfR (E : Env) (n : Nat) (x : Df) (d : Deferred) : Prop := ∃ cap : Array Value, d.target = .fn (.func x.1) cap ∧ StL E n x.2 (d.args ++ cap).toList
inductive DfL (E : Env) (n : Nat) : List Df → List Deferred → Prop where
  | nil : DfL E n [] []
  | cons {x d xs ds} : DfR E n x d → DfL E n xs ds → DfL E n (x :: xs) (d :: ds)
theorem DfL.up {E E1 : Env} {n m : Nat} {xs : List Df} {ds : List Deferred} (h : DfL E n xs ds) (ha : Agree n E E1) (hle : n ≤ m) : DfL E1 m xs ds := by
  induction h with
  | nil => exact .nil
  | cons h _ ih => obtain ⟨cap, h1, h2⟩ := h; exact .cons ⟨cap, h1, h2.up ha hle⟩ ih
/-- An activation's deferred calls: the marks' blocks are such that nobody touches. -/
structure DefOk (N : ND) (E : Env) (H : AH) (w : World) (l : List Deferred) : Prop where
  real : DfL E H.next N.ds (realsOf l)
  nodup : (marksOf l).Nodup
  blk : ∀ r ∈ marksOf l, N.n ≤ r ∧ r < w.heap.size ∧ w.heap[r]? = some (.deferred (some [])) ∧ ¬ Own E H r
theorem DefOk.nil (n : Nat) (E : Env) (H : AH) (w : World) : DefOk ⟨n, []⟩ E H w [] := ⟨.nil, List.nodup_nil, fun _ h => by cases h⟩
theorem DefOk.post {N : ND} {E E1 : Env} {H H1 : AH} {w w1 : World} {l : List Deferred} (h : DefOk N E H w l) (hp : Post E H w E1 H1 w1) : DefOk N E1 H1 w1 l := by
  obtain ⟨he, hn, hr⟩ := h
  refine ⟨he.up hp.ext hp.next, hn, fun r hm => ?_⟩
  obtain ⟨h0, h1, h2, h3⟩ := hr r hm
  refine ⟨h0, Nat.lt_of_lt_of_le h1 hp.size, (hp.frame r h1 h3).trans h2, fun ho => ?_⟩
  rcases hp.own r ho with h | h
  · exact h3 h
  · omega

inductive ExR : Ex → Exit → Prop where
  | normal : ExR .normal .normal
  | exit (id : Nat) : ExR (.exit id) (.exit id)
  | ret : ExR .ret .ret
  | goto (l : Nat) : ExR (.goto l) (.goto l)

/-- What holds behind a piece of code. -/
structure Behind (B : Nat) (N : ND) (E : Env) (H : AH) (w : World) (a : Act) (out : Out) (e : Exit) (a1 : Act) (w1 : World) : Prop where
  intro ::
  env : ∃ E1, St B E1 out.H w1 ∧ StT E1 out.H.next out.T a1.tmps ∧ Post E H w E1 out.H w1 ∧ DefOk N E1 out.H w1 a1.defers
  wf : out.H.Wf
  ex : ExR out.ex e
  size : a1.tmps.size = a.tmps.size

structure Ahead (B : Nat) (F : Fence) (N : ND) (E : Env) (T : Tr AV) (H : AH) (w : World) (a : Act) : Prop where
  wf : H.Wf
  st : St B E H w
  tmps : StT E H.next T a.tmps
  defs : DefOk N E H w a.defers
  base : N.n ≤ w.heap.size
  rnd : ∀ l, F.round = some l → ∃ r : Loop, w.heap[l]? = some (Obj.loop r)

theorem Behind.trans {B : Nat} {N : ND} {E E1 : Env} {H H1 : AH} {w w1 : World} {a a1 : Act} {out : Out} {e : Exit} {a2 : Act} {w2 : World}
    (hp : Post E H w E1 H1 w1) (hs : a1.tmps.size = a.tmps.size) (h : Behind B N E1 H1 w1 a1 out e a2 w2) : Behind B N E H w a out e a2 w2 := by
  obtain ⟨⟨E2, h1, h2, h3, h4⟩, h5, h6, h7⟩ := h
  exact ⟨⟨E2, h1, h2, hp.trans h3, h4⟩, h5, h6, h7.trans hs⟩

structure CodeRec (P : Program) (B m : Nat) (rec : Rec) : Prop extends RecOk P B rec where
  loop : ∀ body T H out, rec (.loop body T H) = some out → ∀ F, Open F → ∀ (N : ND) (n : Nat), wfC n body = true → ∀ E w a, Ahead B F N E T H w a → n ≤ a.tmps.size → ∀ Q,
    (∀ e a1 w1, Behind B N E H w a out e a1 w1 → Q e a1 w1) → Code.roundsIn F 0 P body Q m a w
  range : ∀ g ps assign body T H out, rec (.range g ps.toList assign body T H) = some out → ∀ F, Open F → ∀ (N : ND) (n : Nat), (∀ d ∈ ps.toList, d < n) → wfC n assign = true → wfC n body = true → ∀ x E w a, Ahead B F N E T H w a → n ≤ a.tmps.size →
    StV E H.next g (a.eval x) → ∀ Q, (∀ e a1 w1, Behind B N E H w a out e a1 w1 → Q e a1 w1) → (Code.rangeFunc x ps assign body).wpIn F 0 P Q a w

section
variable {L : Lk} {P : Program} {B : Nat} {rec : Rec} {F : Fence}

theorem stepR_scope {b : Frame} {a : Act} {k : List Item} {cs : List Frame} {w : World} {c : Code} : step P (lone (b.atR a (.code (.scope c) :: k)) cs w) = .next (lone (b.atR a (.code c :: .inScope c :: k)) cs w) :=
  step_lone_go (by simp [stepG, stepG.exec, Frame.atR])
theorem stepR_inScope {b : Frame} {a : Act} {k : List Item} {cs : List Frame} {w : World} {c : Code} : step P (lone (b.atR a (.inScope c :: k)) cs w) = .next (lone (b.atR a k) cs w) :=
  step_lone_go (by simp [stepG, stepG.exec, Frame.atR])
def noGoto (Q : Exit → Act → World → Prop) : Exit → Act → World → Prop
  | .goto _, _, _ => False
  | e, a, w => Q e a w
theorem wpIn_scope {n : Nat} {Q : Exit → Act → World → Prop} {a : Act} {w : World} {c : Code} (h : c.wpIn F n P (noGoto Q) a w) : (Code.scope c).wpIn F n P Q a w := by
  intro b k cs hro hb hr
  have h0 : (lone (b.atR a (.code (.scope c) :: k)) cs w).fenced P F := fenced_calm hb hr rfl
  obtain ⟨e, a₁, w₁, hq, harr⟩ := h b (.inScope c :: k) cs hro hb hr
  cases e with
  | normal => exact ⟨.normal, a₁, w₁, hq, .head h0 stepR_scope (StepsIn.trans harr (.one (fenced_calm hb hr rfl) stepR_inScope))⟩
  | exit id =>
    have hx : exitTo id (.inScope c :: k) = exitTo id k := by simp [exitTo]
    exact ⟨.exit id, a₁, w₁, hq, fun k' hk => .head h0 stepR_scope (harr.1 k' (by rw [hx]; exact hk)),
      fun hr' hk => let ⟨k₁, h1, h2⟩ := harr.2 hr' (by rw [hx]; exact hk); ⟨k₁, h1, .head h0 stepR_scope h2⟩⟩
  | goto l => exact hq.elim
  | ret => exact ⟨_, a₁, w₁, hq, .of_steps (.one h0 stepR_scope) harr⟩
  | panic ch => exact ⟨_, a₁, w₁, hq, .of_steps (.one h0 stepR_scope) harr⟩
  | outgrown => exact ⟨_, a₁, w₁, hq, .of_steps (.one h0 stepR_scope) harr⟩

theorem evRegion_ok (hL : LOk0 L P) (hm : P.follows .mixedOrders = true) (hr : RecOk P B rec) (hF : Open F) {id : Nat} {ops : Array Oper} {draw : Bool} {T : Tr AV} {H : AH} {T1 : Tr AV} {H1 : AH} (h : evRegion L rec ops.toList draw T H = some (T1, H1))
    {n : Nat} (hwf : wfOps n ops = true) {N : ND} {E : Env} {w : World} {a : Act} (hA : Ahead B F N E T H w a) (hn : n ≤ a.tmps.size) {Q : Exit → Act → World → Prop} (hQ : ∀ e a1 w1, Behind B N E H w a ⟨.normal, T1, H1⟩ e a1 w1 → a1.defers = a.defers → Q e a1 w1) :
    (Code.region id ops draw).wpIn F 0 P Q a w := by
  have hd : ∀ o ∈ ops.toList, ∀ d, o.dst = some d → d < a.tmps.size := by
    intro o ho d hod
    unfold wfOps at hwf
    have := List.all_eq_true.1 hwf o ho
    rw [hod] at this
    have h2 : d + 1 ≤ n := Nat.le_of_ble_eq_true this
    exact Nat.lt_of_lt_of_le h2 hn
  have fin : ∀ E1 a1 w1, St B E1 H1 w1 → StT E1 H1.next T1 a1.tmps → Post E H w E1 H1 w1 → H1.Wf → a1.tmps.size = a.tmps.size → a1.defers = a.defers → Q .normal a1 w1 := fun E1 a1 w1 h1 h2 h3 h4 h5 h6 =>
    hQ _ _ _ ⟨⟨E1, h1, h2, h3, by rw [h6]; exact hA.defs.post h3⟩, h4, .normal, h5⟩ h6
  unfold evRegion at h
  split at h
  · have hx := evOps_ok hL hr hF ops ops.toList 0 (fun j => by simp) T H T1 H1 h E w a hA.wf hA.st hA.tmps hd Q fin
    rw [Array.length_toList, ← List.range_eq_range'] at hx
    exact fun b k cs hro hb hr => let ⟨e, a', w', q, r⟩ := hx b k cs hro hb hr; ⟨e, a', w', q, .of_steps (.one (fenced_calm hb hr rfl) stepR_region) r⟩
  · split at h
    · next pl hpl =>
      refine wpIn_region_draw fun t => ?_
      exact evDraw_ok hL hm hr hF ops hpl h E w a hA.wf hA.st hA.tmps hd Q fin t
    · cases h

theorem evCode_ok (hL : LOk0 L P) (hm : P.follows .mixedOrders = true) {m : Nat} (hr : CodeRec P B m rec) (n : Nat) (c : Code) : ∀ (F : Fence), Open F → ∀ (T : Tr AV) (H : AH) (out : Out), evCode L rec c T H = some out → wfC n c = true → ∀ (N : ND) (E : Env) (w : World) (a : Act), Ahead B F N E T H w a → n ≤ a.tmps.size → ∀ (Q : Exit → Act → World → Prop),
    (∀ e a1 w1, Behind B N E H w a out e a1 w1 → Q e a1 w1) → c.wpIn F 0 P Q a w := by
  induction c with
  | skip =>
    intro F hF T H out h _ N E w a hA _ Q hQ
    cases h
    exact wpIn_skip (hQ _ _ _ ⟨⟨E, hA.st, hA.tmps, Post.refl _ _ _, hA.defs⟩, hA.wf, .normal, rfl⟩)
  | region id ops draw =>
    intro F hF T H out h hwf N E w a hA hn Q hQ
    have h' : (match evRegion L rec ops.toList draw T H with | some r => some (⟨.normal, r.1, r.2⟩ : Out) | none => none) = some out := h
    split at h'
    · next r hr' => cases h'; exact evRegion_ok hL hm hr.toRecOk hF hr' hwf hA hn fun e a1 w1 hb _ => hQ e a1 w1 hb
    · cases h'
  | seq x y ihx ihy =>
    intro F hF T H out h hwf N E w a hA hn Q hQ
    simp only [wfC, Bool.and_eq_true] at hwf
    have h' : (match evCode L rec x T H with | some o => (match o.ex with | .normal => evCode L rec y o.T o.H | _ => some o) | none => none) = some out := h
    split at h'
    · next o ho =>
      refine wpIn_seq (ihx F hF T H o ho hwf.1 N E w a hA hn _ fun e a1 w1 hb => ?_)
      obtain ⟨⟨E1, h1, h2, h3, h4⟩, h5, h6, h7⟩ := hb
      generalize hex : o.ex = ex at h' h6
      cases h6 with
      | normal => exact ihy F hF o.T o.H out h' hwf.2 N E1 w1 a1 ⟨h5, h1, h2, h4, Nat.le_trans hA.base h3.size, fun l hl => let ⟨r, hr⟩ := hA.rnd l hl; h3.loops l r hr⟩ (by omega) Q fun e2 a2 w2 hb2 => hQ e2 a2 w2 (hb2.trans h3 h7)
      | exit id => cases h'; exact hQ _ _ _ ⟨⟨E1, h1, h2, h3, h4⟩, h5, by rw [hex]; exact .exit id, h7⟩
      | ret => cases h'; exact hQ _ _ _ ⟨⟨E1, h1, h2, h3, h4⟩, h5, by rw [hex]; exact .ret, h7⟩
      | goto l => cases h'; exact hQ _ _ _ ⟨⟨E1, h1, h2, h3, h4⟩, h5, by rw [hex]; exact .goto l, h7⟩
    · cases h'
  | cond x y z ihy ihz =>
    intro F hF T H out h hwf N E w a hA hn Q hQ
    simp only [wfC, Bool.and_eq_true] at hwf
    have h' : (match opnd T x with | some (.bool true) => evCode L rec y T H | some (.bool false) => evCode L rec z T H | _ => none) = some out := h
    split at h'
    · next hx => exact wpIn_cond_true (by rw [opnd_ok (hA.tmps E (Agree.refl _ _)) hx]; rfl) (ihy F hF T H out h' hwf.1 N E w a hA hn Q hQ)
    · next hx => exact wpIn_cond_false (by rw [opnd_ok (hA.tmps E (Agree.refl _ _)) hx]; rfl) (ihz F hF T H out h' hwf.2 N E w a hA hn Q hQ)
    · cases h'
  | block id x ih =>
    intro F hF T H out h hwf N E w a hA hn Q hQ
    have h' : (match evCode L rec x T H with
      | some o => (match o.ex with | .exit i => (match Nat.beq i id with | true => some (⟨.normal, o.T, o.H⟩ : Out) | false => some o) | _ => some o)
      | none => none) = some out := h
    split at h'
    · next o ho =>
      refine wpIn_block (ih F hF T H o ho hwf N E w a hA hn _ fun e a1 w1 hb => ?_)
      obtain ⟨⟨E1, h1, h2, h3, h4⟩, h5, h6, h7⟩ := hb
      generalize hex : o.ex = ex at h' h6
      cases h6 with
      | normal => cases h'; exact hQ _ _ _ ⟨⟨E1, h1, h2, h3, h4⟩, h5, by rw [hex]; exact .normal, h7⟩
      | exit i =>
        simp only at h'
        show if i = id then Q .normal a1 w1 else Q (.exit i) a1 w1
        split at h'
        · next hb => cases h'; rw [if_pos (Nat.eq_of_beq_eq_true hb)]; exact hQ _ _ _ ⟨⟨E1, h1, h2, h3, h4⟩, h5, .normal, h7⟩
        · next hb => cases h'; rw [if_neg (Nat.ne_of_beq_eq_false hb)]; exact hQ _ _ _ ⟨⟨E1, h1, h2, h3, h4⟩, h5, by rw [hex]; exact .exit i, h7⟩
      | ret => cases h'; exact hQ _ _ _ ⟨⟨E1, h1, h2, h3, h4⟩, h5, by rw [hex]; exact .ret, h7⟩
      | goto l => cases h'; exact hQ _ _ _ ⟨⟨E1, h1, h2, h3, h4⟩, h5, by rw [hex]; exact .goto l, h7⟩
    · cases h'
  | loop x ih =>
    intro F hF T H out h hwf N E w a hA hn Q hQ
    exact wpIn_loop_rounds m (hr.loop x T H out h F hF N n hwf E w a hA hn Q hQ)
  | rangeFunc f ps as bd _ _ =>
    intro F hF T H out h hwf N E w a hA hn Q hQ
    simp only [wfC, Bool.and_eq_true] at hwf
    have h' : (match opnd T f with | some g => rec (.range g ps.toList as bd T H) | none => none) = some out := h
    split at h'
    · next g hg =>
      exact hr.range g ps as bd T H out h' F hF N n (fun d hd => Nat.le_of_ble_eq_true (List.all_eq_true.1 hwf.1.1 d hd)) hwf.1.2 hwf.2 f E w a hA hn (opnd_st hA.tmps hg) Q hQ
    · cases h'
  | exit id =>
    intro F hF T H out h _ N E w a hA _ Q hQ
    cases h
    exact wpIn_exit (hQ _ _ _ ⟨⟨E, hA.st, hA.tmps, Post.refl _ _ _, hA.defs⟩, hA.wf, .exit id, rfl⟩)
  | scope x ih =>
    intro F hF T H out h hwf N E w a hA hn Q hQ
    have h' : (match evCode L rec x T H with | some o => (match o.ex with | .goto _ => none | _ => some o) | none => none) = some out := h
    split at h'
    · next o ho =>
      refine wpIn_scope (ih F hF T H o ho hwf N E w a hA hn _ fun e a1 w1 hb => ?_)
      obtain ⟨⟨E1, h1, h2, h3, h4⟩, h5, h6, h7⟩ := hb
      generalize hex : o.ex = ex at h' h6
      cases h6 with
      | normal => cases h'; exact hQ _ _ _ ⟨⟨E1, h1, h2, h3, h4⟩, h5, by rw [hex]; exact .normal, h7⟩
      | exit i => cases h'; exact hQ _ _ _ ⟨⟨E1, h1, h2, h3, h4⟩, h5, by rw [hex]; exact .exit i, h7⟩
      | ret => cases h'; exact hQ _ _ _ ⟨⟨E1, h1, h2, h3, h4⟩, h5, by rw [hex]; exact .ret, h7⟩
      | goto l => cases h'
    · cases h'
  | label l =>
    intro F hF T H out h _ N E w a hA _ Q hQ
    cases h
    exact wpIn_label (hQ _ _ _ ⟨⟨E, hA.st, hA.tmps, Post.refl _ _ _, hA.defs⟩, hA.wf, .normal, rfl⟩)
  | goto l =>
    intro F hF T H out h _ N E w a hA _ Q hQ
    cases h
    exact wpIn_goto (hQ _ _ _ ⟨⟨E, hA.st, hA.tmps, Post.refl _ _ _, hA.defs⟩, hA.wf, .goto l, rfl⟩)
  | ret =>
    intro F hF T H out h _ N E w a hA _ Q hQ
    cases h
    exact wpIn_ret (hQ _ _ _ ⟨⟨E, hA.st, hA.tmps, Post.refl _ _ _, hA.defs⟩, hA.wf, .ret, rfl⟩)
  | refuse s => intro F hF T H out h; cases h
end
end Go.Ev

set_option linter.unusedSimpArgs false
set_option linter.unusedVariables false
namespace Go.Ev
section
variable {L : Lk} {P : Program} {B : Nat} {rec : Rec} {F : Fence}

theorem getT_setArgs (l : List AV) : ∀ (j : Nat) (T : Tr AV) (t : Nat), getT (setArgs l j T) t = if j ≤ t ∧ t < j + l.length then (l[t - j]?).getD .undef else getT T t := by
  induction l with
  | nil => intro j T t; rw [if_neg (by simp)]; rfl
  | cons v l ih =>
    intro j T t
    show getT (setArgs l (j + 1) (T.set j v)) t = _
    rw [ih, getT_set]
    by_cases h0 : t = j
    · subst h0
      rw [if_neg (by omega), if_pos rfl, if_pos (by simp)]
      simp
    · by_cases h1 : j + 1 ≤ t ∧ t < j + 1 + l.length
      · rw [if_pos h1, if_pos (by simp; omega)]
        obtain ⟨d, hd⟩ : ∃ d, t - j = d + 1 := ⟨t - j - 1, by omega⟩
        rw [hd, show t - (j + 1) = d from by omega]
        simp
      · rw [if_neg h1, if_neg h0, if_neg (by simp; omega)]

theorem StT.args {E : Env} {n : Nat} {args : List AV} {us : List Value} (h : StL E n args us) (m : Nat) : StT E n (setArgs args 0 .nil) (us.toArray ++ Array.replicate m undef) := by
  intro E' hE t
  have hu := h E' hE
  rw [getT_setArgs, hu]
  have hg : getT (.nil : Tr AV) t = .undef := by unfold getT; rw [Tr.get_nil]; rfl
  by_cases ht : t < args.length
  · rw [if_pos (by omega)]
    simp only [Array.getD_eq_getD_getElem?]
    rw [Array.getElem?_append_left (by simp [concL_length]; exact ht)]
    simp [concL_getElem?, List.getElem?_eq_getElem ht]
  · rw [if_neg (by omega), hg]
    simp only [Array.getD_eq_getD_getElem?]
    rw [Array.getElem?_append_right (by simp [concL_length]; omega), Array.getElem?_replicate]
    split <;> rfl

theorem TRel.params {E : Env} {m : Nat} (ps : List Tmp) : ∀ (args : List AV) (T : Tr AV) (tmps : Array Value), TRel E T tmps → (∀ d ∈ ps, d < m) → m ≤ tmps.size →
    TRel E (setParams (ps.zip args) T) ((ps.zip (concL E args)).foldl (fun tmps (p : Tmp × Value) => tmps.setIfInBounds p.1 p.2) tmps) ∧ ((ps.zip (concL E args)).foldl (fun tmps (p : Tmp × Value) => tmps.setIfInBounds p.1 p.2) tmps).size = tmps.size := by
  induction ps with
  | nil => intro args T tmps h _ _; exact ⟨h, rfl⟩
  | cons p ps ih =>
    intro args T tmps h hp hm
    cases args with
    | nil => exact ⟨h, rfl⟩
    | cons v args =>
      have hlt := hp p (by simp)
      have := ih args (T.set p v) (tmps.setIfInBounds p (conc E v)) (fun t => by
        rw [getT_set]
        simp only [Array.getD_eq_getD_getElem?, Array.getElem?_setIfInBounds]
        by_cases ht : t = p
        · subst ht; rw [if_pos rfl, if_pos rfl, if_pos (Nat.lt_of_lt_of_le hlt hm)]; rfl
        · rw [if_neg (fun e => ht e.symm), if_neg ht]
          have := h t
          simpa [Array.getD_eq_getD_getElem?] using this) (fun d hd => hp d (by simp [hd])) (by simpa using hm)
      exact ⟨this.1, this.2.trans (by simp)⟩

noncomputable def resOf (L : Lk) (T : Tr AV) (H : AH) (r : ResultVar) : Option AV := match r with
  | .tmp t => (match T.get t with | some v => some v | none => some AV.undef)
  | .cell a t => (match T.get a with | some v => evLoad L t v H | none => none)
theorem run_mapM_of {α : Type} {E : Env} {w : World} (g : α → Option AV) (f : α → Sem Value) (hf : ∀ r v, g r = some v → (f r).run P w = .ok (conc E v) w) : ∀ (l : List α) (vs : List AV), mapO g l = some vs → (l.mapM f).run P w = .ok (concL E vs) w := by
  intro l
  induction l with
  | nil => intro vs h; cases h; simp [Sem.run_pure, concL]
  | cons r l ih =>
    intro vs h
    have h' : obind (g r) (fun b => obind (mapO g l) fun bs => some (b :: bs)) = some vs := h
    cases hr : g r with
    | none => rw [hr] at h'; cases h'
    | some v =>
      rw [hr] at h'
      cases hl : mapO g l with
      | none => rw [hl] at h'; cases h'
      | some us =>
        rw [hl] at h'
        cases h'
        rw [List.mapM_cons]
        simp only [Sem.run_bind, hf r v hr, Result.andThen_ok, ih us hl, Sem.run_pure]
        rfl
noncomputable def tupOf (vs : List AV) : AV := match vs with | [v] => v | vs => .tup vs
theorem evResults_ok (hL : LOk0 L P) {fn : Func} {T : Tr AV} {H : AH} {E : Env} {w : World} {tmps : Array Value} {vs : List AV} (hR : HRel B E H w) (hT : TRel E T tmps) (h : evResults L T H fn.results.toList = some vs) :
    (results fn tmps).run P w = .ok (conc E (tupOf vs)) w := by
  have h' : mapO (resOf L T H) fn.results.toList = some vs := h
  unfold results
  rw [Array.mapM_eq_mapM_toList]
  simp only [Sem.run_bind, Sem.run_map]
  rw [run_mapM_of (E := E) (resOf L T H) _ (fun r v hv => ?_) _ vs h']
  · simp only [Result.andThen_ok, Sem.run_pure]
    congr 1
    cases vs with
    | nil => rfl
    | cons v vs =>
      cases vs with
      | nil => rfl
      | cons u vs => rw [dif_neg (by simp [concL])]; rfl
  · unfold resOf at hv
    cases r with
    | tmp t =>
      simp only at hv ⊢
      have := hT t
      unfold getT at this
      rw [Sem.run_pure, this]
      congr 2
      cases hg : T.get t with
      | none => rw [hg] at hv; cases hv; rfl
      | some v' => rw [hg] at hv; cases hv; rfl
    | cell a t =>
      simp only at hv ⊢
      cases hg : T.get a with
      | none => rw [hg] at hv; cases hv
      | some v' =>
        rw [hg] at hv
        simp only at hv
        have hta := hT a
        unfold getT at hta
        rw [hg] at hta
        have hl := evLoad_ok (P := P) hL hR hv
        rw [hta]
        unfold evLoad at hv
        split at hv
        · exact hl
        · cases hv
end
end Go.Ev

set_option linter.unusedSimpArgs false
set_option linter.unusedVariables false
namespace Go.Ev

structure LOk (L : Lk) (P : Program) : Prop extends LOk0 L P where
  func : ∀ f fn, L.func f = some fn → P.funcs[f]? = some fn ∧ (fn.name == "runtime.NumGoroutine") = false ∧ ∀ c, fn.body = some c → wfC fn.ntmps c = true
  mixed : P.follows .mixedOrders = true
def ExtOk (L : Lk) (P : Program) (B : Nat) : Prop := ∀ f g, L.ext f = some g → ∀ args H p, g args H = some p → ∀ E w us, H.Wf → St B E H w → StL E H.next args us → CallOk P B E H w f us p.1 p.2

section
variable {L : Lk} {P : Program} {B : Nat} {rec : Rec} {F : Fence}

theorem run_callFunc (hL : LOk L P) {f : FuncId} {fn : Func} {c : Code} (hf : L.func f = some fn) (hb : fn.body = some c) (us : Array Value) (w : World) : (callFunc f us).run P w = .ok (.enter f us) w := by
  obtain ⟨h1, h2, _⟩ := hL.func f fn hf
  unfold callFunc
  simp only [Sem.run_bind, program, Sem.run, Result.andThen_ok, h1, h2, hb, Option.isNone_some, Bool.false_eq_true, if_false]
  rfl

/-- A block that no abstract one stands for may turn. -/
theorem St.other {E : Env} {H : AH} {w : World} (h : St B E H w) {r : Nat} {x y : Option (List Deferred)} (hr : w.heap[r]? = some (.deferred x)) : St B E H (w.putObj r (.deferred y)) := by
  intro E' hE
  have k := h E' hE
  refine ⟨fun i b hg => (k.blk i b hg).congr fun hl => World.putObj_heap_other fun he => ?_, k.inj, k.base, by rw [World.putObj_size]; exact k.size⟩
  have hb := k.blk i b hg
  cases b with
  | cells vs e z op ro => obtain ⟨cs, e, fz, h1, _⟩ := hb; rw [he, hr] at h1; cases h1
  | map es c => simp only [BRel] at hb; rw [he, hr] at hb; cases hb
  | loop st p T n ps a b => obtain ⟨r', h1, _⟩ := hb; rw [he, hr] at h1; cases h1
  | siter s p => simp only [BRel] at hb; rw [he, hr] at hb; cases hb
  | chan c b => obtain ⟨s, r, h1⟩ := hb; rw [he, hr] at h1; cases h1
  | defd => cases hl
theorem Post.other {E E1 : Env} {H H1 : AH} {w w1 : World} (h : Post E H w E1 H1 w1) {r : Nat} {x y : Option (List Deferred)} (hr : w.heap.size ≤ r) (hx : w1.heap[r]? = some (.deferred x)) : Post E H w E1 H1 (w1.putObj r (.deferred y)) := by
  refine ⟨h.ext, h.next, h.lo, h.hide, h.tape, h.os, h.output, by rw [World.putObj_size]; exact h.size, fun c hc hn => ?_, h.own, h.keep, fun c l hc => ?_, fun hf => ⟨(h.froz hf).1, fun a => (setBlk_froz (fun z off hz => by rw [hx] at hz; cases hz; rfl) a).trans ((h.froz hf).2 a)⟩, h.lives⟩
  · rw [World.putObj_heap_other (by omega)]; exact h.frame c hc hn
  · have hlt := (Array.getElem?_eq_some_iff.1 hc).1
    rw [World.putObj_heap_other (by omega)]; exact h.loops c l hc

theorem run_target (d : Deferred) (f : FuncId) (cap : Array Value) (h : d.target = .fn (.func f) cap) : invoke d.target d.args = callFunc f (d.args ++ cap) := by rw [h]; rfl

/-- The contract of a deferred call. -/
def DcOk (L : Lk) (P : Program) (B : Nat) (rec : Rec) (x : Df) : Prop := ∀ (H1 H1' : AH), evDcall L rec x H1 = some H1' → ∀ (E1 : Env) (w1 : World) (us : List Value), H1.Wf → St B E1 H1 w1 → StL E1 H1.next x.2 us →
  (callFunc x.1 us.toArray).run P w1 = .ok (.enter x.1 us.toArray) w1 ∧ CallsDIn Fence.wide 0 P x.1 us.toArray .returning w1 fun e u' w2 => (∃ v, e = .returned v) ∧ u' = .returning ∧ ∃ E2, St B E2 H1' w2 ∧ Post E1 H1 w1 E2 H1' w2 ∧ H1'.Wf

/-- What an activation that goes does: the marks are shut, the deferred calls are done, one by one. -/
theorem leaves_ok (hL : LOk0 L P) {fn : Func} {T : Tr AV} {vs : List AV} {E : Env} {H : AH} {w : World} {H2 : AH} {tmps : Array Value} {N : Nat} (hN : w.heap.size ≤ N) (hres : evResults L T H2 fn.results.toList = some vs)
    (l : List Deferred) :
    ∀ (ds : List Df) (E1 : Env) (H1 : AH) (w1 : World), (∀ x ∈ ds, DcOk L P B rec x) → evLeave L rec ds H1 = some H2 → H1.Wf → StT E1 H1.next T tmps → DefOk ⟨N, ds⟩ E1 H1 w1 l → St B E1 H1 w1 → Post E H w E1 H1 w1 →
      LeavesInM Fence.wide 0 P fn tmps (fun e w1 => ∃ u, e = .returned u ∧ Done B E H w (tupOf vs) H2 u w1) l .returning w1 := by
  induction l with
  | nil =>
    intro ds E1 H1 w1 _ hlv hwf hT hD hS hp
    have hds : ds = [] := by
      have := hD.real
      cases ds with
      | nil => rfl
      | cons x xs => cases this
    subst hds
    cases hlv
    have hr : ∀ E', Agree H2.next E1 E' → (results fn tmps).run P w1 = .ok (conc E' (tupOf vs)) w1 := fun E' hE => by
      exact evResults_ok hL (hS E' hE) (hT E' hE) hres
    refine ⟨conc E1 (tupOf vs), hr E1 (Agree.refl _ _), conc E1 (tupOf vs), rfl, E1, fun E' hE => ?_, hS, hp, hwf⟩
    have h1 := hr E1 (Agree.refl _ _)
    rw [hr E' hE] at h1
    exact (Result.ok.inj h1).1.symm
  | cons d l ih =>
    intro ds E1 H1 w1 hcall hlv hwf hT hD hS hp
    refine ⟨(fun h => by cases h), ?_⟩
    obtain ⟨h1, h2, h3⟩ := hD
    cases hm : markOf d with
    | some r =>
      left
      have e1 : marksOf (d :: l) = r :: marksOf l := by unfold marksOf; rw [List.filterMap_cons, hm]
      have e2 : realsOf (d :: l) = realsOf l := by unfold realsOf; rw [List.filter_cons, hm]; rfl
      have htar : d.target = .collected r := by
        unfold markOf at hm
        split at hm
        · next r' hr' => cases hm; exact hr'
        · cases hm
      rw [e1] at h2 h3
      rw [e2] at h1
      rw [List.nodup_cons] at h2
      obtain ⟨k0, k1, k2, k3⟩ := h3 r (by simp)
      refine ⟨r, w1.putObj r (.deferred none), htar, run_takeDeferred k2, ?_⟩
      refine ih ds E1 H1 _ hcall hlv hwf hT ⟨h1, h2.2, fun r' hr' => ?_⟩ (hS.other k2) (hp.other (Nat.le_trans hN k0) k2)
      obtain ⟨j0, j1, j2, j3⟩ := h3 r' (by simp [hr'])
      refine ⟨j0, by rw [World.putObj_size]; exact j1, ?_, j3⟩
      rw [World.putObj_heap_other (fun e => h2.1 (by rw [← e]; exact hr'))]
      exact j2
    | none =>
      right
      have e1 : marksOf (d :: l) = marksOf l := by unfold marksOf; rw [List.filterMap_cons, hm]
      have e2 : realsOf (d :: l) = d :: realsOf l := by unfold realsOf; rw [List.filter_cons, hm]; rfl
      rw [e2] at h1
      rw [e1] at h2 h3
      cases h1 with
      | @cons x _ xs _ hx hxs =>
        obtain ⟨cap, htar, hus⟩ := hx
        have hlv' : (match evDcall L rec x H1 with | some H' => evLeave L rec xs H' | none => none) = some H2 := hlv
        split at hlv'
        · next H1' hdc =>
          obtain ⟨hrun, hci⟩ := hcall x (by simp) H1 H1' hdc E1 w1 _ hwf hS hus
          have harr : (d.args ++ cap).toList.toArray = d.args ++ cap := rfl
          rw [harr] at hrun hci
          have hrun' : (callFunc x.1 (d.args ++ cap)).run P w1 = .ok (.enter x.1 (d.args ++ cap)) w1 := hrun
          have hci' := hci
          refine ⟨depth_open open_wide _, .func x.1, cap, x.1, d.args ++ cap, htar, by rw [run_target d _ _ htar]; exact hrun', fun _ _ => trivial, hci'.mono fun e u' w2 ⟨⟨v, he⟩, hu, E2, q1, q2, q3⟩ => ?_⟩
          subst he
          subst hu
          exact ih xs E2 H1' w2 (fun y hy => hcall y (by simp [hy])) hlv' q3 (hT.up q2.ext q2.next) ((⟨hxs, h2, h3⟩ : DefOk ⟨N, xs⟩ E1 H1 w1 l).post q2) q1 (hp.trans q2)
        · cases hlv'

theorem call_ok (hL : LOk L P) {m : Nat} (hr : CodeRec P B m rec) {f : FuncId} {fn : Func} {c : Code} {args : List AV} {H : AH} {o : Out} {vs : List AV} (hf : L.func f = some fn) (hb : fn.body = some c)
    (hlen : args.length ≤ fn.ntmps) (hc : evCode L rec c (setArgs args 0 .nil) H = some o) (hex : o.ex = .ret ∨ o.ex = .normal) (hres : evResults L o.T o.H fn.results.toList = some vs) {E : Env} {w : World} {us : List Value} (hw : H.Wf) (hS : St B E H w) (hus : StL E H.next args us) : CallOk P B E H w f us (tupOf vs) o.H := by
  unfold CallOk
  rw [run_callFunc hL hf hb]
  obtain ⟨h1, h2, h3⟩ := hL.func f fn hf
  have hul : us.length = args.length := by rw [hus E (Agree.refl _ _), concL_length]
  refine callsIn_of_wp_marks h1 hb trivial ?_ rfl
  refine evCode_ok hL.toLOk0 hL.mixed hr fn.ntmps c Fence.wide open_wide _ H o hc (h3 c hb) ⟨w.heap.size, []⟩ E w _ ⟨hw, hS, StT.args hus _, DefOk.nil _ _ _ _, Nat.le_refl _, fun l hl => by cases hl⟩ ?_ _ ?_
  · simp; omega
  · intro e a1 w1 ⟨⟨E1, k1, k2, k3, k4⟩, k5, k6, k7⟩
    have fin : LeavesInM Fence.wide 0 P fn a1.tmps (fun e w1 => ∃ u, e = .returned u ∧ Done B E H w (tupOf vs) o.H u w1) a1.defers .returning w1 :=
      leaves_ok (rec := fun _ => none) hL.toLOk0 (Nat.le_refl _) hres a1.defers [] E1 o.H w1 (fun x hx => by cases hx) rfl k5 k2 k4 k1 k3
    rcases hex with hex | hex <;> rw [hex] at k6 <;> cases k6 <;> exact fin

end
end Go.Ev

set_option linter.unusedSimpArgs false
set_option linter.unusedVariables false
namespace Go.Ev
section
variable {L : Lk} {P : Program} {B : Nat} {rec : Rec} {F : Fence}

theorem HRel.loopOf {E : Env} {H : AH} {w : World} (h : HRel B E H w) {l : Nat} {st : LoopState} {pe : Option Code} {T : Tr AV} {n : Nat} {ps : List Tmp} {as bd : Code} (hg : H.get l = some (.loop st pe T n ps as bd)) :
    ∃ r : Loop, w.heap[(E l).blk]? = some (.loop r) ∧ r.state = st ∧ r.pending = pe ∧ TRel E T r.tmps ∧ r.params.toList = ps ∧ r.assign = as ∧ r.body = bd ∧
      (∃ m, m ≤ r.tmps.size ∧ wfC m as = true ∧ wfC m bd = true ∧ ∀ d ∈ ps, d < m) := h.blk l _ hg

/-- The record of a loop turns in its state alone. -/
theorem loop_put {E : Env} {H : AH} {w : World} (hw : H.Wf) (hS : St B E H w) {l : Nat} {st : LoopState} {pe : Option Code} {T : Tr AV} {n : Nat} {ps : List Tmp} {as bd : Code} (hg : H.get l = some (.loop st pe T n ps as bd)) (hlo : H.lo ≤ l)
    {r : Loop} (hr : w.heap[(E l).blk]? = some (.loop r)) (st' : LoopState) (pe' : Option Code) :
    St B E (H.put l (.loop st' pe' T n ps as bd)) (w.putObj (E l).blk (.loop { r with state := st', pending := pe' })) ∧ Post E H w E (H.put l (.loop st' pe' T n ps as bd)) (w.putObj (E l).blk (.loop { r with state := st', pending := pe' })) ∧ (H.put l (.loop st' pe' T n ps as bd)).Wf :=
  put_ok hw hS hg rfl hlo _ _ (fun r' _ => ⟨_, rfl⟩) (fun x off hx => by rw [hr] at hx; cases hx; rfl) fun E' hE => by
    have hei : E' l = E l := hE l (hw.get_lt hg)
    obtain ⟨r2, k1, k2, k3, k4, k5, k6, k7, k8⟩ := (hS E' hE).loopOf hg
    rw [hei, hr] at k1
    cases k1
    exact ⟨{ r with state := st', pending := pe' }, by rw [hei]; exact setBlk_self hr, rfl, rfl, k4, k5, k6, k7, k8⟩

theorem round_ok (hL : LOk L P) {m : Nat} (hr : CodeRec P B m rec) {l : Nat} {args : List AV} {H : AH} {out : Out} {T : Tr AV} {n : Nat} {ps : List Tmp} {assign body : Code}
    (hlo : H.lo ≤ l) (hg : H.get l = some (.loop .ready none T n ps assign body)) (hlen : args.length = ps.length) {o1 : Out} (h1 : evCode L rec assign (setParams (ps.zip args) T) H = some o1) (hx1 : o1.ex = .normal)
    {T2 : Tr AV} {n2 : Nat} {ps2 : List Tmp} {as2 bd2 : Code} (hg1 : o1.H.get l = some (.loop .ready none T2 n2 ps2 as2 bd2)) {o2 : Out}
    (h2 : evCode L rec body o1.T (o1.H.put l (.loop .busy none T2 n2 ps2 as2 bd2)) = some o2) {pe : Option Code} {T3 : Tr AV} {n3 : Nat} {ps3 : List Tmp} {as3 bd3 : Code} (hg2 : o2.H.get l = some (.loop .busy pe T3 n3 ps3 as3 bd3))
    (hout : (o2.ex = .normal ∧ out = out1 (.bool true) (o2.H.put l (.loop .ready none T3 n3 ps3 as3 bd3))) ∨ (∃ id, o2.ex = .exit id ∧ out = out1 (.bool false) (o2.H.put l (.loop .done (some (.exit id)) T3 n3 ps3 as3 bd3))) ∨
      (o2.ex = .ret ∧ out = out1 (.bool false) (o2.H.put l (.loop .done (some .ret) T3 n3 ps3 as3 bd3))))
    {E : Env} {w : World} {us : List Value} (hw : H.Wf) (hS : St B E H w) (hus : StL E H.next args us) :
    ∃ g tmps as bd w', (Instr.yield (E l).blk us.toArray).run P w = .ok (.round (E l).blk g tmps as bd) w' ∧
      ∀ F, Open F → F.round = none → RoundIn F 0 P (E l).blk g tmps as bd w' fun e w1 => ∃ u, e = .returned u ∧ Done B E H w (outVal out) out.H u w1 := by
  have hlt := hw.get_lt hg
  obtain ⟨r, k1, k2, k3, k4, k5, k6, k7, mm, k8, k9, k10, k11⟩ := hS.self.loopOf hg
  have hul : us.length = args.length := by rw [hus E (Agree.refl _ _), concL_length]
  have hsz : us.toArray.size = r.params.size := by
    rw [← Array.length_toList, ← Array.length_toList (xs := r.params), k5]; simp; omega
  refine ⟨_, _, _, _, _, run_yield k1 hsz, fun F hF hro => ?_⟩
  have hfold : ∀ u : List Value, (r.params.zip u.toArray).foldl (fun tmps (t, a) => tmps.setIfInBounds t a) r.tmps = (ps.zip u).foldl (fun tmps (p : Tmp × Value) => tmps.setIfInBounds p.1 p.2) r.tmps := by
    intro u
    rw [← Array.foldl_toList]
    congr 1
    rw [Array.toList_zip, k5]
  have hto : Open (F.inRound (E l).blk) := hF.inRound _
  rw [hfold us]
  refine roundIn_of_wpIn (hF.1 _) ?_
  have hT0 : StT E H.next (setParams (ps.zip args) T) ((ps.zip us).foldl (fun tmps (p : Tmp × Value) => tmps.setIfInBounds p.1 p.2) r.tmps) := fun E' hE => by
    have hei : E' l = E l := hE l hlt
    obtain ⟨r', q1, q2, q3, q4, q5, q6, q7, _⟩ := (hS E' hE).loopOf hg
    rw [hei, k1] at q1
    cases q1
    rw [hus E' hE]
    exact (TRel.params (m := mm) ps args T r.tmps q4 k11 k8).1
  have hs0 : ((ps.zip us).foldl (fun tmps (p : Tmp × Value) => tmps.setIfInBounds p.1 p.2) r.tmps).size = r.tmps.size := by
    rw [hus E (Agree.refl _ _)]
    exact (TRel.params (m := mm) ps args T r.tmps k4 k11 k8).2
  refine evCode_ok hL.toLOk0 hL.mixed hr mm r.assign (F.inRound (E l).blk) hto (setParams (ps.zip args) T) H o1 (by rw [k6]; exact h1) (by rw [k6]; exact k9) ⟨w.heap.size, []⟩ E w _
    ⟨hw, hS, hT0, DefOk.nil _ _ _ _, Nat.le_refl _, fun l' hl' => by cases hl'; exact ⟨r, k1⟩⟩ (by rw [hs0]; exact k8) _ ?_
  intro e a1 w1 ⟨⟨E1, j1, j2, j3, j4⟩, j5, j6, j7⟩
  rw [hx1] at j6
  cases j6
  have hE1 : E1 l = E l := j3.ext l hlt
  obtain ⟨r1, p1, p2, p3, p4, p5, p6, p7, _⟩ := j1.self.loopOf hg1
  rw [hE1] at p1
  refine ⟨_, run_beginRound p1 p2, ?_⟩
  have hb := loop_put j5 j1 hg1 (by rw [j3.lo]; exact hlo) (by rw [hE1]; exact p1) .busy none
  rw [hE1] at hb
  have hrec : ({ r1 with state := .busy } : Loop) = { r1 with state := .busy, pending := none } := by rw [← p3]
  rw [hrec]
  obtain ⟨b1, b2, b3⟩ := hb
  refine evCode_ok hL.toLOk0 hL.mixed hr mm r.body (F.inRound (E l).blk) hto o1.T _ o2 (by rw [k7]; exact h2) (by rw [k7]; exact k10) ⟨w.heap.size, []⟩ E1 _ a1
    ⟨b3, b1, j2, j4.post b2, Nat.le_trans j3.size b2.size, fun l' hl' => by
      cases hl'
      obtain ⟨r', hr'⟩ := j3.loops _ r k1
      exact b2.loops _ r' hr'⟩ (by rw [j7]; show mm ≤ Array.size _; rw [hs0]; exact k8) _ ?_
  intro e2 a2 w2 ⟨⟨E2, i1, i2, i3, i4⟩, i5, i6, i7⟩
  have hE2 : E2 l = E l := (i3.ext l (Nat.lt_of_lt_of_le hlt j3.next)).trans hE1
  obtain ⟨r2, q1, q2, q3, _⟩ := i1.self.loopOf hg2
  have hlo2 : o2.H.lo ≤ l := by rw [i3.lo, b2.lo, j3.lo]; exact hlo
  have fin : ∀ (st' : LoopState) (pe' : Option Code) (bv : Bool), out = out1 (.bool bv) (o2.H.put l (.loop st' pe' T3 n3 ps3 as3 bd3)) →
      ∃ u, Ending.returned (.bool bv) = .returned u ∧ Done B E H w (outVal out) out.H u (w2.putObj (E l).blk (.loop { r2 with state := st', pending := pe' })) := by
    intro st' pe' bv he
    have hp := loop_put i5 i1 hg2 hlo2 q1 st' pe'
    rw [hE2] at hp
    refine ⟨_, rfl, E2, ?_, ?_, ?_, ?_⟩
    · rw [he]; exact fun _ _ => rfl
    · rw [he]; exact hp.1
    · rw [he]; exact ((j3.trans b2).trans i3).trans hp.2.1
    · rw [he]; exact hp.2.2
  rw [hE2] at q1
  rcases hout with ⟨hx, he⟩ | ⟨id, hx, he⟩ | ⟨hx, he⟩
  · rw [hx] at i6; cases i6
    exact ⟨_, _, run_endRound none q1, fin .ready none true he⟩
  · rw [hx] at i6; cases i6
    exact ⟨_, _, run_endRound (some (.exit id)) q1, fin .done (some (.exit id)) false he⟩
  · rw [hx] at i6; cases i6
    exact ⟨_, _, run_endRound (some .ret) q1, fin .done (some .ret) false he⟩
end
end Go.Ev

set_option linter.unusedSimpArgs false
set_option linter.unusedVariables false
namespace Go.Ev
section
variable {L : Lk} {P : Program} {B : Nat} {rec : Rec} {F : Fence}

theorem St.junk {E : Env} {H : AH} {w : World} (h : St B E H w) (o : Obj) : St B E H (wNew w o) := by
  intro E' hE
  have k := h E' hE
  exact ⟨fun i b hg => (k.blk i b hg).congr fun hl => wNew_lt ((k.blk i b hg).obj hl), k.inj, k.base, by rw [wNew_size]; exact Nat.le_succ_of_le k.size⟩
theorem Post.junk (E : Env) (H : AH) (w : World) (o : Obj) (hz : ∀ off, objFz o off = false := by intro off; simp [objFz]) : Post E H w E H (wNew w o) :=
  ⟨Agree.refl _ _, Nat.le_refl _, rfl, rfl, rfl, rfl, rfl, by rw [wNew_size]; omega, fun c hc _ => wNew_lt hc, fun _ h => .inl h, fun _ _ => rfl, fun c r h => ⟨r, (wNew_lt (Array.getElem?_eq_some_iff.1 h).1).trans h⟩, fun h => ⟨h, wNew_froz hz⟩, fun _ h => .inl h⟩
theorem St.not_own {E : Env} {H : AH} {w : World} (h : St B E H w) {c : Nat} {x : Option (List Deferred)} (hc : w.heap[c]? = some (.deferred x)) : ¬ Own E H c := by
  rintro ⟨i, b, hg, hb, _, he⟩
  have hr := h.self.blk i b hg
  cases b with
  | cells vs e z op ro => obtain ⟨cs, e, fz, h1, _⟩ := hr; rw [he, hc] at h1; cases h1
  | map es c => simp only [BRel] at hr; rw [he, hc] at hr; cases hr
  | loop st p T n ps a b => obtain ⟨r', h1, _⟩ := hr; rw [he, hc] at h1; cases h1
  | siter s p => simp only [BRel] at hr; rw [he, hc] at hr; cases hr
  | chan c b => obtain ⟨s, r, h1⟩ := hr; rw [he, hc] at h1; cases h1
  | defd => cases hb

theorem enter_ok {N : ND} {E : Env} {T : Tr AV} {H : AH} {w : World} {a : Act} (hA : Ahead B F N E T H w a) (ps : Array Tmp) (assign body : Code) :
    ∃ (mk : List Nat) (w0 : World) (D : Nat), (∀ fn, (Instr.enterLoop fn a.tmps ps assign body F.round).run P w = .ok (w0.heap.size, mk.map mark) (wNew w0 (.loop { state := .ready, pending := none, fn, tmps := a.tmps, params := ps, assign, body, defers := D }))) ∧
      St B E H w0 ∧ Post E H w E H w0 ∧ (mk = [] ∨ (mk = [w.heap.size] ∧ w0.heap[w.heap.size]? = some (.deferred (some [])))) := by
  cases hro : F.round with
  | none =>
    refine ⟨[w.heap.size], wNew w (.deferred (some [])), w.heap.size, fun fn => ?_, hA.st.junk _, Post.junk _ _ _ _, .inr ⟨rfl, wNew_self⟩⟩
    rw [run_enterLoop_outer, wNew_size]
    rfl
  | some l0 =>
    obtain ⟨r, hr⟩ := hA.rnd l0 hro
    refine ⟨[], w, r.defers, fun fn => ?_, hA.st, Post.refl _ _ _, .inl rfl⟩
    rw [run_enterLoop_inner hr]
    rfl

theorem andThen_ok_inv {α β : Type} {r : Result α} {f : α → World → Result β} {b : β} {w' : World} (h : r.andThen f = .ok b w') : ∃ x w1, r = .ok x w1 ∧ f x w1 = .ok b w' := by
  cases r with
  | ok x w1 => exact ⟨x, w1, rfl, h⟩
  | halt x w1 => cases h

theorem range_ok (hL : LOk L P) {m : Nat} (hr : CodeRec P B m rec) (hF : Open F) {g : AV} {ps : Array Tmp} {assign body : Code} {T : Tr AV} {H : AH} {f : FuncId} {args : List AV} {fn : Func} {c : Code} {o out : Out}
    (hcf : evCallFn g [.yld H.next] = some (.enter f args)) (hf : L.func f = some fn) (hb : fn.body = some c) (hcall : rec (.call f args (H.new (.loop .ready none T 0 ps.toList assign body))) = some o) (hlo : o.H.lo ≤ H.next)
    {st : LoopState} {pend : Option Code} {T5 : Tr AV} {n5 : Nat} {ps5 : List Tmp} {as5 bd5 : Code} (hgl : o.H.get H.next = some (.loop st pend T5 n5 ps5 as5 bd5)) (hst : st ≠ .busy)
    (hout : (pend = none ∧ out = ⟨.normal, T, o.H.put H.next .defd⟩) ∨ (∃ id, pend = some (.exit id) ∧ out = ⟨.exit id, T, o.H.put H.next .defd⟩) ∨ (pend = some .ret ∧ out = ⟨.ret, T, o.H.put H.next .defd⟩))
    {N : ND} {n : Nat} (hps : ∀ d ∈ ps.toList, d < n) (hwa : wfC n assign = true) (hwb : wfC n body = true) {x : Operand} {E : Env} {w : World} {a : Act} (hA : Ahead B F N E T H w a) (hn : n ≤ a.tmps.size) (hx : StV E H.next g (a.eval x))
    {Q : Exit → Act → World → Prop} (hQ : ∀ e a1 w1, Behind B N E H w a out e a1 w1 → Q e a1 w1) : (Code.rangeFunc x ps assign body).wpIn F 0 P Q a w := by
  obtain ⟨mk, w0, D, hent, hS0, hP0, hmk⟩ := enter_ok (P := P) hA ps assign body
  refine wpIn_rangeFunc fun fnid hfn => ?_
  obtain ⟨rc, hrc⟩ : ∃ rc : Loop, rc = { state := .ready, pending := none, fn := fnid, tmps := a.tmps, params := ps, assign, body, defers := D } := ⟨_, rfl⟩
  have hent := hent fnid
  rw [← hrc] at hent
  obtain ⟨n1, n2, n3⟩ := new_ok hA.wf hS0 (.loop .ready none T 0 ps.toList assign body) (.loop rc) 0 (fun E' hE he => by
    refine ⟨rc, ?_, by rw [hrc], by rw [hrc], ?_, by rw [hrc], by rw [hrc], by rw [hrc], n, ?_, hwa, hwb, hps⟩
    · rw [he]; exact wNew_self
    · rw [hrc]; exact hA.tmps E' hE
    · rw [hrc]; exact hn)
  have hadd : E.add H.next ⟨w0.heap.size, 0, 0⟩ H.next = ⟨w0.heap.size, 0, 0⟩ := Env.add_self _ _ _
  have hus0 : StL (E.add H.next ⟨w0.heap.size, 0, 0⟩) (H.new (.loop .ready none T 0 ps.toList assign body)).next [.yld H.next] [.func (.yield w0.heap.size) #[] #[]] := fun E' hE => by
    have : E' H.next = ⟨w0.heap.size, 0, 0⟩ := (hE H.next (Nat.lt_succ_self _)).trans hadd
    simp [concL, conc, this]
  have how := evCallFn_ok (P := P) (B := B) (w := wNew w0 (.loop rc)) n3 (hx.up n2.ext n2.next) hus0 hcf
  obtain ⟨us, hus, hrun⟩ := how
  rw [run_callFunc hL hf hb, Sem.run_bind] at hrun
  obtain ⟨d, w1', hd1, hd2⟩ := andThen_ok_inv hrun
  have hcl := hr.call f args _ o hcall _ _ us n3 n1 hus
  unfold CallOk at hcl
  rw [run_callFunc hL hf hb] at hcl
  refine ⟨w0.heap.size, mk.map mark, wNew w0 (.loop rc), d, w1', f, us.toArray, wNew w0 (.loop rc), hent, ?_, fun f' _ => hF.1 f', hd2, depth_open hF 0, ?_⟩
  · have : (resolve a.eval (rangeCall x w0.heap.size) 0) = Deferred.ofValue (a.eval x) [Value.func (.yield w0.heap.size) #[] #[]].toArray := by
      simp [resolve, rangeCall, Act.eval]
    rw [this]; exact hd1
  refine (callsIn_open open_wide hF hcl).mono fun e w3 ⟨u, he, E3, _, q1, q2, q3⟩ => ?_
  subst he
  have hE3 : E3 H.next = ⟨w0.heap.size, 0, 0⟩ := (q2.ext H.next (Nat.lt_succ_self _)).trans hadd
  obtain ⟨r3, p1, p2, p3, _⟩ := q1.self.loopOf hgl
  obtain ⟨z1, z2, z3⟩ := put_ok q3 q1 hgl rfl hlo .defd (.loop { r3 with state := .exhausted }) (fun _ _ => ⟨_, rfl⟩) (fun x off hx => by rw [p1] at hx; cases hx; rfl) (fun _ _ => trivial)
  have hbe : ∀ e', ExR out.ex e' → out.T = T → out.H = o.H.put H.next .defd → Behind B N E H w a out e' { a with defers := mk.map mark ++ a.defers } (w3.putObj (E3 H.next).blk (.loop { r3 with state := .exhausted })) := by
    intro e' hex hT hH
    have hpost : Post E H w E3 (o.H.put H.next .defd) (w3.putObj (E3 H.next).blk (.loop { r3 with state := .exhausted })) := ((hP0.trans n2).trans q2).trans z2
    refine ⟨⟨E3, by rw [hH]; exact z1, ?_, by rw [hH]; exact hpost, ?_⟩, by rw [hH]; exact z3, hex, rfl⟩
    · rw [hT, hH]; exact hA.tmps.up hpost.ext hpost.next
    · rw [hH]
      obtain ⟨e1, e2, e3⟩ := hA.defs
      have hlt : ∀ r ∈ marksOf a.defers, r < w.heap.size := fun r hr => (e3 r hr).2.1
      obtain ⟨e1', e2', e3'⟩ := hA.defs.post hpost
      refine ⟨by rw [realsOf_marks]; exact e1', ?_, ?_⟩
      · rw [marksOf_marks]
        rcases hmk with rfl | ⟨rfl, hdf⟩
        · exact e2'
        · rw [List.singleton_append, List.nodup_cons]
          exact ⟨fun hm => Nat.lt_irrefl _ (hlt _ hm), e2'⟩
      · rw [marksOf_marks]
        rcases hmk with rfl | ⟨rfl, hdf⟩
        · exact e3'
        · have hd0 : (wNew w0 (.loop rc)).heap[w.heap.size]? = some (.deferred (some [])) := (wNew_lt (Array.getElem?_eq_some_iff.1 hdf).1).trans hdf
          have hd3 : (w3.putObj (E3 H.next).blk (.loop { r3 with state := .exhausted })).heap[w.heap.size]? = some (.deferred (some [])) := ((q2.trans z2).frame _ (Array.getElem?_eq_some_iff.1 hd0).1 (n1.not_own hd0)).trans hd0
          intro r hr
          rcases List.mem_cons.1 hr with rfl | hr
          · exact ⟨hA.base, (Array.getElem?_eq_some_iff.1 hd3).1, hd3, z1.not_own hd3⟩
          · exact e3' r hr
  refine ⟨pend, w3.putObj (E3 H.next).blk (.loop { r3 with state := .exhausted }), ?_, ?_⟩
  · have := run_endLoop (P := P) p1 (by rw [p2]; exact hst)
    rw [hE3] at this ⊢
    rw [← p3]
    exact this
  · rcases hout with ⟨hp, he⟩ | ⟨id, hp, he⟩ | ⟨hp, he⟩
    · rw [hp]
      exact hQ _ _ _ (hbe .normal (by rw [he]; exact .normal) (by rw [he]) (by rw [he]))
    · rw [hp]
      exact wpIn_exit (hQ _ _ _ (hbe (.exit id) (by rw [he]; exact .exit id) (by rw [he]) (by rw [he])))
    · rw [hp]
      exact wpIn_ret (hQ _ _ _ (hbe .ret (by rw [he]; exact .ret) (by rw [he]) (by rw [he])))
end
end Go.Ev

set_option linter.unusedSimpArgs false
set_option linter.unusedVariables false
namespace Go.Ev
section
variable {L : Lk} {P : Program} {B : Nat} {rec : Rec} {F : Fence}

/-! ### A deferred function's body -/
def inBlockS (id : Nat) (Q : Exit → Act → List Frame → World → Prop) : Exit → Act → List Frame → World → Prop
  | .exit i, a, cs, w => if i = id then Q .normal a cs w else Q (.exit i) a cs w
  | e, a, cs, w => Q e a cs w
theorem wpSIn_block {n : Nat} {Q : Exit → Act → List Frame → World → Prop} {a : Act} {cs : List Frame} {w : World} {id : Nat} {c : Code} (h : c.wpSIn F n P (inBlockS id Q) a cs w) : (Code.block id c).wpSIn F n P Q a cs w := by
  intro b k hk hro hb hr
  have h0 : (lone (b.atR a (.code (.block id c) :: k)) cs w).fenced P F := fenced_calm hb hr rfl
  obtain ⟨e, a₁, cs₁, w₁, hl, hq, harr⟩ := h b (.inBlock id :: k) hk hro hb hr
  have hr1 : F.room (cs₁.length + 1 + n) := hl ▸ hr
  cases e with
  | normal => exact ⟨.normal, a₁, cs₁, w₁, hl, hq, .head h0 stepR_block (StepsIn.trans harr (.one (fenced_calm hb hr1 rfl) stepR_inBlock))⟩
  | exit id' =>
    by_cases hid : id' = id
    · simp only [inBlockS, hid, if_true] at hq
      exact ⟨.normal, a₁, cs₁, w₁, hl, hq, .head h0 stepR_block (harr.1 k (by simp [exitTo, hid]))⟩
    · simp only [inBlockS, hid, if_false] at hq
      have this : (id == id') = false := by simp; exact fun h => hid h.symm
      have hx : exitTo id' (.inBlock id :: k) = exitTo id' k := by simp [exitTo, this]
      exact ⟨.exit id', a₁, cs₁, w₁, hl, hq, fun k' hk => .head h0 stepR_block (harr.1 k' (by rw [hx]; exact hk)),
        fun hr' hk => let ⟨k₁, h1, h2⟩ := harr.2 hr' (by rw [hx]; exact hk); ⟨k₁, h1, .head h0 stepR_block h2⟩⟩
  | goto l =>
    have hx : gotoIn l (.inBlock id :: k) = gotoIn l k := by simp [gotoIn]
    exact ⟨_, a₁, cs₁, w₁, hl, hq, fun k' hk => .head h0 stepR_block (harr.1 k' (by rw [hx]; exact hk)),
      fun hr' hk => let ⟨k₁, h1, h2⟩ := harr.2 hr' (by rw [hx]; exact hk); ⟨k₁, h1, .head h0 stepR_block h2⟩⟩
  | ret => exact ⟨_, a₁, cs₁, w₁, hl, hq, .of_steps (.one h0 stepR_block) harr⟩
  | panic ch => exact ⟨_, a₁, cs₁, w₁, hl, hq, .of_steps (.one h0 stepR_block) harr⟩
  | outgrown => exact ⟨_, a₁, cs₁, w₁, hl, hq, .of_steps (.one h0 stepR_block) harr⟩

theorem recover_op {a : Act} {w : World} {o : Oper} (h : isRecover o = true) : (execOp a.eval o).run P w = .ok .recover w := by
  unfold isRecover at h
  split at h
  · next c hc =>
    split at h
    · next b hb =>
      split at h
      · unfold execOp
        rw [hc]
        simp only [resolve, hb, Sem.run_bind, Sem.run_pure, Result.andThen_ok]
        rfl
      · cases h
    · cases h
  · cases h

theorem evOpsR_ok (hL : LOk0 L P) (ops : Array Oper) {c₀ : Frame} {cs : List Frame} (hmode : c₀.mode = .returning) (l : List Oper) : ∀ (k : Nat), (∀ j, l[j]? = ops[k + j]?) → ∀ (T : Tr AV) (H : AH) (T1 : Tr AV) (H1 : AH), evOpsR L rec ops.toList l T H = some (T1, H1) →
    ∀ (E : Env) (w : World) (a : Act), H.Wf → St B E H w → StT E H.next T a.tmps → (∀ o ∈ l, ∀ d, o.dst = some d → d < a.tmps.size) → ∀ (Q : Exit → Act → List Frame → World → Prop),
      (∀ E1 a1 w1, St B E1 H1 w1 → StT E1 H1.next T1 a1.tmps → Post E H w E1 H1 w1 → H1.Wf → a1.tmps.size = a.tmps.size → a1.defers = a.defers → Q .normal a1 (c₀ :: cs) w1) →
      wpOpsSIn Fence.wide 0 P ops Q (List.range' k l.length) a (c₀ :: cs) w := by
  induction l with
  | nil =>
    intro k _ T H T1 H1 h E w a hw hS hT _ Q hQ
    cases h
    exact hQ E a w hS hT (Post.refl _ _ _) hw rfl rfl
  | cons o l ih =>
    intro k hk T H T1 H1 h E w a hw hS hT hd Q hQ
    have h0 : ops[k]? = some o := by simpa using (hk 0).symm
    have hk' : ∀ j, l[j]? = ops[k + 1 + j]? := fun j => by have := hk (j + 1); simpa [Nat.add_assoc, Nat.add_comm 1 j] using this
    simp only [List.length_cons, List.range'_succ]
    unfold wpOpsSIn
    simp only [h0]
    refine ⟨fun f _ => trivial, ?_⟩
    rw [wanted_ok (hT E (Agree.refl _ _)) ops o]
    unfold evOpsR at h
    rw [lrec_cons] at h
    have hdo := hd o (by simp)
    split at h
    · next hwant =>
      rw [if_pos hwant]
      split at h
      · next hrec =>
        rw [recover_op hrec]
        have hnone : recoverD (c₀ :: cs) = none := by simp [recoverD, hmode]
        simp only [hnone]
        refine ih (k + 1) hk' _ _ _ _ h E w _ hw hS (StT.put hT (v := .nilIfc) (u := .nilIface) (fun _ _ => rfl) hdo) (fun o ho d hod => by rw [put_size]; exact hd o (by simp [ho]) d hod) Q fun E2 a2 w2 k1 k2 k3 k4 k5 k6 => ?_
        exact hQ E2 a2 w2 k1 k2 k3 k4 (k5.trans (put_size _ _ _)) (k6.trans (put_defers _ _ _))
      · next hrec =>
        split at h
        · next v H' hop =>
          have ho := evOp_ok hL hw hS hT hop
          obtain ⟨u, w1, hrun, E1, hv, hS1, hp, hw1⟩ := ho
          have go : wpOpsSIn Fence.wide 0 P ops Q (List.range' (k + 1) l.length) (a.put o.dst u) (c₀ :: cs) w1 := by
            refine ih (k + 1) hk' _ _ _ _ h E1 w1 _ hw1 hS1 (StT.put (hT.up hp.ext hp.next) hv hdo) (fun o ho d hod => by rw [put_size]; exact hd o (by simp [ho]) d hod) Q fun E2 a2 w2 k1 k2 k3 k4 k5 k6 => ?_
            exact hQ E2 a2 w2 k1 k2 (hp.trans k3) k4 (k5.trans (put_size _ _ _)) (k6.trans (put_defers _ _ _))
          rcases hrun with hrun | ⟨hrun, rfl⟩
          · rw [hrun]; exact go
          · rw [hrun]; exact go
        · cases h
    · next hwant =>
      rw [if_neg (by rw [hwant]; simp)]
      refine ih (k + 1) hk' _ _ _ _ h E w _ hw hS (StT.put hT (v := .undef) (u := undef) (fun _ _ => rfl) hdo) (fun o ho d hod => by rw [put_size]; exact hd o (by simp [ho]) d hod) Q fun E2 a2 w2 k1 k2 k3 k4 k5 k6 => ?_
      exact hQ E2 a2 w2 k1 k2 k3 k4 (k5.trans (put_size _ _ _)) (k6.trans (put_defers _ _ _))

theorem evCodeR_ok (hL : LOk0 L P) (hm : P.follows .mixedOrders = true) {m : Nat} (hr : CodeRec P B m rec) (n : Nat) {c₀ : Frame} {cs : List Frame} (hmode : c₀.mode = .returning) (c : Code) : ∀ (T : Tr AV) (H : AH) (out : Out), evCodeR L rec c T H = some out → wfC n c = true →
    ∀ (N : ND) (E : Env) (w : World) (a : Act), Ahead B Fence.wide N E T H w a → n ≤ a.tmps.size → ∀ (Q : Exit → Act → List Frame → World → Prop),
    (∀ e a1 w1, Behind B N E H w a out e a1 w1 → a1.defers = a.defers → Q e a1 (c₀ :: cs) w1) → c.wpSIn Fence.wide 0 P Q a (c₀ :: cs) w := by
  induction c with
  | skip =>
    intro T H out h _ N E w a hA _ Q hQ
    cases h
    exact wpSIn_of_wpIn rfl (wpIn_skip (hQ _ _ _ ⟨⟨E, hA.st, hA.tmps, Post.refl _ _ _, hA.defs⟩, hA.wf, .normal, rfl⟩ rfl))
  | region id ops draw =>
    intro T H out h hwf N E w a hA hn Q hQ
    have h' : (match noOps isRecover (.region id ops draw) with
      | true => (match evRegion L rec ops.toList draw T H with | some r => some (⟨.normal, r.1, r.2⟩ : Out) | none => none)
      | false => (match (generalizing := false) draw with
        | true => none
        | false => (match evOpsR L rec ops.toList ops.toList T H with | some r => some (⟨.normal, r.1, r.2⟩ : Out) | none => none))) = some out := h
    split at h'
    · split at h'
      · next r hr' => cases h'; exact wpSIn_of_wpIn rfl (evRegion_ok hL hm hr.toRecOk open_wide hr' hwf hA hn hQ)
      · cases h'
    · split at h'
      · cases h'
      · split at h'
        · next r hr' =>
          cases h'
          have hd : ∀ o ∈ ops.toList, ∀ d, o.dst = some d → d < a.tmps.size := by
            intro o ho d hod
            simp only [wfC] at hwf
            unfold wfOps at hwf
            have := List.all_eq_true.1 hwf o ho
            rw [hod] at this
            have h2 : d + 1 ≤ n := Nat.le_of_ble_eq_true this
            exact Nat.lt_of_lt_of_le h2 hn
          refine wpSIn_region ?_
          rw [List.range_eq_range', ← Array.length_toList]
          exact evOpsR_ok hL ops hmode ops.toList 0 (fun j => by simp) T H r.1 r.2 hr' E w a hA.wf hA.st hA.tmps hd Q fun E1 a1 w1 h1 h2 h3 h4 h5 h6 =>
            hQ _ _ _ ⟨⟨E1, h1, h2, h3, by rw [h6]; exact hA.defs.post h3⟩, h4, .normal, h5⟩ h6
        · cases h'
  | seq x y ihx ihy =>
    intro T H out h hwf N E w a hA hn Q hQ
    simp only [wfC, Bool.and_eq_true] at hwf
    have h' : (match evCodeR L rec x T H with | some o => (match o.ex with | .normal => evCodeR L rec y o.T o.H | _ => some o) | none => none) = some out := h
    split at h'
    · next o ho =>
      refine wpSIn_seq (ihx T H o ho hwf.1 N E w a hA hn _ fun e a1 w1 hb hd => ?_)
      obtain ⟨⟨E1, h1, h2, h3, h4⟩, h5, h6, h7⟩ := hb
      generalize hex : o.ex = ex at h' h6
      cases h6 with
      | normal => exact ihy o.T o.H out h' hwf.2 N E1 w1 a1 ⟨h5, h1, h2, h4, Nat.le_trans hA.base h3.size, fun l hl => let ⟨r, hr⟩ := hA.rnd l hl; h3.loops l r hr⟩ (by omega) Q fun e2 a2 w2 hb2 hd2 => hQ e2 a2 w2 (hb2.trans h3 h7) (hd2.trans hd)
      | exit id => cases h'; exact hQ _ _ _ ⟨⟨E1, h1, h2, h3, h4⟩, h5, by rw [hex]; exact .exit id, h7⟩ hd
      | ret => cases h'; exact hQ _ _ _ ⟨⟨E1, h1, h2, h3, h4⟩, h5, by rw [hex]; exact .ret, h7⟩ hd
      | goto l => cases h'; exact hQ _ _ _ ⟨⟨E1, h1, h2, h3, h4⟩, h5, by rw [hex]; exact .goto l, h7⟩ hd
    · cases h'
  | cond x y z ihy ihz =>
    intro T H out h hwf N E w a hA hn Q hQ
    simp only [wfC, Bool.and_eq_true] at hwf
    have h' : (match opnd T x with | some (.bool true) => evCodeR L rec y T H | some (.bool false) => evCodeR L rec z T H | _ => none) = some out := h
    split at h'
    · next hx => exact wpSIn_cond (t := true) (by rw [opnd_ok (hA.tmps E (Agree.refl _ _)) hx]; rfl) (ihy T H out h' hwf.1 N E w a hA hn Q hQ)
    · next hx => exact wpSIn_cond (t := false) (by rw [opnd_ok (hA.tmps E (Agree.refl _ _)) hx]; rfl) (ihz T H out h' hwf.2 N E w a hA hn Q hQ)
    · cases h'
  | block id x ih =>
    intro T H out h hwf N E w a hA hn Q hQ
    have h' : (match evCodeR L rec x T H with
      | some o => (match o.ex with | .exit i => (match Nat.beq i id with | true => some (⟨.normal, o.T, o.H⟩ : Out) | false => some o) | _ => some o)
      | none => none) = some out := h
    split at h'
    · next o ho =>
      refine wpSIn_block (ih T H o ho hwf N E w a hA hn _ fun e a1 w1 hb hd => ?_)
      obtain ⟨⟨E1, h1, h2, h3, h4⟩, h5, h6, h7⟩ := hb
      generalize hex : o.ex = ex at h' h6
      cases h6 with
      | normal => cases h'; exact hQ _ _ _ ⟨⟨E1, h1, h2, h3, h4⟩, h5, by rw [hex]; exact .normal, h7⟩ hd
      | exit i =>
        simp only at h'
        show if i = id then Q .normal a1 (c₀ :: cs) w1 else Q (.exit i) a1 (c₀ :: cs) w1
        split at h'
        · next hb => cases h'; rw [if_pos (Nat.eq_of_beq_eq_true hb)]; exact hQ _ _ _ ⟨⟨E1, h1, h2, h3, h4⟩, h5, .normal, h7⟩ hd
        · next hb => cases h'; rw [if_neg (Nat.ne_of_beq_eq_false hb)]; exact hQ _ _ _ ⟨⟨E1, h1, h2, h3, h4⟩, h5, by rw [hex]; exact .exit i, h7⟩ hd
      | ret => cases h'; exact hQ _ _ _ ⟨⟨E1, h1, h2, h3, h4⟩, h5, by rw [hex]; exact .ret, h7⟩ hd
      | goto l => cases h'; exact hQ _ _ _ ⟨⟨E1, h1, h2, h3, h4⟩, h5, by rw [hex]; exact .goto l, h7⟩ hd
    · cases h'
  | loop x ih => intro T H out h; cases h
  | rangeFunc f ps as bd _ _ => intro T H out h; cases h
  | exit id =>
    intro T H out h _ N E w a hA _ Q hQ
    cases h
    exact wpSIn_of_wpIn rfl (wpIn_exit (hQ _ _ _ ⟨⟨E, hA.st, hA.tmps, Post.refl _ _ _, hA.defs⟩, hA.wf, .exit id, rfl⟩ rfl))
  | scope x ih => intro T H out h; cases h
  | label l =>
    intro T H out h _ N E w a hA _ Q hQ
    cases h
    exact wpSIn_of_wpIn rfl (wpIn_label (hQ _ _ _ ⟨⟨E, hA.st, hA.tmps, Post.refl _ _ _, hA.defs⟩, hA.wf, .normal, rfl⟩ rfl))
  | goto l =>
    intro T H out h _ N E w a hA _ Q hQ
    cases h
    exact wpSIn_of_wpIn rfl (wpIn_goto (hQ _ _ _ ⟨⟨E, hA.st, hA.tmps, Post.refl _ _ _, hA.defs⟩, hA.wf, .goto l, rfl⟩ rfl))
  | ret =>
    intro T H out h _ N E w a hA _ Q hQ
    cases h
    exact wpSIn_of_wpIn rfl (wpIn_ret (hQ _ _ _ ⟨⟨E, hA.st, hA.tmps, Post.refl _ _ _, hA.defs⟩, hA.wf, .ret, rfl⟩ rfl))
  | refuse s => intro T H out h; cases h

theorem endOf_ok {o o' : Out} (h : endOf o = some o') : o' = o ∧ (o.ex = .ret ∨ o.ex = .normal) := by
  unfold endOf at h
  split at h
  · next hx => cases h; exact ⟨rfl, .inl hx⟩
  · next hx => cases h; exact ⟨rfl, .inr hx⟩
  · cases h

/-- **A DEFERRED CALL.** -/
theorem evDcall_ok (hL : LOk L P) {m : Nat} (hr : CodeRec P B m rec) (x : Df) : DcOk L P B rec x := by
  intro H1 H1' h E1 w1 us hw hS hus
  unfold evDcall at h
  split at h
  · cases h
  · next fn hf =>
    split at h
    · cases h
    · next c hb =>
      split at h
      · cases h
      · next hlen =>
        rw [len_eq] at hlen
        have hlen := Nat.le_of_ble_eq_true hlen
        split at h
        · cases h
        · next o ho =>
          split at h
          · cases h
          · next o' ho' =>
            obtain ⟨rfl, hex⟩ := endOf_ok ho'
            split at h
            · next vs hres =>
              cases h
              obtain ⟨h1, h2, h3⟩ := hL.func _ fn hf
              have hul : us.length = x.2.length := by rw [hus E1 (Agree.refl _ _), concL_length]
              refine ⟨run_callFunc hL hf hb _ _, callsDIn_of_wpSIn h1 hb trivial fun c₀ cs hmode => ?_⟩
              refine evCodeR_ok hL.toLOk0 hL.mixed hr fn.ntmps hmode c _ H1 o' ho (h3 c hb) ⟨w1.heap.size, []⟩ E1 w1 _ ⟨hw, hS, StT.args hus _, DefOk.nil _ _ _ _, Nat.le_refl _, fun l hl => by cases hl⟩ ?_ _ ?_
              · simp; omega
              · intro e a1 w2 ⟨⟨E2, k1, k2, k3, k4⟩, k5, k6, k7⟩ hd
                have hc : c₀ :: cs = { c₀ with mode := .returning } :: cs := by rw [← hmode]
                have fin : a1.defers = [] ∧ ∃ u', c₀ :: cs = { c₀ with mode := u' } :: cs ∧ ∃ v, (results fn a1.tmps).run P w2 = .ok v w2 ∧ ((∃ v', Ending.returned v = .returned v') ∧ u' = FrameMode.returning ∧ ∃ E2, St B E2 o'.H w2 ∧ Post E1 H1 w1 E2 o'.H w2 ∧ o'.H.Wf) :=
                  ⟨hd, .returning, hc, _, evResults_ok hL.toLOk0 k1.self (k2 E2 (Agree.refl _ _)) hres, ⟨_, rfl⟩, rfl, E2, k1, k3, k5⟩
                rcases hex with hex | hex <;> rw [hex] at k6 <;> cases k6 <;> exact fin
            · cases h

/-! ### A body that defers -/
theorem DefOk.more {N : Nat} {ds : List Df} {E : Env} {H : AH} {w : World} {l : List Deferred} (h : DefOk ⟨N, ds⟩ E H w l) {x : Df} {d : Deferred} (hx : DfR E H.next x d) : DefOk ⟨N, x :: ds⟩ E H w (d :: l) := by
  obtain ⟨h1, h2, h3⟩ := h
  have hm : markOf d = none := by
    obtain ⟨cap, ht, _⟩ := hx
    unfold markOf; rw [ht]
  have e1 : marksOf (d :: l) = marksOf l := by unfold marksOf; rw [List.filterMap_cons, hm]
  have e2 : realsOf (d :: l) = d :: realsOf l := by unfold realsOf; rw [List.filter_cons, hm]; rfl
  exact ⟨by rw [e2]; exact .cons hx h1, by rw [e1]; exact h2, by rw [e1]; exact h3⟩

theorem evDefer_ok {E : Env} {n : Nat} {T : Tr AV} {a : Act} (hT : StT E n T a.tmps) {o : Oper} {x : Df} (h : evDefer T o = some x) (w : World) :
    ∃ d, (execOp a.eval o).run P w = .ok (.defer d) w ∧ DfR E n x d := by
  unfold evDefer at h
  split at h
  · next c hop =>
    split at h
    · next f hf =>
      split at h
      · next g first captured args hg ha =>
        cases h
        have e0 := (opnd_st hT hg).self
        have harr : c.args.map a.eval = (c.args.toList.map a.eval).toArray := by apply Array.ext'; simp
        refine ⟨{ target := .fn (.func g) (concL E captured).toArray, args := (concL E first).toArray ++ (c.args.toList.map a.eval).toArray }, ?_, (concL E captured).toArray, rfl, ?_⟩
        · unfold execOp
          rw [hop]
          simp only [resolve, hf, harr, e0, conc, Deferred.ofValue, Sem.run_bind, Sem.run_pure, Result.andThen_ok]
        · intro E' hE
          have e1 := (opnd_st hT hg) E' hE
          rw [e0] at e1
          simp only [conc, Value.func.injEq] at e1
          have e2 := opnds_ok (hT E' hE) ha
          have e3 : concL E first = concL E' first := by have := congrArg Array.toList e1.2.1; simpa using this
          have e4 : concL E captured = concL E' captured := by have := congrArg Array.toList e1.2.2; simpa using this
          simp only [concL_append, ← e3, ← e4]
          rw [← e2]
          simp [List.append_assoc]
      · cases h
    · cases h
  · cases h

theorem evOpsD_ok (hL : LOk0 L P) (hr : RecOk P B rec) (ops : Array Oper) (l : List Oper) : ∀ (k : Nat), (∀ j, l[j]? = ops[k + j]?) → ∀ (ds : List Df) (T : Tr AV) (H : AH) (r : List Df × Tr AV × AH), evOpsD L rec ops.toList l ds T H = some r →
    ∀ (N : Nat) (E : Env) (w : World) (a : Act), H.Wf → St B E H w → StT E H.next T a.tmps → DefOk ⟨N, ds⟩ E H w a.defers → (∀ o ∈ l, ∀ d, o.dst = some d → d < a.tmps.size) → ∀ (Q : Exit → Act → World → Prop),
      (∀ E1 a1 w1, St B E1 r.2.2 w1 → StT E1 r.2.2.next r.2.1 a1.tmps → Post E H w E1 r.2.2 w1 → r.2.2.Wf → a1.tmps.size = a.tmps.size → DefOk ⟨N, r.1⟩ E1 r.2.2 w1 a1.defers → Q .normal a1 w1) →
      ArrOps Fence.wide P ops Q (List.range' k l.length) a w := by
  induction l with
  | nil =>
    intro k _ ds T H r h N E w a hw hS hT hD _ Q hQ
    cases h
    exact ArrOps.nil (hQ E a w hS hT (Post.refl _ _ _) hw rfl hD)
  | cons o l ih =>
    intro k hk ds T H r h N E w a hw hS hT hD hd Q hQ
    have h0 : ops[k]? = some o := by simpa using (hk 0).symm
    have hk' : ∀ j, l[j]? = ops[k + 1 + j]? := fun j => by have := hk (j + 1); simpa [Nat.add_assoc, Nat.add_comm 1 j] using this
    simp only [List.length_cons, List.range'_succ]
    have hwk := wanted_ok (hT E (Agree.refl _ _)) ops o
    unfold evOpsD at h
    rw [lrec_cons] at h
    have hdo := hd o (by simp)
    split at h
    · next hwant =>
      split at h
      · next hdf =>
        split at h
        · next x hx =>
          obtain ⟨d, hrun, hdr⟩ := evDefer_ok (P := P) hT hx w
          refine ArrOps.op open_wide h0 (hwk.trans hwant) ⟨fun f _ => trivial, ?_⟩
          have hsem : o.semAt Fence.wide.round a.eval = execOp a.eval o := rfl
          rw [hsem, hrun]
          show ArrOps Fence.wide P ops Q _ (({ a with defers := d :: a.defers } : Act).put o.dst undef) w
          have hT' : StT E H.next T ({ a with defers := d :: a.defers } : Act).tmps := hT
          refine ih (k + 1) hk' _ _ _ _ h N E w _ hw hS (StT.put hT' (v := .undef) (u := undef) (fun _ _ => rfl) hdo) (by rw [put_defers]; exact hD.more hdr) (fun o ho d' hod => by rw [put_size]; exact hd o (by simp [ho]) d' hod) Q fun E2 a2 w2 k1 k2 k3 k4 k5 k6 => ?_
          exact hQ E2 a2 w2 k1 k2 k3 k4 (k5.trans (put_size _ _ _)) k6
        · cases h
      · split at h
        · next r' hro =>
          refine evOperS_ok hL hr open_wide hro hw hS hT h0 (hwk.trans hwant) fun u w1 ⟨E1, hv, hS1, hp, hw1⟩ => ?_
          refine ih (k + 1) hk' _ _ _ _ h N E1 w1 _ hw1 hS1 (StT.put (hT.up hp.ext hp.next) hv hdo) (by rw [put_defers]; exact hD.post hp) (fun o ho d hod => by rw [put_size]; exact hd o (by simp [ho]) d hod) Q fun E2 a2 w2 k1 k2 k3 k4 k5 k6 => ?_
          exact hQ E2 a2 w2 k1 k2 (hp.trans k3) k4 (k5.trans (put_size _ _ _)) k6
        · cases h
    · next hwant =>
      refine ArrOps.skip open_wide h0 (hwk.trans hwant) ?_
      refine ih (k + 1) hk' _ _ _ _ h N E w _ hw hS (StT.put hT (v := .undef) (u := undef) (fun _ _ => rfl) hdo) (by rw [put_defers]; exact hD) (fun o ho d hod => by rw [put_size]; exact hd o (by simp [ho]) d hod) Q fun E2 a2 w2 k1 k2 k3 k4 k5 k6 => ?_
      exact hQ E2 a2 w2 k1 k2 k3 k4 (k5.trans (put_size _ _ _)) k6

/-- What holds behind a piece of code, the deferred calls being others. -/
structure BehD (B N : Nat) (ds : List Df) (E : Env) (H : AH) (w : World) (a : Act) (out : Out) (e : Exit) (a1 : Act) (w1 : World) : Prop where
  intro ::
  env : ∃ E1, St B E1 out.H w1 ∧ StT E1 out.H.next out.T a1.tmps ∧ Post E H w E1 out.H w1 ∧ DefOk ⟨N, ds⟩ E1 out.H w1 a1.defers
  wf : out.H.Wf
  ex : ExR out.ex e
  size : a1.tmps.size = a.tmps.size
theorem Behind.beh {B N : Nat} {ds : List Df} {E : Env} {H : AH} {w : World} {a : Act} {out : Out} {e : Exit} {a1 : Act} {w1 : World} (h : Behind B ⟨N, ds⟩ E H w a out e a1 w1) : BehD B N ds E H w a out e a1 w1 := ⟨h.env, h.wf, h.ex, h.size⟩

theorem evCodeD_ok (hL : LOk0 L P) (hm : P.follows .mixedOrders = true) {m : Nat} (hr : CodeRec P B m rec) (n : Nat) (c : Code) : ∀ (ds : List Df) (T : Tr AV) (H : AH) (r : OutD), evCodeD L rec c ds T H = some r → wfC n c = true →
    ∀ (N : Nat) (E : Env) (w : World) (a : Act), Ahead B Fence.wide ⟨N, ds⟩ E T H w a → n ≤ a.tmps.size → ∀ (Q : Exit → Act → World → Prop),
    (∀ e a1 w1, BehD B N r.1 E H w a r.2 e a1 w1 → Q e a1 w1) → c.wpIn Fence.wide 0 P Q a w := by
  induction c with
  | skip =>
    intro ds T H r h _ N E w a hA _ Q hQ
    cases h
    exact wpIn_skip (hQ _ _ _ ⟨⟨E, hA.st, hA.tmps, Post.refl _ _ _, hA.defs⟩, hA.wf, .normal, rfl⟩)
  | region id ops draw =>
    intro ds T H r h hwf N E w a hA hn Q hQ
    have h' : (match noOps isDefer (.region id ops draw) with
      | true => (match evRegion L rec ops.toList draw T H with | some r => some ((ds, ⟨.normal, r.1, r.2⟩) : OutD) | none => none)
      | false => (match (generalizing := false) draw with
        | true => none
        | false => (match evOpsD L rec ops.toList ops.toList ds T H with | some r => some ((r.1, ⟨.normal, r.2.1, r.2.2⟩) : OutD) | none => none))) = some r := h
    split at h'
    · split at h'
      · next r' hr' => cases h'; exact evRegion_ok hL hm hr.toRecOk open_wide hr' hwf hA hn fun e a1 w1 hb _ => hQ e a1 w1 hb.beh
      · cases h'
    · split at h'
      · cases h'
      · split at h'
        · next r' hr' =>
          cases h'
          have hd : ∀ o ∈ ops.toList, ∀ d, o.dst = some d → d < a.tmps.size := by
            intro o ho d hod
            simp only [wfC] at hwf
            unfold wfOps at hwf
            have := List.all_eq_true.1 hwf o ho
            rw [hod] at this
            have h2 : d + 1 ≤ n := Nat.le_of_ble_eq_true this
            exact Nat.lt_of_lt_of_le h2 hn
          have hx := evOpsD_ok hL hr.toRecOk ops ops.toList 0 (fun j => by simp) ds T H r' hr' N E w a hA.wf hA.st hA.tmps hA.defs hd Q fun E1 a1 w1 h1 h2 h3 h4 h5 h6 =>
            hQ _ _ _ ⟨⟨E1, h1, h2, h3, h6⟩, h4, .normal, h5⟩
          rw [Array.length_toList, ← List.range_eq_range'] at hx
          exact fun b k cs hro hb hr => let ⟨e, a', w', q, r⟩ := hx b k cs hro hb hr; ⟨e, a', w', q, .of_steps (.one (fenced_calm hb hr rfl) stepR_region) r⟩
        · cases h'
  | seq x y ihx ihy =>
    intro ds T H r h hwf N E w a hA hn Q hQ
    simp only [wfC, Bool.and_eq_true] at hwf
    have h' : (match evCodeD L rec x ds T H with | some r => (match r.2.ex with | .normal => evCodeD L rec y r.1 r.2.T r.2.H | _ => some r) | none => none) = some r := h
    split at h'
    · next o ho =>
      refine wpIn_seq (ihx ds T H o ho hwf.1 N E w a hA hn _ fun e a1 w1 hb => ?_)
      obtain ⟨⟨E1, h1, h2, h3, h4⟩, h5, h6, h7⟩ := hb
      generalize hex : o.2.ex = ex at h' h6
      cases h6 with
      | normal => exact ihy o.1 o.2.T o.2.H r h' hwf.2 N E1 w1 a1 ⟨h5, h1, h2, h4, Nat.le_trans hA.base h3.size, fun l hl => let ⟨r, hr⟩ := hA.rnd l hl; h3.loops l r hr⟩ (by omega) Q fun e2 a2 w2 ⟨⟨E2, j1, j2, j3, j4⟩, j5, j6, j7⟩ => hQ e2 a2 w2 ⟨⟨E2, j1, j2, h3.trans j3, j4⟩, j5, j6, j7.trans h7⟩
      | exit id => cases h'; exact hQ _ _ _ ⟨⟨E1, h1, h2, h3, h4⟩, h5, by rw [hex]; exact .exit id, h7⟩
      | ret => cases h'; exact hQ _ _ _ ⟨⟨E1, h1, h2, h3, h4⟩, h5, by rw [hex]; exact .ret, h7⟩
      | goto l => cases h'; exact hQ _ _ _ ⟨⟨E1, h1, h2, h3, h4⟩, h5, by rw [hex]; exact .goto l, h7⟩
    · cases h'
  | cond x y z ihy ihz =>
    intro ds T H r h hwf N E w a hA hn Q hQ
    simp only [wfC, Bool.and_eq_true] at hwf
    have h' : (match opnd T x with | some (.bool true) => evCodeD L rec y ds T H | some (.bool false) => evCodeD L rec z ds T H | _ => none) = some r := h
    split at h'
    · next hx => exact wpIn_cond_true (by rw [opnd_ok (hA.tmps E (Agree.refl _ _)) hx]; rfl) (ihy ds T H r h' hwf.1 N E w a hA hn Q hQ)
    · next hx => exact wpIn_cond_false (by rw [opnd_ok (hA.tmps E (Agree.refl _ _)) hx]; rfl) (ihz ds T H r h' hwf.2 N E w a hA hn Q hQ)
    · cases h'
  | block id x ih =>
    intro ds T H r h hwf N E w a hA hn Q hQ
    have h' : (match evCodeD L rec x ds T H with
      | some r => (match r.2.ex with | .exit i => (match Nat.beq i id with | true => some ((r.1, ⟨.normal, r.2.T, r.2.H⟩) : OutD) | false => some r) | _ => some r)
      | none => none) = some r := h
    split at h'
    · next o ho =>
      refine wpIn_block (ih ds T H o ho hwf N E w a hA hn _ fun e a1 w1 hb => ?_)
      obtain ⟨⟨E1, h1, h2, h3, h4⟩, h5, h6, h7⟩ := hb
      generalize hex : o.2.ex = ex at h' h6
      cases h6 with
      | normal => cases h'; exact hQ _ _ _ ⟨⟨E1, h1, h2, h3, h4⟩, h5, by rw [hex]; exact .normal, h7⟩
      | exit i =>
        simp only at h'
        show if i = id then Q .normal a1 w1 else Q (.exit i) a1 w1
        split at h'
        · next hb => cases h'; rw [if_pos (Nat.eq_of_beq_eq_true hb)]; exact hQ _ _ _ ⟨⟨E1, h1, h2, h3, h4⟩, h5, .normal, h7⟩
        · next hb => cases h'; rw [if_neg (Nat.ne_of_beq_eq_false hb)]; exact hQ _ _ _ ⟨⟨E1, h1, h2, h3, h4⟩, h5, by rw [hex]; exact .exit i, h7⟩
      | ret => cases h'; exact hQ _ _ _ ⟨⟨E1, h1, h2, h3, h4⟩, h5, by rw [hex]; exact .ret, h7⟩
      | goto l => cases h'; exact hQ _ _ _ ⟨⟨E1, h1, h2, h3, h4⟩, h5, by rw [hex]; exact .goto l, h7⟩
    · cases h'
  | loop x ih =>
    intro ds T H r h hwf N E w a hA hn Q hQ
    have h' : (match noOps isDefer x with
      | true => (match rec (.loop x T H) with | some o => some ((ds, o) : OutD) | none => none)
      | false => none) = some r := h
    split at h'
    · split at h'
      · next o ho => cases h'; exact wpIn_loop_rounds m (hr.loop x T H o ho Fence.wide open_wide ⟨N, ds⟩ n hwf E w a hA hn Q fun e a1 w1 hb => hQ e a1 w1 hb.beh)
      · cases h'
    · cases h'
  | rangeFunc f ps as bd _ _ =>
    intro ds T H r h hwf N E w a hA hn Q hQ
    simp only [wfC, Bool.and_eq_true] at hwf
    have h' : (match noOps isDefer as && noOps isDefer bd with
      | true => (match opnd T f with | some g => (match rec (.range g ps.toList as bd T H) with | some o => some ((ds, o) : OutD) | none => none) | none => none)
      | false => none) = some r := h
    split at h'
    · split at h'
      · next g hg =>
        split at h'
        · next o ho =>
          cases h'
          exact hr.range g ps as bd T H o ho Fence.wide open_wide ⟨N, ds⟩ n (fun d hd => Nat.le_of_ble_eq_true (List.all_eq_true.1 hwf.1.1 d hd)) hwf.1.2 hwf.2 f E w a hA hn (opnd_st hA.tmps hg) Q fun e a1 w1 hb => hQ e a1 w1 hb.beh
        · cases h'
      · cases h'
    · cases h'
  | exit id =>
    intro ds T H r h _ N E w a hA _ Q hQ
    cases h
    exact wpIn_exit (hQ _ _ _ ⟨⟨E, hA.st, hA.tmps, Post.refl _ _ _, hA.defs⟩, hA.wf, .exit id, rfl⟩)
  | scope x ih =>
    intro ds T H r h hwf N E w a hA hn Q hQ
    have h' : (match evCodeD L rec x ds T H with | some r => (match r.2.ex with | .goto _ => none | _ => some r) | none => none) = some r := h
    split at h'
    · next o ho =>
      refine wpIn_scope (ih ds T H o ho hwf N E w a hA hn _ fun e a1 w1 hb => ?_)
      obtain ⟨⟨E1, h1, h2, h3, h4⟩, h5, h6, h7⟩ := hb
      generalize hex : o.2.ex = ex at h' h6
      cases h6 with
      | normal => cases h'; exact hQ _ _ _ ⟨⟨E1, h1, h2, h3, h4⟩, h5, by rw [hex]; exact .normal, h7⟩
      | exit i => cases h'; exact hQ _ _ _ ⟨⟨E1, h1, h2, h3, h4⟩, h5, by rw [hex]; exact .exit i, h7⟩
      | ret => cases h'; exact hQ _ _ _ ⟨⟨E1, h1, h2, h3, h4⟩, h5, by rw [hex]; exact .ret, h7⟩
      | goto l => cases h'
    · cases h'
  | label l =>
    intro ds T H r h _ N E w a hA _ Q hQ
    cases h
    exact wpIn_label (hQ _ _ _ ⟨⟨E, hA.st, hA.tmps, Post.refl _ _ _, hA.defs⟩, hA.wf, .normal, rfl⟩)
  | goto l =>
    intro ds T H r h _ N E w a hA _ Q hQ
    cases h
    exact wpIn_goto (hQ _ _ _ ⟨⟨E, hA.st, hA.tmps, Post.refl _ _ _, hA.defs⟩, hA.wf, .goto l, rfl⟩)
  | ret =>
    intro ds T H r h _ N E w a hA _ Q hQ
    cases h
    exact wpIn_ret (hQ _ _ _ ⟨⟨E, hA.st, hA.tmps, Post.refl _ _ _, hA.defs⟩, hA.wf, .ret, rfl⟩)
  | refuse s => intro ds T H r h; cases h

theorem outVal_outOf (vs : List AV) (H : AH) : outVal (outOf vs H) = tupOf vs := by
  cases vs with
  | nil => rfl
  | cons v vs => cases vs <;> rfl
theorem outH_outOf (vs : List AV) (H : AH) : (outOf vs H).H = H := by
  cases vs with
  | nil => rfl
  | cons v vs => cases vs <;> rfl

/-- **THE CALL OF A FUNCTION THAT DEFERS.** -/
theorem evCallD_ok (hL : LOk L P) {m : Nat} (hr : CodeRec P B m rec) {f : FuncId} {args : List AV} {H : AH} {out : Out} (h : evCallD L rec f args H = some out)
    {E : Env} {w : World} {us : List Value} (hw : H.Wf) (hS : St B E H w) (hus : StL E H.next args us) : CallOk P B E H w f us (outVal out) out.H := by
  unfold evCallD at h
  split at h
  · cases h
  · next fn hf =>
    split at h
    · cases h
    · next c hb =>
      split at h
      · cases h
      · next hlen =>
        rw [len_eq] at hlen
        have hlen := Nat.le_of_ble_eq_true hlen
        split at h
        · cases h
        · next r hc =>
          split at h
          · cases h
          · next o' ho' =>
            obtain ⟨rfl, hex⟩ := endOf_ok ho'
            split at h
            · cases h
            · next H' hlv =>
              split at h
              · next vs hres =>
                cases h
                rw [outVal_outOf, outH_outOf]
                unfold CallOk
                rw [run_callFunc hL hf hb]
                obtain ⟨h1, h2, h3⟩ := hL.func f fn hf
                have hul : us.length = args.length := by rw [hus E (Agree.refl _ _), concL_length]
                refine callsIn_of_wp_marks h1 hb trivial ?_ rfl
                refine evCodeD_ok hL.toLOk0 hL.mixed hr fn.ntmps c [] _ H r hc (h3 c hb) w.heap.size E w _ ⟨hw, hS, StT.args hus _, DefOk.nil _ _ _ _, Nat.le_refl _, fun l hl => by cases hl⟩ ?_ _ ?_
                · simp; omega
                · intro e a1 w1 ⟨⟨E1, k1, k2, k3, k4⟩, k5, k6, k7⟩
                  have fin : LeavesInM Fence.wide 0 P fn a1.tmps (fun e w1 => ∃ u, e = .returned u ∧ Done B E H w (tupOf vs) H' u w1) a1.defers .returning w1 :=
                    leaves_ok hL.toLOk0 (Nat.le_refl _) hres a1.defers r.1 E1 r.2.H w1 (fun x _ => evDcall_ok hL hr x) hlv k5 k2 k4 k1 k3
                  rcases hex with hex | hex <;> rw [hex] at k6 <;> cases k6 <;> exact fin
              · cases h
end
end Go.Ev

set_option linter.unusedSimpArgs false
set_option linter.unusedVariables false
namespace Go.Ev
section
variable {L : Lk} {P : Program} {B : Nat}

theorem evReq_ok (hL : LOk L P) (hX : ExtOk L P B) : ∀ n, CodeRec P B n (evReq L n) := by
  intro n
  induction n with
  | zero => exact ⟨⟨fun _ _ _ _ h => (by cases h), fun _ _ _ _ h => (by cases h)⟩, fun _ _ _ _ h => (by cases h), fun _ _ _ _ _ _ _ h => (by cases h)⟩
  | succ n ih =>
    refine ⟨⟨?_, ?_⟩, ?_, ?_⟩
    · intro f args H out h E w us hw hS hus
      have h : (match tryExt L f args H with
        | some p => some (out1 p.1 p.2)
        | none => match L.dfn f with
        | true => evCallD L (evReq L n) f args H
        | false => match L.func f with
          | none => none
          | some fn => match fn.body with
            | none => none
            | some c => match Nat.ble (len args) fn.ntmps with
              | false => none
              | true => match evCode L (evReq L n) c (setArgs args 0 .nil) H with
                | none => none
                | some o => match o.ex with
                  | .ret | .normal => (match evResults L o.T o.H fn.results.toList with
                    | some vs => (match vs with | [v] => some (out1 v o.H) | vs => some (out1 (.tup vs) o.H))
                    | none => none)
                  | _ => none) = some out := h
      split at h
      · next p hp =>
        cases h
        unfold tryExt at hp
        split at hp
        · next g hg => exact hX f g hg args H p hp E w us hw hS hus
        · cases hp
      · split at h
        · exact evCallD_ok hL ih h hw hS hus
        split at h
        · cases h
        · next fn hfn =>
          split at h
          · cases h
          · next c hc =>
            split at h
            · cases h
            · next hlen =>
              rw [len_eq] at hlen
              split at h
              · cases h
              · next o ho =>
                have fin : (o.ex = .ret ∨ o.ex = .normal) → (match evResults L o.T o.H fn.results.toList with
                    | some vs => (match vs with | [v] => some (out1 v o.H) | vs => some (out1 (.tup vs) o.H))
                    | none => none) = some out → CallOk P B E H w f us (outVal out) out.H := by
                  intro hex h
                  split at h
                  · next vs hvs =>
                    have he : out = out1 (tupOf vs) o.H := by
                      cases vs with
                      | nil => cases h; rfl
                      | cons v vs => cases vs with
                        | nil => cases h; rfl
                        | cons v' vs => cases h; rfl
                    rw [he]
                    exact call_ok hL ih hfn hc (Nat.le_of_ble_eq_true hlen) ho hex hvs hw hS hus
                  · cases h
                split at h
                · next hex => exact fin (.inl hex) h
                · next hex => exact fin (.inr hex) h
                · cases h
    · intro l args H out h E w us hw hS hus
      have h : (match Nat.ble H.lo l, H.get l with
        | true, some (.loop .ready none T _ ps assign body) => (match Nat.beq (len args) (len ps) with
          | false => none
          | true => match evCode L (evReq L n) assign (setParams (ps.zip args) T) H with
            | none => none
            | some o1 => match o1.ex with
              | .normal => (match o1.H.get l with
                | some (.loop .ready none T2 n2 ps2 as2 bd2) => (match evCode L (evReq L n) body o1.T (o1.H.put l (.loop .busy none T2 n2 ps2 as2 bd2)) with
                  | none => none
                  | some o2 => match o2.H.get l with
                    | some (.loop .busy _ T n ps assign body) => (match o2.ex with
                      | .normal => some (out1 (.bool true) (o2.H.put l (.loop .ready none T n ps assign body)))
                      | .exit id => some (out1 (.bool false) (o2.H.put l (.loop .done (some (.exit id)) T n ps assign body)))
                      | .ret => some (out1 (.bool false) (o2.H.put l (.loop .done (some .ret) T n ps assign body)))
                      | .goto _ => none)
                    | _ => none)
                | _ => none)
              | _ => none)
        | _, _ => none) = some out := h
      split at h
      · next T k ps assign body hlo hg =>
        split at h
        · cases h
        · next hlen =>
          have hlen := Nat.eq_of_beq_eq_true hlen
          rw [len_eq, len_eq] at hlen
          split at h
          · cases h
          · next o1 ho1 =>
            split at h
            · next hx1 =>
              split at h
              · next T2 n2 ps2 as2 bd2 hg1 =>
                split at h
                · cases h
                · next o2 ho2 =>
                  split at h
                  · next pe T3 n3 ps3 as3 bd3 hg2 =>
                    refine round_ok hL ih (Nat.le_of_ble_eq_true hlo) hg hlen ho1 hx1 hg1 ho2 hg2 ?_ hw hS hus
                    split at h
                    · next hx => cases h; exact .inl ⟨hx, rfl⟩
                    · next id hx => cases h; exact .inr (.inl ⟨id, hx, rfl⟩)
                    · next hx => cases h; exact .inr (.inr ⟨hx, rfl⟩)
                    · cases h
                  · cases h
              · cases h
            · cases h
      · cases h
    · intro body T H out h F hF N m hwf E w a hA hm Q hQ
      have h : (match evCode L (evReq L n) body T H with
        | none => none
        | some o => match o.ex with
          | .normal => evReq L n (.loop body o.T o.H)
          | _ => some o) = some out := h
      split at h
      · cases h
      · next o ho =>
        rw [roundsIn_succ]
        refine evCode_ok hL.toLOk0 hL.mixed ih m body F hF T H o ho hwf N E w a hA hm _ fun e a1 w1 hb => ?_
        obtain ⟨⟨E1, h1, h2, h3, h4⟩, h5, h6, h7⟩ := hb
        generalize hex : o.ex = ex at h h6
        cases h6 with
        | normal => exact ih.loop body o.T o.H out h F hF N m hwf E1 w1 a1 ⟨h5, h1, h2, h4, Nat.le_trans hA.base h3.size, fun l hl => let ⟨r, hr⟩ := hA.rnd l hl; h3.loops l r hr⟩ (by omega) Q fun e2 a2 w2 hb2 => hQ e2 a2 w2 (hb2.trans h3 h7)
        | exit id => cases h; exact hQ _ _ _ ⟨⟨E1, h1, h2, h3, h4⟩, h5, by rw [hex]; exact .exit id, h7⟩
        | ret => cases h; exact hQ _ _ _ ⟨⟨E1, h1, h2, h3, h4⟩, h5, by rw [hex]; exact .ret, h7⟩
        | goto l => cases h; exact hQ _ _ _ ⟨⟨E1, h1, h2, h3, h4⟩, h5, by rw [hex]; exact .goto l, h7⟩
    · intro g ps assign body T H out h F hF N m hps hwa hwb x E w a hA hm hx Q hQ
      have h : (match evCallFn g [.yld H.next] with
        | some (.enter f args) => (match L.func f with
          | none => none
          | some fn => match fn.body with
            | none => none
            | some _ => match evReq L n (.call f args (H.new (.loop .ready none T 0 ps.toList assign body))) with
              | none => none
              | some o => match Nat.ble o.H.lo H.next, o.H.get H.next with
                | true, some (.loop st pend _ _ _ _ _) => (match st with
                  | .busy => none
                  | _ => match pend with
                    | none => some ⟨.normal, T, o.H.put H.next .defd⟩
                    | some (.exit id) => some ⟨.exit id, T, o.H.put H.next .defd⟩
                    | some .ret => some ⟨.ret, T, o.H.put H.next .defd⟩
                    | _ => none)
                | _, _ => none)
        | _ => none) = some out := h
      split at h
      · next f args hcf =>
        split at h
        · cases h
        · next fn hfn =>
          split at h
          · cases h
          · next c hc =>
            split at h
            · cases h
            · next o ho =>
              split at h
              · next st pend T5 n5 ps5 as5 bd5 hlo hg =>
                have go := fun hst hout => range_ok (out := out) hL ih hF hcf hfn hc ho (Nat.le_of_ble_eq_true hlo) hg hst hout hps hwa hwb hA hm hx hQ
                split at h
                · cases h
                · next hne =>
                  split at h
                  · cases h; exact go hne (.inl ⟨rfl, rfl⟩)
                  · cases h; exact go hne (.inr (.inl ⟨_, rfl, rfl⟩))
                  · cases h; exact go hne (.inr (.inr ⟨rfl, rfl⟩))
                  · cases h
              · cases h
      · cases h
end

/-- The heap of a program that has none of its own. -/
noncomputable def H0 : AH := { tree := .nil, next := 0, lo := 0, hide := [] }
theorem H0_get (i : Nat) : H0.get i = none := by
  unfold AH.get H0
  cases AH.vis { tree := .nil, next := 0, lo := 0, hide := [] } i with
  | false => rfl
  | true => exact Tr.get_nil i
theorem H0_wf : H0.Wf := ⟨fun i b h => (by rw [show H0.tree.get i = none from Tr.get_nil i] at h; cases h), Nat.le_refl _, fun r hr => by cases hr⟩
theorem H0_st (E : Env) (w : World) : St w.heap.size E H0 w := fun E' _ =>
  ⟨fun i b h => (by rw [H0_get] at h; cases h), fun i j b c h => (by rw [H0_get] at h; cases h), fun i b h => (by rw [H0_get] at h; cases h), Nat.le_refl _⟩

end Go.Ev

set_option linter.unusedSimpArgs false
set_option linter.unusedVariables false
namespace Go.Ev
open Go.RowKit
section
variable {L : Lk} {P : Program}

/-- Did it come to the answer true, with no cell marked? -/
noncomputable def saysTrue (o : Option Out) : Bool :=
  match o with
  | some o => (match outVal o with | .bool b => (match b with | true => (match o.H.fz with | true => false | false => true) | false => false) | _ => false)
  | none => false
theorem saysTrue_ok {o : Option Out} (h : saysTrue o = true) : ∃ out, o = some out ∧ outVal out = .bool true ∧ out.H.fz = false := by
  unfold saysTrue at h
  split at h
  · next out =>
    split at h
    · next b hb =>
      split at h
      · split at h
        · cases h
        · next hz => exact ⟨out, rfl, hb, hz⟩
      · cases h
    · cases h
  · cases h

end
end Go.Ev

set_option linter.unusedSimpArgs false
set_option linter.unusedVariables false
namespace Go.Ev

/-- Is a function one that the evaluation may enter? -/
def fitFn (fn : Func) : Bool := !(fn.name == "runtime.NumGoroutine") && (match fn.body with | some c => wfC fn.ntmps c | none => true)
noncomputable def lkOf (P : Program) (fs : Tr Func) (ts : Tr TypeInfo) : Lk :=
  { func := fun f => fs.get f, info := fun t => ts.get t, plainEq := fun t => !P.stoodInHeld t && !P.eqGuardType P.depth t, ext := fun _ => none }

theorem lkOf_ok {P : Program} (hm : P.follows .mixedOrders = true) (hf : P.funcs.toList.all fitFn = true) : LOk (lkOf P (Tr.ofList P.funcs.toList) (Tr.ofList P.types.toList)) P where
  info t i h := by
    have h : (Tr.ofList P.types.toList).get t = some i := h
    rw [Tr.get_ofList] at h
    have h2 : P.types[t]? = some i := by simpa using h
    unfold Tables.info?
    rw [if_pos (Array.getElem?_eq_some_iff.1 h2).1]
    exact h2
  plainEq t h := by
    have h : (!P.stoodInHeld t && !P.eqGuardType P.depth t) = true := h
    simpa using h
  func f fn h := by
    have h : (Tr.ofList P.funcs.toList).get f = some fn := h
    rw [Tr.get_ofList] at h
    have h2 := List.all_eq_true.1 hf fn (List.mem_of_getElem? h)
    unfold fitFn at h2
    rw [Bool.and_eq_true] at h2
    refine ⟨by simpa using h, by simpa using h2.1, fun c hc => ?_⟩
    have := h2.2
    rw [hc] at this
    exact this
  mixed := hm
  zt t z h := by cases h
end Go.Ev
