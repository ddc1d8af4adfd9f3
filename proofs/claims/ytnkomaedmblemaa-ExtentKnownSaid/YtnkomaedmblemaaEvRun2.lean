import Derived.Test.YtnkomaedmblemaaEvDraw4
set_option linter.unusedSimpArgs false
set_option linter.unusedVariables false
namespace Go.Ev
section
variable {L : Lk} {P : Program} {B : Nat} {rec : Rec} {F : Fence}

structure Inv (L : Lk) (B : Nat) (all : List Oper) (T : Tr AV) (H : AH) (ss : List Stp) (E0 : Env) (w0 : World) (a0 : Act) (D : Nat → Bool) (E : Env) (w : World) (a : Act) : Prop where
  closed : Closed all D
  st : St B E (HD L D ss H) w
  wf : (HD L D ss H).Wf
  tmps : StT E (HD L D ss H).next (TD D ss T) a.tmps
  post : Post E0 H w0 E (HD L D ss H) w
  size : a.tmps.size = a0.tmps.size
  defs : a.defers = a0.defers
  mono : Mono L H ss D

theorem StT.congr {E : Env} {n : Nat} {T T' : Tr AV} {tmps : Array Value} (h : StT E n T tmps) (he : ∀ t, getT T' t = getT T t) : StT E n T' tmps := by
  intro E' hE t
  rw [he t]
  exact h E' hE t

theorem evOper_congr {T T' : Tr AV} {all : List Oper} {o : Oper} {H : AH} (h : ∀ t ∈ looksT all o, getT T t = getT T' t) : evOper L rec T o H = evOper L rec T' o H := by
  unfold evOper
  rw [evOp_congr (L := L) (T := T) (T' := T') (o := o) (H := H) fun t ht => h t (opds_looks ht)]

theorem draw_step (hL : LOk0 L P) (hr : RecOk P B rec) (hF : Open F) {ops : Array Oper} {T T1 : Tr AV} {H H1 : AH} {ss a b : List Stp} {s : Stp} {D : Nat → Bool} {E0 E : Env} {w0 w : World} {a0 act : Act} {Q : Exit → Act → World → Prop}
    (hAt : At L rec ops.toList T H ss T1 H1 D a s b) (hI : Inv L B ops.toList T H ss E0 w0 a0 D E w act) (hd : ∀ o ∈ ops.toList, ∀ d, o.dst = some d → d < a0.tmps.size) {K : Act → World → Prop}
    (hK : ∀ E2 w2 a2, Inv L B ops.toList T H ss E0 w0 a0 (ins D s.x.1) E2 w2 a2 → K a2 w2) : wpOpIn F 0 P ops Q s.x.1 K act w := by
  have h0 : ops[s.x.1]? = some s.x.2.2 := by have := hAt.k1.op; simpa using this
  have hdo : ∀ d, s.x.2.2.dst = some d → d < act.tmps.size := fun d hdd => by
    rw [hI.size]; exact hd _ (List.mem_of_getElem? hAt.k1.op) d hdd
  unfold wpOpIn
  simp only [h0]
  rw [wanted_ok (hI.tmps E (Agree.refl _ _)) ops s.x.2.2, wantedA_congr (all := ops.toList) fun t ht => hAt.looks ht]
  have hlk : ∀ t ∈ looksT ops.toList s.x.2.2, getT (TD D ss T) t = getT s.T t := fun t ht => hAt.looks ht
  -- where the operation leaves the heap as the one order says
  have fin : ∀ (u : Value) (E2 : Env) (w2 : World), St B E2 (HD L (ins D s.x.1) ss H) w2 → (HD L (ins D s.x.1) ss H).Wf → StV E2 (HD L (ins D s.x.1) ss H).next s.v u → Post E (HD L D ss H) w E2 (HD L (ins D s.x.1) ss H) w2 → (∀ r ∈ a, isRead L r.x.2.2 = true → Nat.testBit s.x.2.1 r.x.1 = false → SubN r s.H s.H') →
      K (act.put s.x.2.2.dst u) w2 := by
    intro u E2 w2 h1 h2 h3 h4 h5
    refine hK E2 w2 _ ⟨hAt.closed, h1, h2, ?_, hI.post.trans h4, (put_size _ _ _).trans hI.size, (put_defers _ _ _).trans hI.defs, hAt.mono hI.mono h5⟩
    exact (StT.put (hI.tmps.up h4.ext h4.next) h3 hdo).congr fun t => hAt.temps t
  rcases hAt.k1.step with ⟨hw, hv, hH⟩ | ⟨hw, hcase⟩
  · rw [if_neg (by rw [hw]; simp)]
    refine ⟨fun f _ => hF.1 f, ?_⟩
    have he : HD L (ins D s.x.1) ss H = HD L D ss H := by
      by_cases hh : isHeavy L s.x.2.2 = true
      · rw [hAt.heapThen hh, hAt.heapNow hh, hH]
      · exact hAt.heapLight (by simpa using hh)
    refine fin undef E w ?_ ?_ ?_ ?_ ?_
    · rw [he]; exact hI.st
    · rw [he]; exact hI.wf
    · rw [hv]; exact fun _ _ => rfl
    · rw [he]; exact Post.refl _ _ _
    · intro r _ _ _; rw [hH]; exact fun _ _ _ hg => hg
  · rw [if_pos hw]
    rcases hcase with ⟨hh, ⟨H2, hev⟩, hH⟩ | ⟨hh, hwt, hev⟩ | ⟨hh, hfar, hev⟩ | ⟨hh, hwt, H2, hev, hH⟩
    · have he := hAt.heapLight hh
      have hev2 : evOper L rec (TD D ss T) s.x.2.2 (HD L D ss H) = some (s.v, HD L D ss H) := by
        rw [evOper_congr (all := ops.toList) hlk]
        unfold evOper at hev ⊢
        cases hop : evOp L s.T s.x.2.2 s.H with
        | none => rw [hop] at hev; cases hev
        | some nx =>
          rw [hop] at hev
          have key : ∃ v, nx = .val v s.H ∧ evOp L s.T s.x.2.2 (HD L D ss H) = some (.val v (HD L D ss H)) := by
            rcases light_kind hh with hp | ⟨hp, hr'⟩
            · obtain ⟨v, h1, h2⟩ := pure_any hp hop
              exact ⟨v, h1, h2 _⟩
            · obtain ⟨v, h1, h2⟩ := read_anyN (r := s) hp hop
              refine ⟨v, h1, h2 _ (hI.mono a s b hAt.eq hr' hAt.new (hAt.heavyL ?_))⟩
              cases hx : isFree L s.x.2.2 with
              | false => rfl
              | true => exact (isRead_free hr' hx).elim
          obtain ⟨v, rfl, h2⟩ := key
          rw [h2]
          simp only [Option.some.injEq, Prod.mk.injEq] at hev ⊢
          exact ⟨hev.1, trivial⟩
      refine evOper_ok hL hr hF hev2 hI.wf hI.st hI.tmps fun u w1 ⟨E1, hv, hS1, hp, hw1⟩ => ?_
      refine fin u E1 w1 ?_ ?_ ?_ ?_ ?_
      · rw [he]; exact hS1
      · rw [he]; exact hw1
      · rw [he]; exact hv
      · rw [he]; exact hp
      · intro r _ _ _; rw [hH]; exact fun _ _ _ hg => hg
    · have e1 := hAt.heapNow hh
      have e2 := hAt.heapThen hh
      have hev2 : evOper L rec (TD D ss T) s.x.2.2 (HD L D ss H) = some (s.v, s.H') := by
        rw [evOper_congr (all := ops.toList) hlk, e1]; exact hev
      refine evOper_ok hL hr hF hev2 hI.wf hI.st hI.tmps fun u w1 ⟨E1, hv, hS1, hp, hw1⟩ => ?_
      refine fin u E1 w1 ?_ ?_ ?_ ?_ ?_
      · rw [e2]; exact hS1
      · rw [e2]; exact hw1
      · rw [e2]; exact hv
      · rw [e2]; exact hp
      · intro r hra hr hb
        have := (hAt.left r hra).watch hr hb
        rw [hwt] at this; cases this
    · have e1 := hAt.heapNow hh
      have e2 := hAt.heapThen hh
      have hev2 : evOper L rec (TD D ss T) s.x.2.2 (HD L D ss H) = some (s.v, s.H') := by
        rw [evOper_congr (all := ops.toList) hlk, e1]; exact hev
      refine evOper_ok hL hr hF hev2 hI.wf hI.st hI.tmps fun u w1 ⟨E1, hv, hS1, hp, hw1⟩ => ?_
      refine fin u E1 w1 ?_ ?_ ?_ ?_ ?_
      · rw [e2]; exact hS1
      · rw [e2]; exact hw1
      · rw [e2]; exact hv
      · rw [e2]; exact hp
      · intro r hra hr hb i b hn hg
        obtain ⟨t, k, vo, j, o, hop, hgk, hrest⟩ := far_ok hfar
        obtain ⟨a1, a2, haa⟩ := List.append_of_mem hra
        have hch := hAt.S.chain
        rw [hAt.eq] at hch
        have hpre := hch.pre
        rw [haa] at hpre
        simp only [List.map_append, List.map_cons, List.reverse_append, List.reverse_cons, List.append_nil, List.append_assoc, List.singleton_append] at hpre
        obtain ⟨t', k', i', o', h1, h2, h3, h4⟩ := hrest _ _ _ hpre hr hb
        have hsT := (hch.at a).1
        have hrT : r.T = TD tt a1 T := by
          have hch2 := hch
          rw [haa, List.append_assoc, List.cons_append] at hch2
          exact (hch2.at a1).1
        have hgt : getT s.T k' = getT r.T k' := by
          rw [hsT, haa, TD_append, ← hrT]
          refine TD_none _ _ fun z hz _ hd => h4 z.x ?_ hd
          rcases List.mem_cons.1 hz with rfl | hz
          · simp
          · rw [List.mem_append]; left; rw [List.mem_reverse, List.mem_map]; exact ⟨z, hz, rfl⟩
        have hrk : r.T.get k' = some (.ptr i' o') := by
          unfold getT at hgt
          rw [h2] at hgt
          cases hc : r.T.get k' with
          | none => rw [hc] at hgt; cases hgt
          | some x => rw [hc] at hgt; simp only [Option.getD_some] at hgt; rw [hgt]
        have hii : i = i' := hn t' k' i' o' h1 hrk
        rw [store_other hop hgk hev (by rw [hii]; exact h3)]
        exact hg
    · have e1 := hAt.heapNow hh
      have e2 := hAt.heapThen hh
      have hwf : ({ HD L D ss H with lo := (HD L D ss H).next } : AH).Wf := ⟨hI.wf.tree, Nat.le_refl _, hI.wf.hide⟩
      have hev2 : evOper L rec (TD D ss T) s.x.2.2 { HD L D ss H with lo := (HD L D ss H).next } = some (s.v, H2) := by
        rw [evOper_congr (all := ops.toList) hlk, e1]; exact hev
      refine evOper_ok hL hr hF hev2 hwf (hI.st.relo _) hI.tmps fun u w1 ⟨E1, hv, hS1, hp, hw1⟩ => ?_
      obtain ⟨r1, r2, r3⟩ := relo hI.wf hp hw1
      rw [e1] at r2 r3
      have e3 : ({ H2 with lo := (HD L D ss H).lo } : AH) = s.H' := by rw [e1, hH]
      have e4 : ({ H2 with lo := s.H.lo } : AH) = s.H' := hH.symm
      refine fin u E1 w1 ?_ ?_ ?_ ?_ ?_
      · rw [e2, ← e4]; exact hS1.relo _
      · rw [e2, ← e4]; exact r2
      · rw [e2, ← e4]; exact hv
      · rw [e2, ← e3]; exact r1
      · intro r _ _ _; rw [← e4]; exact r3.toN

theorem evDraw_ok (hL : LOk0 L P) (hm : P.follows .mixedOrders = true) (hr : RecOk P B rec) (hF : Open F) (ops : Array Oper) {T : Tr AV} {H : AH} {T1 : Tr AV} {H1 : AH} {pl : List Ent}
    (hpl : plan L ops.toList = some pl) (h : evDraw L rec ops.toList pl [] T H = some (T1, H1))
    (E : Env) (w : World) (a : Act) (hw : H.Wf) (hS : St B E H w) (hT : StT E H.next T a.tmps) (hd : ∀ o ∈ ops.toList, ∀ d, o.dst = some d → d < a.tmps.size) (Q : Exit → Act → World → Prop)
    (hQ : ∀ E1 a1 w1, St B E1 H1 w1 → StT E1 H1.next T1 a1.tmps → Post E H w E1 H1 w1 → H1.Wf → a1.tmps.size = a.tmps.size → a1.defers = a.defers → Q .normal a1 w1) (t : Nat) :
    wpOpsIn F 0 P ops Q (Region.schedule (P.follows .mixedOrders) ops t) a { w with drawn := w.drawn + 1 } := by
  obtain ⟨ss, hmap, hch⟩ := evDraw_chain pl [] T H T1 H1 h
  unfold plan at hpl
  split at hpl
  · next pl' han =>
    split at hpl
    · next hcov =>
      cases hpl
      obtain ⟨k1, k2, _, k4⟩ := annot_chain _ [] pl T H ss T1 H1 han hmap hch (fun y hy => by cases hy)
      have hSteps : Steps L rec ops.toList T H ss T1 H1 := ⟨hch, k1, k2, fun a s b he e hm hb => (k4 a s b he e hm hb).elim (fun ⟨_, hy, _⟩ => by cases hy) id, fun i hi => by
        obtain ⟨y, hy, hyi⟩ := covers_ok hcov i (by rw [len_eq]; exact hi)
        rw [← hmap, List.mem_map] at hy
        obtain ⟨s, hs, rfl⟩ := hy
        exact ⟨s, hs, hyi⟩⟩
      simp only [Region.schedule, hm, Bool.true_or, if_true]
      refine wpAnyIn_sound ops.size t _ a _ ?_
      -- every order
      have key : ∀ (fuel : Nat) (listed : Array Bool) (E2 : Env) (w2 : World) (a2 : Act), listed.size = ops.size → listed.toList.countP (fun x => !x) ≤ fuel → Inv L B ops.toList T H ss E w a (fun i => listed.getD i false) E2 w2 a2 →
          wpAnyIn F 0 P .any ops Q fuel listed a2 w2 := by
        have done : ∀ (listed : Array Bool) (E2 : Env) (w2 : World) (a2 : Act), listed.size = ops.size → Inv L B ops.toList T H ss E w a (fun i => listed.getD i false) E2 w2 a2 → Region.ready .any ops listed = [] → Q .normal a2 w2 := by
          intro listed E2 w2 a2 hsz hI hnil
          have hall : ∀ (d c : List Stp), ss = c ++ d → (∀ s ∈ c, listed.getD s.x.1 false = true) → ∀ s ∈ ss, listed.getD s.x.1 false = true := by
            intro d
            induction d with
            | nil => intro c hc hs s hm; rw [hc, List.append_nil] at hm; exact hs s hm
            | cons x d ih =>
              intro c hc hs
              refine ih (c ++ [x]) (by rw [hc]; simp) fun y hy => ?_
              rw [List.mem_append, List.mem_singleton] at hy
              rcases hy with hy | rfl
              · exact hs y hy
              · cases hx : listed.getD y.x.1 false with
                | true => rfl
                | false =>
                  exfalso
                  have hop := (k1 y (by rw [hc]; simp)).op
                  have hop' : ops[y.x.1]? = some y.x.2.2 := by simpa using hop
                  have hlt : y.x.1 < ops.size := (Array.getElem?_eq_some_iff.1 hop').1
                  have hmem : y.x.1 ∈ Region.ready .any ops listed := by
                    unfold Region.ready
                    rw [List.mem_filter]
                    refine ⟨List.mem_range.2 hlt, ?_⟩
                    rw [hop']
                    simp only [Option.map_some, Option.getD_some, Bool.and_eq_true, Bool.not_eq_true']
                    refine ⟨?_, ?_⟩
                    · simp only [Array.getD_eq_getD_getElem?] at hx ⊢
                      rw [Array.getElem?_eq_getElem (by omega)] at hx ⊢
                      exact hx
                    · rw [← Array.all_toList, List.all_eq_true]
                      intro e he
                      cases hb : Region.binds .any e with
                      | false => rfl
                      | true =>
                        obtain ⟨z, hz, hze⟩ := hSteps.deps c y d hc e he hb
                        rw [← hze, hs z hz]; rfl
                  rw [hnil] at hmem
                  cases hmem
          have hD := hall ss [] rfl (fun _ hs => by cases hs)
          obtain ⟨e1, e2⟩ := hch.end
          have eH : HD L (fun i => listed.getD i false) ss H = H1 := by
            rw [e2]
            exact HD_same ss H fun s hs _ => hD s hs
          have h1 := hI.st
          have h2 := hI.tmps
          have h3 := hI.post
          have h4 := hI.wf
          rw [eH] at h1 h2 h3 h4
          refine hQ E2 a2 w2 h1 (h2.congr fun t => ?_) h3 h4 hI.size hI.defs
          rw [e1]
          exact TD_same ss T T (fun s hs hne => absurd (hD s hs) hne) rfl |>.symm
        intro fuel
        induction fuel with
        | zero =>
          intro listed E2 w2 a2 hsz hc hI
          have hnil : Region.ready .any ops listed = [] := by
            rw [List.eq_nil_iff_forall_not_mem]
            intro i hi
            unfold Region.ready at hi
            rw [List.mem_filter] at hi
            simp only [Bool.and_eq_true, Bool.not_eq_true'] at hi
            obtain ⟨hr1, hr2, _⟩ := hi
            have hlt := List.mem_range.1 hr1
            have h0 : listed.toList.countP (fun x => !x) = 0 := by omega
            rw [List.countP_eq_zero] at h0
            simp only [Array.getD_eq_getD_getElem?] at hr2
            rw [Array.getElem?_eq_getElem (by omega)] at hr2
            exact h0 listed[i] (by simp) (by simpa using hr2)
          exact ⟨hnil, done listed E2 w2 a2 hsz hI hnil⟩
        | succ fuel ih =>
          intro listed E2 w2 a2 hsz hc hI
          refine ⟨done listed E2 w2 a2 hsz hI, fun i hi => ?_⟩
          unfold Region.ready at hi
          rw [List.mem_filter] at hi
          simp only [Bool.and_eq_true, Bool.not_eq_true'] at hi
          obtain ⟨hr1, hr2, hr3⟩ := hi
          have hlt := List.mem_range.1 hr1
          obtain ⟨s, hs, hsi⟩ := hSteps.all i (by simpa using hlt)
          obtain ⟨c, d, hcd⟩ := List.append_of_mem hs
          have hop := (k1 s hs).op
          have hop' : ops[s.x.1]? = some s.x.2.2 := by simpa using hop
          have hnew : listed[i]'(by omega) = false := by
            simp only [Array.getD_eq_getD_getElem?] at hr2
            rw [Array.getElem?_eq_getElem (by omega)] at hr2
            exact hr2
          have hAt : At L rec ops.toList T H ss T1 H1 (fun i => listed.getD i false) c s d := ⟨hSteps, hcd, hI.closed, by
            show listed.getD s.x.1 false = false
            rw [hsi]
            simp only [Array.getD_eq_getD_getElem?]
            rw [Array.getElem?_eq_getElem (by omega)]
            exact hnew, by
            intro e he hb
            rw [← hsi, hop'] at hr3
            simp only [Option.map_some, Option.getD_some] at hr3
            rw [← Array.all_toList, List.all_eq_true] at hr3
            have := hr3 e he
            rw [hb] at this
            simpa using this⟩
          rw [← hsi]
          refine draw_step hL hr hF hAt hI hd fun E3 w3 a3 hI3 => ?_
          refine ih _ E3 w3 a3 (by simpa using hsz) ?_ ?_
          · rw [hsi, Array.toList_setIfInBounds, List.countP_set (by simpa using (by omega : i < listed.size))]
            simp only [Array.getElem_toList, hnew, Bool.not_false, if_true, Bool.not_true, Bool.false_eq_true, if_false]
            omega
          · have : (fun j => (listed.setIfInBounds s.x.1 true).getD j false) = ins (fun i => listed.getD i false) s.x.1 := by
              funext j
              unfold ins
              simp only [Array.getD_eq_getD_getElem?, Array.getElem?_setIfInBounds]
              by_cases hj : s.x.1 = j
              · subst hj
                rw [if_pos rfl, if_pos rfl, if_pos (by rw [hsi]; omega)]
                rfl
              · rw [if_neg hj, if_neg (fun e => hj e.symm)]
            rw [this]
            exact hI3
      have hf : (fun i => (Array.replicate ops.size false).getD i false) = fun _ => false := by
        funext i
        simp only [Array.getD_eq_getD_getElem?, Array.getElem?_replicate]
        split <;> rfl
      refine key ops.size _ E _ a (by simp) ?_ ?_
      · exact Nat.le_trans List.countP_le_length (by simp)
      · rw [hf]
        have eH : HD L (fun _ => false) ss H = H := HD_none ss H fun _ _ _ => rfl
        refine ⟨fun _ _ _ hf => (by cases hf), ?_, ?_, ?_, ?_, rfl, rfl, ?_⟩
        · rw [eH]; exact hS.drawn _
        · rw [eH]; exact hw
        · rw [eH]; exact hT.congr fun t => TD_none ss T fun _ _ hf => by cases hf
        · rw [eH]; exact Post.drawn _
        · intro c s d hcd hrd _ hl
          rw [eH]
          have hc2 := hch
          rw [hcd] at hc2
          rw [(hc2.at c).2, HD_light]
          · exact fun _ _ _ hg => hg
          · intro y hy
            cases hyh : isHeavy L y.x.2.2 with
            | false => rfl
            | true => have := hl y hy hyh; cases this
    · cases hpl
  · cases hpl
end
end Go.Ev
