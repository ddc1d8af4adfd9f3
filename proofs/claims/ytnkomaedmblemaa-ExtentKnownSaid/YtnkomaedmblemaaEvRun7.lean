import Derived.Test.YtnkomaedmblemaaEvRun6
import Derived.RangeFuncNested
set_option linter.unusedSimpArgs false
set_option linter.unusedVariables false
namespace Go.Ev
section
variable {L : Lk} {P : Program} {B : Nat} {rec : Rec} {F : Fence}

theorem St.junk {E : Env} {H : AH} {w : World} (h : St B E H w) (o : Obj) : St B E H (wNew w o) := by
  intro E' hE
  have k := h E' hE
  exact ⟨fun i b hg => (k.blk i b hg).congr fun hl => wNew_lt ((k.blk i b hg).obj hl), k.inj, k.base, by rw [wNew_size]; exact Nat.le_succ_of_le k.size⟩
theorem Post.junk (E : Env) (H : AH) (w : World) (o : Obj) (hz : ∀ off, objFz o off = false := by intro off; simp [objFz]) : Post E H w E H (wNew w o) :=
  ⟨Agree.refl _ _, Nat.le_refl _, rfl, rfl, rfl, rfl, rfl, by rw [wNew_size]; omega, fun c hc _ => wNew_lt hc, fun _ h => .inl h, fun _ _ => rfl, fun c r h => ⟨r, (wNew_lt (Array.getElem?_eq_some_iff.1 h).1).trans h⟩, fun h => ⟨h, wNew_froz hz⟩⟩
theorem St.not_own {E : Env} {H : AH} {w : World} (h : St B E H w) {c : Nat} {x : Option (List Deferred)} (hc : w.heap[c]? = some (.deferred x)) : ¬ Own E H c := by
  rintro ⟨i, b, hg, hb, _, he⟩
  have hr := h.self.blk i b hg
  cases b with
  | cells vs e z op ro => obtain ⟨cs, e, fz, h1, _⟩ := hr; rw [he, hc] at h1; cases h1
  | map es c => simp only [BRel] at hr; rw [he, hc] at hr; cases hr
  | loop st p T n ps a b => obtain ⟨r', h1, _⟩ := hr; rw [he, hc] at h1; cases h1
  | siter s p => simp only [BRel] at hr; rw [he, hc] at hr; cases hr
  | defd => cases hb

theorem enter_ok {N : Nat} {E : Env} {T : Tr AV} {H : AH} {w : World} {a : Act} (hA : Ahead B F N E T H w a) (ps : Array Tmp) (assign body : Code) :
    ∃ (mk : List Nat) (w0 : World) (D : Nat), (∀ fn, (Instr.enterLoop fn a.tmps ps assign body F.round).run P w = .ok (w0.heap.size, mk.map mark) (wNew w0 (.loop { state := .ready, pending := none, fn, tmps := a.tmps, params := ps, assign, body, defers := D }))) ∧
      St B E H w0 ∧ Post E H w E H w0 ∧ (mk = [] ∨ (mk = [w.heap.size] ∧ w0.heap[w.heap.size]? = some (.deferred (some [])))) := by
  cases hro : F.round with
  | none =>
    refine ⟨[w.heap.size], wNew w (.deferred (some [])), w.heap.size, fun fn => ?_, hA.st.junk _, Post.junk _ _ _ _, .inr ⟨rfl, wNew_self⟩⟩
    rw [run_enterLoop_outer, wNew_size]
    rfl
  | some l0 =>
    obtain ⟨r, hr⟩ := hA.rnd l0 hro
    refine ⟨[], w, r.defers, fun fn => ?_, hA.st, Post.refl _ _ _, .inl rfl⟩
    rw [run_enterLoop_inner hr]
    rfl

theorem andThen_ok_inv {α β : Type} {r : Result α} {f : α → World → Result β} {b : β} {w' : World} (h : r.andThen f = .ok b w') : ∃ x w1, r = .ok x w1 ∧ f x w1 = .ok b w' := by
  cases r with
  | ok x w1 => exact ⟨x, w1, rfl, h⟩
  | halt x w1 => cases h

theorem range_ok (hL : LOk L P) {m : Nat} (hr : CodeRec P B m rec) (hF : Open F) {g : AV} {ps : Array Tmp} {assign body : Code} {T : Tr AV} {H : AH} {f : FuncId} {args : List AV} {fn : Func} {c : Code} {o out : Out}
    (hcf : evCallFn g [.yld H.next] = some (.enter f args)) (hf : L.func f = some fn) (hb : fn.body = some c) (hcall : rec (.call f args (H.new (.loop .ready none T 0 ps.toList assign body))) = some o) (hlo : o.H.lo ≤ H.next)
    {st : LoopState} {pend : Option Code} {T5 : Tr AV} {n5 : Nat} {ps5 : List Tmp} {as5 bd5 : Code} (hgl : o.H.get H.next = some (.loop st pend T5 n5 ps5 as5 bd5)) (hst : st ≠ .busy)
    (hout : (pend = none ∧ out = ⟨.normal, T, o.H.put H.next .defd⟩) ∨ (∃ id, pend = some (.exit id) ∧ out = ⟨.exit id, T, o.H.put H.next .defd⟩) ∨ (pend = some .ret ∧ out = ⟨.ret, T, o.H.put H.next .defd⟩))
    {N n : Nat} (hps : ∀ d ∈ ps.toList, d < n) (hwa : wfC n assign = true) (hwb : wfC n body = true) {x : Operand} {E : Env} {w : World} {a : Act} (hA : Ahead B F N E T H w a) (hn : n ≤ a.tmps.size) (hx : StV E H.next g (a.eval x))
    {Q : Exit → Act → World → Prop} (hQ : ∀ e a1 w1, Behind B N E H w a out e a1 w1 → Q e a1 w1) : (Code.rangeFunc x ps assign body).wpIn F 0 P Q a w := by
  obtain ⟨mk, w0, D, hent, hS0, hP0, hmk⟩ := enter_ok (P := P) hA ps assign body
  refine wpIn_rangeFunc fun fnid hfn => ?_
  obtain ⟨rc, hrc⟩ : ∃ rc : Loop, rc = { state := .ready, pending := none, fn := fnid, tmps := a.tmps, params := ps, assign, body, defers := D } := ⟨_, rfl⟩
  have hent := hent fnid
  rw [← hrc] at hent
  obtain ⟨n1, n2, n3⟩ := new_ok hA.wf hS0 (.loop .ready none T 0 ps.toList assign body) (.loop rc) 0 (fun E' hE he => by
    refine ⟨rc, ?_, by rw [hrc], by rw [hrc], ?_, by rw [hrc], by rw [hrc], by rw [hrc], n, ?_, hwa, hwb, hps⟩
    · rw [he]; exact wNew_self
    · rw [hrc]; exact hA.tmps E' hE
    · rw [hrc]; exact hn)
  have hadd : E.add H.next ⟨w0.heap.size, 0, 0⟩ H.next = ⟨w0.heap.size, 0, 0⟩ := Env.add_self _ _ _
  have hus0 : StL (E.add H.next ⟨w0.heap.size, 0, 0⟩) (H.new (.loop .ready none T 0 ps.toList assign body)).next [.yld H.next] [.func (.yield w0.heap.size) #[] #[]] := fun E' hE => by
    have : E' H.next = ⟨w0.heap.size, 0, 0⟩ := (hE H.next (Nat.lt_succ_self _)).trans hadd
    simp [concL, conc, this]
  have how := evCallFn_ok (P := P) (B := B) (w := wNew w0 (.loop rc)) n3 (hx.up n2.ext n2.next) hus0 hcf
  obtain ⟨us, hus, hrun⟩ := how
  rw [run_callFunc hL hf hb, Sem.run_bind] at hrun
  obtain ⟨d, w1', hd1, hd2⟩ := andThen_ok_inv hrun
  have hcl := hr.call f args _ o hcall _ _ us n3 n1 hus
  unfold CallOk at hcl
  rw [run_callFunc hL hf hb] at hcl
  refine ⟨w0.heap.size, mk.map mark, wNew w0 (.loop rc), d, w1', f, us.toArray, wNew w0 (.loop rc), hent, ?_, fun f' _ => hF.1 f', hd2, depth_open hF 0, ?_⟩
  · have : (resolve a.eval (rangeCall x w0.heap.size) 0) = Deferred.ofValue (a.eval x) [Value.func (.yield w0.heap.size) #[] #[]].toArray := by
      simp [resolve, rangeCall, Act.eval]
    rw [this]; exact hd1
  refine (callsIn_open open_wide hF hcl).mono fun e w3 ⟨u, he, E3, _, q1, q2, q3⟩ => ?_
  subst he
  have hE3 : E3 H.next = ⟨w0.heap.size, 0, 0⟩ := (q2.ext H.next (Nat.lt_succ_self _)).trans hadd
  obtain ⟨r3, p1, p2, p3, _⟩ := q1.self.loopOf hgl
  obtain ⟨z1, z2, z3⟩ := put_ok q3 q1 hgl rfl hlo .defd (.loop { r3 with state := .exhausted }) (fun _ _ => ⟨_, rfl⟩) (fun x off hx => by rw [p1] at hx; cases hx; rfl) (fun _ _ => trivial)
  have hbe : ∀ e', ExR out.ex e' → out.T = T → out.H = o.H.put H.next .defd → Behind B N E H w a out e' { a with defers := mk.map mark ++ a.defers } (w3.putObj (E3 H.next).blk (.loop { r3 with state := .exhausted })) := by
    intro e' hex hT hH
    have hpost : Post E H w E3 (o.H.put H.next .defd) (w3.putObj (E3 H.next).blk (.loop { r3 with state := .exhausted })) := ((hP0.trans n2).trans q2).trans z2
    refine ⟨⟨E3, by rw [hH]; exact z1, ?_, by rw [hH]; exact hpost, ?_⟩, by rw [hH]; exact z3, hex, rfl⟩
    · rw [hT, hH]; exact hA.tmps.up hpost.ext hpost.next
    · rw [hH]
      obtain ⟨rs, e1, e2, e3⟩ := hA.defs
      have hlt : ∀ r ∈ rs, r < w.heap.size := fun r hr => (e3 r hr).2.1
      obtain ⟨rs', e1', e2', e3'⟩ := hA.defs.post hpost
      rcases hmk with rfl | ⟨rfl, hdf⟩
      · exact ⟨rs', by rw [← e1']; rfl, e2', e3'⟩
      · have hrs : rs' = rs := by
          rw [e1] at e1'
          have hinj : ∀ (l l' : List Nat), l.map mark = l'.map mark → l = l' := by
            intro l
            induction l with
            | nil => intro l' h; cases l' with | nil => rfl | cons _ _ => cases h
            | cons y l ih =>
              intro l' h
              cases l' with
              | nil => cases h
              | cons y' l' =>
                simp only [List.map_cons, List.cons.injEq] at h
                obtain ⟨h1, h2⟩ := h
                simp only [mark, Deferred.mk.injEq, Target.collected.injEq, and_true] at h1
                rw [h1, ih l' h2]
          exact (hinj _ _ e1').symm
        subst hrs
        have hd0 : (wNew w0 (.loop rc)).heap[w.heap.size]? = some (.deferred (some [])) := (wNew_lt (Array.getElem?_eq_some_iff.1 hdf).1).trans hdf
        have hd3 : (w3.putObj (E3 H.next).blk (.loop { r3 with state := .exhausted })).heap[w.heap.size]? = some (.deferred (some [])) := ((q2.trans z2).frame _ (Array.getElem?_eq_some_iff.1 hd0).1 (n1.not_own hd0)).trans hd0
        refine ⟨w.heap.size :: rs', by rw [e1']; rfl, ?_, ?_⟩
        · rw [List.nodup_cons]
          exact ⟨fun hm => Nat.lt_irrefl _ (hlt _ hm), e2'⟩
        · intro r hr
          rcases List.mem_cons.1 hr with rfl | hr
          · exact ⟨hA.base, (Array.getElem?_eq_some_iff.1 hd3).1, hd3, z1.not_own hd3⟩
          · exact e3' r hr
  refine ⟨pend, w3.putObj (E3 H.next).blk (.loop { r3 with state := .exhausted }), ?_, ?_⟩
  · have := run_endLoop (P := P) p1 (by rw [p2]; exact hst)
    rw [hE3] at this ⊢
    rw [← p3]
    exact this
  · rcases hout with ⟨hp, he⟩ | ⟨id, hp, he⟩ | ⟨hp, he⟩
    · rw [hp]
      exact hQ _ _ _ (hbe .normal (by rw [he]; exact .normal) (by rw [he]) (by rw [he]))
    · rw [hp]
      exact wpIn_exit (hQ _ _ _ (hbe (.exit id) (by rw [he]; exact .exit id) (by rw [he]) (by rw [he])))
    · rw [hp]
      exact wpIn_ret (hQ _ _ _ (hbe .ret (by rw [he]; exact .ret) (by rw [he]) (by rw [he])))
end
end Go.Ev
