import Derived.Test.YtnkomaedmblemaaEvOp14
import Derived.OrdersIn
import Derived.RangeFuncLeaves
import Derived.RangeFuncRecord
set_option linter.unusedSimpArgs false
set_option linter.unusedVariables false
namespace Go.Ev

/-- A fence that lets everything in (of an activation, or of a round). -/
def Open (F : Fence) : Prop := (∀ f, F.fn f) ∧ F.depth = none ∧ F.alive = false
theorem open_wide : Open Fence.wide := ⟨fun _ => trivial, rfl, rfl⟩
theorem Open.inRound {F : Fence} (h : Open F) (l : Nat) : Open (F.inRound l) := h
theorem fenced_open {P : Program} {K : Fence} (hK : Open K) : Machine.fenced P K = fun _ => True := by
  funext mm
  refine eq_true fun g _ => ⟨?_, Or.inl (hK.1 _), fun f _ => hK.1 f, fun d hd => ?_⟩
  · intro h; rw [hK.2.2] at h; cases h
  · rw [hK.2.1] at hd; cases hd
theorem room_open {K : Fence} (hK : Open K) (n : Nat) : K.room n := by
  intro d hd
  rw [hK.2.1] at hd; cases hd
theorem depth_open {K : Fence} (hK : Open K) (n : Nat) : K.depth.isSome = true → 1 ≤ n := by
  intro h
  rw [hK.2.1] at h; cases h
theorem callsIn_open {F G : Fence} (hF : Open F) (hG : Open G) {n m : Nat} {P : Program} {f : FuncId} {args : Array Value} {w : World} {R : Ending → World → Prop} (h : CallsIn F n P f args w R) : CallsIn G m P f args w R := by
  refine ⟨hG.1 f, fun cs _ => ?_⟩
  obtain ⟨e, w', fr, hR, hc, hx⟩ := h.2 cs (room_open hF _)
  refine ⟨e, w', fr, hR, ?_, hx⟩
  rw [fenced_open hF] at hc
  rw [fenced_open hG]
  exact hc

/-- The contract of one call, of a function or of a summary. -/
def CallOk (P : Program) (B : Nat) (E : Env) (H : AH) (w : World) (f : FuncId) (us : List Value) (v : AV) (H1 : AH) : Prop :=
  match (callFunc f us.toArray).run P w with
  | .ok (.value u) w1 => Done B E H w v H1 u w1
  | .ok (.enter g vs) w' => CallsIn Fence.wide 0 P g vs w' fun e w1 => ∃ u, e = .returned u ∧ Done B E H w v H1 u w1
  | _ => False

structure RecOk (P : Program) (B : Nat) (rec : Rec) : Prop where
  call : ∀ f args H out, rec (.call f args H) = some out → ∀ E w us, H.Wf → St B E H w → StL E H.next args us → CallOk P B E H w f us (outVal out) out.H
  round : ∀ l args H out, rec (.round l args H) = some out → ∀ E w us, H.Wf → St B E H w → StL E H.next args us →
    ∃ g tmps as bd w', (Instr.yield (E l).blk us.toArray).run P w = .ok (.round (E l).blk g tmps as bd) w' ∧
      ∀ F, Open F → F.round = none → RoundIn F 0 P (E l).blk g tmps as bd w' fun e w1 => ∃ u, e = .returned u ∧ Done B E H w (outVal out) out.H u w1

section
variable {L : Lk} {P : Program} {B : Nat} {rec : Rec} {F : Fence}

theorem roundIn_open {F G : Fence} (hF : Open F) (hG : Open G) {n m : Nat} {P : Program} {l : Nat} {f : FuncId} {tmps : Array Value} {as bd : Code} {w : World} {R : Ending → World → Prop} (h : RoundIn F n P l f tmps as bd w R) : RoundIn G m P l f tmps as bd w R := by
  refine ⟨hG.1 f, fun c cs _ => ?_⟩
  obtain ⟨e, w', hR, hc⟩ := h.2 c cs (room_open hF _)
  refine ⟨e, w', hR, ?_⟩
  rw [fenced_open hF] at hc
  rw [fenced_open hG]
  exact hc

theorem evOper_ok (hL : LOk0 L P) (hr : RecOk P B rec) (hF : Open F) {T : Tr AV} {o : Oper} {H : AH} {v : AV} {H1 : AH} (h : evOper L rec T o H = some (v, H1))
    {E : Env} {w : World} {a : Act} (hw : H.Wf) (hS : St B E H w) (hT : StT E H.next T a.tmps) {K : Act → World → Prop} {Q : Exit → Act → World → Prop}
    (hK : ∀ u w1, Done B E H w v H1 u w1 → K (a.put o.dst u) w1) : o.wpIn F 0 P a w K Q := by
  unfold evOper at h
  refine ⟨fun f _ => hF.1 f, ?_⟩
  split at h
  · cases h
  · next nx hnx =>
    have hop : ∀ c, o.op ≠ .defer c := by
      intro c hc
      unfold evOp at hnx
      rw [hc] at hnx
      cases hnx
    rw [Oper.semAt_eq F.round a.eval o hop]
    have ho := evOp_ok hL hw hS hT hnx
    split at h
    · next v' H' =>
      cases h
      obtain ⟨u, w1, hrun, hd⟩ := ho
      rcases hrun with hrun | ⟨hrun, rfl⟩
      · rw [hrun]; exact hK u w1 hd
      · rw [hrun]; exact hK undef w1 hd
    · next f args =>
      split at h
      · next out hout =>
        cases h
        obtain ⟨us, hus, hrun⟩ := ho
        rw [hrun]
        have hc := hr.call f args H out hout E w us hw hS hus
        unfold CallOk at hc
        split at hc
        · next u w1 he => rw [he]; exact hK u w1 hc
        · next g vs w' he =>
          rw [he]
          refine ⟨depth_open hF _, (callsIn_open open_wide hF hc).mono fun e w1 ⟨u, he', hd⟩ => ?_⟩
          subst he'
          exact hK u w1 hd
        · exact hc.elim
      · cases h
    · next l args =>
      split at h
      · next out hout =>
        cases h
        obtain ⟨us, hus, hrun, hlt⟩ := ho
        rw [hrun]
        obtain ⟨g, tmps, as, bd, w', hy, hro⟩ := hr.round l args H out hout E w us hw hS hus
        rw [hy]
        refine ⟨depth_open hF _, (roundIn_open open_wide hF (hro Fence.wide open_wide rfl)).mono fun e w1 ⟨u, he', hd⟩ => ?_⟩
        subst he'
        exact hK u w1 hd
      · cases h

/-! ### A region in the order of the text -/
theorem StT.put {E : Env} {n : Nat} {T : Tr AV} {a : Act} (hT : StT E n T a.tmps) {d : Option Tmp} {v : AV} {u : Value} (hv : StV E n v u) (hd : ∀ t, d = some t → t < a.tmps.size) : StT E n (putT T d v) (a.put d u).tmps := by
  intro E' hE t
  cases d with
  | none => exact hT E' hE t
  | some d =>
    have hlt := hd d rfl
    show (a.tmps.setIfInBounds d u).getD t undef = conc E' (getT (T.set d v) t)
    rw [getT_set]
    by_cases h : t = d
    · subst h
      rw [if_pos rfl]
      simp [hlt, hv E' hE]
    · rw [if_neg h, ← hT E' hE t]
      simp [Array.getD_eq_getD_getElem?, Array.getElem?_setIfInBounds, Ne.symm h]
theorem put_size (a : Act) (d : Option Tmp) (u : Value) : (a.put d u).tmps.size = a.tmps.size := by cases d <;> simp [Act.put]
theorem put_defers (a : Act) (d : Option Tmp) (u : Value) : (a.put d u).defers = a.defers := by cases d <;> rfl

theorem wanted_ok {E : Env} {T : Tr AV} {tmps : Array Value} (hT : TRel E T tmps) (ops : Array Oper) (o : Oper) : Region.wanted o (yielded ops tmps) = wantedA ops.toList T o := by
  unfold Region.wanted wantedA
  cases o.guard with
  | none => rfl
  | some g =>
    obtain ⟨j, want⟩ := g
    simp only [nth_eq, yielded, Array.getElem?_toList]
    cases ops[j]? with
    | none => rfl
    | some oj =>
      simp only [Option.bind_some]
      cases oj.dst with
      | none => rfl
      | some d =>
        simp only [Option.bind_some]
        have h := hT d
        unfold getT at h
        have hd : tmps[d]? = none ∨ tmps[d]? = some (tmps.getD d undef) := by
          cases he : tmps[d]? with
          | none => exact .inl rfl
          | some u => right; simp [Array.getD_eq_getD_getElem?, he]
        rcases hd with hd | hd
        · have hu : tmps.getD d undef = undef := by simp [Array.getD_eq_getD_getElem?, hd]
          rw [hu] at h
          rw [hd]
          cases hg : T.get d with
          | none => rfl
          | some v =>
            rw [hg] at h
            cases v <;> first | rfl | cases h
        · rw [hd, h]
          cases hg : T.get d with
          | none => rfl
          | some v =>
            cases v <;> first | rfl | (simp only [Option.getD_some, conc]; rename_i b; cases b <;> cases want <;> rfl)

theorem evEnd_ok (hL : LOk0 L P) {T : Tr AV} {o : Oper} {H : AH} {v : AV} {H1 : AH} (h : evEnd L T o H = some (v, H1))
    {E : Env} {w : World} {a : Act} (hw : H.Wf) (hS : St B E H w) (hT : StT E H.next T a.tmps) :
    (∃ u, (execOp a.eval o).run P w = .ok (.value u) w ∧ Done B E H w v H1 u w) ∧ ∀ c, o.op ≠ .defer c := by
  obtain ⟨dst, op, ty, pos, after, guard⟩ := o
  unfold evEnd at h
  split at h
  · next t x lo hi heq =>
    simp only at heq
    subst heq
    refine ⟨?_, fun c hc => by cases hc⟩
    split at h
    · next v0 av bv hv ha hb =>
      split at h
      · next i o n c =>
        split at h
        · next e hu =>
          split at h
          · next l hh z hl hhi hz =>
            split at h
            · next hbb =>
              cases h
              rw [Bool.and_eq_true] at hbb
              obtain ⟨hbb, b3⟩ := hbb
              rw [Bool.and_eq_true] at hbb
              obtain ⟨b1, b2⟩ := hbb
              have e1 : l = c := Nat.eq_of_beq_eq_true b1
              have e2 := ble_t b2
              have e3 := ble_t b3
              subst e1
              have e4 : hh = l := by omega
              subst e4
              have hsb := run_sliceBounds (P := P) (w := w) (E := E) (isSl := true) (n := n) (c := hh + (E i).extra) (mx := none) (m := hh + (E i).extra) hl hhi rfl rfl (Nat.le_refl _) (by omega) (Nat.le_refl _)
              have e0 : a.eval x = conc E (.sl i o n hh true) := opnd_ok (hT E (Agree.refl _ _)) hv
              have ea := optOpnds hT ha E (Agree.refl _ _)
              have eb := optOpnds hT hb E (Agree.refl _ _)
              have hrun : (Instr.sliceAt t (a.eval x) (lo.map a.eval) (hi.map a.eval) none).run P w =
                  .ok (.slice (some ⟨(E i).blk, (E i).off + offOf (hh + (E i).extra) hh o z, none⟩) 0 (E i).extra) w := by
                rw [e0, ea, eb]
                unfold Instr.sliceAt Instr.slice
                simp only [conc, Sem.run_bind, run_under hL hu, Result.andThen_ok, if_true, Option.map_none] at hsb ⊢
                simp only [hsb, Result.andThen_ok, Sem.run_bind, run_size hL hz, Sem.run_pure]
                rw [off_eq' (E := E)]
                congr 2 <;> omega
              refine ⟨.slice (some ⟨(E i).blk, (E i).off + offOf (hh + (E i).extra) hh o z, none⟩) 0 (E i).extra, ?_, ?_⟩
              · unfold execOp
                simp only [Option.map_none]
                simp only [Sem.run_bind, hrun, Result.andThen_ok, Sem.run_pure]
              · refine ⟨E.add H.next ⟨(E i).blk, (E i).off + offOf (hh + (E i).extra) hh o z, (E i).extra⟩, fun E' hE => ?_, fun E' hE => ?_, ?_, ?_⟩
                · have : E' H.next = _ := (hE H.next (Nat.lt_succ_self _)).trans (Env.add_self _ _ _)
                  simp [conc, this]
                · have hA : Agree H.next E E' := (Env.add_agree E H.next _).trans hE (Nat.le_succ _)
                  have r := hS E' hA
                  exact ⟨r.blk, r.inj, r.base, r.size⟩
                · refine ⟨Env.add_agree E H.next _, Nat.le_succ _, rfl, rfl, rfl, rfl, rfl, Nat.le_refl _, fun _ _ _ => rfl, fun c ho => ?_, fun _ _ => rfl, fun _ r h => ⟨r, h⟩, fun h => ⟨h, fun _ => rfl⟩⟩
                  obtain ⟨j, b, hg, hbo, hlo, hc⟩ := ho
                  have hg' : H.get j = some b := hg
                  have hlt := hw.get_lt hg'
                  refine .inl ⟨j, b, hg', hbo, hlo, ?_⟩
                  rw [← hc, Env.add_agree E H.next _ j hlt]
                · exact ⟨fun j b hj => Nat.lt_succ_of_lt (hw.tree j b hj), Nat.le_succ_of_le hw.lo, fun r hr => Nat.le_succ_of_le (hw.hide r hr)⟩
            · cases h
          · cases h
        · cases h
      · cases h
    · cases h
  · cases h

theorem evOperS_ok (hL : LOk0 L P) (hr : RecOk P B rec) (hF : Open F) {T : Tr AV} {o : Oper} {H : AH} {v : AV} {H1 : AH} (h : evOperS L rec T o H = some (v, H1))
    {E : Env} {w : World} {a : Act} (hw : H.Wf) (hS : St B E H w) (hT : StT E H.next T a.tmps) {K : Act → World → Prop} {Q : Exit → Act → World → Prop}
    (hK : ∀ u w1, Done B E H w v H1 u w1 → K (a.put o.dst u) w1) : o.wpIn F 0 P a w K Q := by
  unfold evOperS at h
  split at h
  · next r hr' => cases h; exact evOper_ok hL hr hF hr' hw hS hT hK
  · obtain ⟨⟨u, hrun, hd⟩, hop⟩ := evEnd_ok (B := B) hL h hw hS hT
    refine ⟨fun f _ => hF.1 f, ?_⟩
    rw [Oper.semAt_eq F.round a.eval o hop, hrun]
    exact hK u w hd

theorem evOps_ok (hL : LOk0 L P) (hr : RecOk P B rec) (hF : Open F) (ops : Array Oper) (l : List Oper) : ∀ (k : Nat), (∀ j, l[j]? = ops[k + j]?) → ∀ (T : Tr AV) (H : AH) (T1 : Tr AV) (H1 : AH), evOps L rec ops.toList l T H = some (T1, H1) →
    ∀ (E : Env) (w : World) (a : Act), H.Wf → St B E H w → StT E H.next T a.tmps → (∀ o ∈ l, ∀ d, o.dst = some d → d < a.tmps.size) → ∀ (Q : Exit → Act → World → Prop),
      (∀ E1 a1 w1, St B E1 H1 w1 → StT E1 H1.next T1 a1.tmps → Post E H w E1 H1 w1 → H1.Wf → a1.tmps.size = a.tmps.size → a1.defers = a.defers → Q .normal a1 w1) →
      wpOpsIn F 0 P ops Q (List.range' k l.length) a w := by
  induction l with
  | nil =>
    intro k _ T H T1 H1 h E w a hw hS hT _ Q hQ
    cases h
    exact hQ E a w hS hT (Post.refl _ _ _) hw rfl rfl
  | cons o l ih =>
    intro k hk T H T1 H1 h E w a hw hS hT hd Q hQ
    have h0 : ops[k]? = some o := by simpa using (hk 0).symm
    have hk' : ∀ j, l[j]? = ops[k + 1 + j]? := fun j => by have := hk (j + 1); simpa [Nat.add_assoc, Nat.add_comm 1 j] using this
    simp only [List.length_cons, List.range'_succ]
    unfold wpOpsIn
    simp only [h0]
    rw [wanted_ok (hT E (Agree.refl _ _)) ops o]
    unfold evOps at h
    rw [lrec_cons] at h
    have hdo := hd o (by simp)
    split at h
    · next hwant =>
      rw [if_pos hwant]
      split at h
      · next r hro =>
        refine evOperS_ok hL hr hF hro hw hS hT fun u w1 ⟨E1, hv, hS1, hp, hw1⟩ => ?_
        refine ih (k + 1) hk' _ _ _ _ h E1 w1 _ hw1 hS1 (StT.put (hT.up hp.ext hp.next) hv hdo) (fun o ho d hod => by rw [put_size]; exact hd o (by simp [ho]) d hod) Q fun E2 a2 w2 k1 k2 k3 k4 k5 k6 => ?_
        exact hQ E2 a2 w2 k1 k2 (hp.trans k3) k4 (k5.trans (put_size _ _ _)) (k6.trans (put_defers _ _ _))
      · cases h
    · next hwant =>
      rw [if_neg (by rw [hwant]; simp)]
      refine ⟨fun f _ => hF.1 f, ?_⟩
      refine ih (k + 1) hk' _ _ _ _ h E w _ hw hS (StT.put hT (v := .undef) (u := undef) (fun _ _ => rfl) hdo) (fun o ho d hod => by rw [put_size]; exact hd o (by simp [ho]) d hod) Q fun E2 a2 w2 k1 k2 k3 k4 k5 k6 => ?_
      exact hQ E2 a2 w2 k1 k2 k3 k4 (k5.trans (put_size _ _ _)) (k6.trans (put_defers _ _ _))
end
end Go.Ev
