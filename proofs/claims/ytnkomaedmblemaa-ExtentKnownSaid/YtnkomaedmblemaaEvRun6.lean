import Derived.Test.YtnkomaedmblemaaEvRun5
set_option linter.unusedSimpArgs false
set_option linter.unusedVariables false
namespace Go.Ev
section
variable {L : Lk} {P : Program} {B : Nat} {rec : Rec} {F : Fence}

theorem HRel.loopOf {E : Env} {H : AH} {w : World} (h : HRel B E H w) {l : Nat} {st : LoopState} {pe : Option Code} {T : Tr AV} {n : Nat} {ps : List Tmp} {as bd : Code} (hg : H.get l = some (.loop st pe T n ps as bd)) :
    ∃ r : Loop, w.heap[(E l).blk]? = some (.loop r) ∧ r.state = st ∧ r.pending = pe ∧ TRel E T r.tmps ∧ r.params.toList = ps ∧ r.assign = as ∧ r.body = bd ∧
      (∃ m, m ≤ r.tmps.size ∧ wfC m as = true ∧ wfC m bd = true ∧ ∀ d ∈ ps, d < m) := h.blk l _ hg

/-- The record of a loop turns in its state alone. -/
theorem loop_put {E : Env} {H : AH} {w : World} (hw : H.Wf) (hS : St B E H w) {l : Nat} {st : LoopState} {pe : Option Code} {T : Tr AV} {n : Nat} {ps : List Tmp} {as bd : Code} (hg : H.get l = some (.loop st pe T n ps as bd)) (hlo : H.lo ≤ l)
    {r : Loop} (hr : w.heap[(E l).blk]? = some (.loop r)) (st' : LoopState) (pe' : Option Code) :
    St B E (H.put l (.loop st' pe' T n ps as bd)) (w.putObj (E l).blk (.loop { r with state := st', pending := pe' })) ∧ Post E H w E (H.put l (.loop st' pe' T n ps as bd)) (w.putObj (E l).blk (.loop { r with state := st', pending := pe' })) ∧ (H.put l (.loop st' pe' T n ps as bd)).Wf :=
  put_ok hw hS hg rfl hlo _ _ (fun r' _ => ⟨_, rfl⟩) (fun x off hx => by rw [hr] at hx; cases hx; rfl) fun E' hE => by
    have hei : E' l = E l := hE l (hw.get_lt hg)
    obtain ⟨r2, k1, k2, k3, k4, k5, k6, k7, k8⟩ := (hS E' hE).loopOf hg
    rw [hei, hr] at k1
    cases k1
    exact ⟨{ r with state := st', pending := pe' }, by rw [hei]; exact setBlk_self hr, rfl, rfl, k4, k5, k6, k7, k8⟩

theorem round_ok (hL : LOk L P) {m : Nat} (hr : CodeRec P B m rec) {l : Nat} {args : List AV} {H : AH} {out : Out} {T : Tr AV} {n : Nat} {ps : List Tmp} {assign body : Code}
    (hlo : H.lo ≤ l) (hg : H.get l = some (.loop .ready none T n ps assign body)) (hlen : args.length = ps.length) {o1 : Out} (h1 : evCode L rec assign (setParams (ps.zip args) T) H = some o1) (hx1 : o1.ex = .normal)
    {T2 : Tr AV} {n2 : Nat} {ps2 : List Tmp} {as2 bd2 : Code} (hg1 : o1.H.get l = some (.loop .ready none T2 n2 ps2 as2 bd2)) {o2 : Out}
    (h2 : evCode L rec body o1.T (o1.H.put l (.loop .busy none T2 n2 ps2 as2 bd2)) = some o2) {pe : Option Code} {T3 : Tr AV} {n3 : Nat} {ps3 : List Tmp} {as3 bd3 : Code} (hg2 : o2.H.get l = some (.loop .busy pe T3 n3 ps3 as3 bd3))
    (hout : (o2.ex = .normal ∧ out = out1 (.bool true) (o2.H.put l (.loop .ready none T3 n3 ps3 as3 bd3))) ∨ (∃ id, o2.ex = .exit id ∧ out = out1 (.bool false) (o2.H.put l (.loop .done (some (.exit id)) T3 n3 ps3 as3 bd3))) ∨
      (o2.ex = .ret ∧ out = out1 (.bool false) (o2.H.put l (.loop .done (some .ret) T3 n3 ps3 as3 bd3))))
    {E : Env} {w : World} {us : List Value} (hw : H.Wf) (hS : St B E H w) (hus : StL E H.next args us) :
    ∃ g tmps as bd w', (Instr.yield (E l).blk us.toArray).run P w = .ok (.round (E l).blk g tmps as bd) w' ∧
      ∀ F, Open F → F.round = none → RoundIn F 0 P (E l).blk g tmps as bd w' fun e w1 => ∃ u, e = .returned u ∧ Done B E H w (outVal out) out.H u w1 := by
  have hlt := hw.get_lt hg
  obtain ⟨r, k1, k2, k3, k4, k5, k6, k7, mm, k8, k9, k10, k11⟩ := hS.self.loopOf hg
  have hul : us.length = args.length := by rw [hus E (Agree.refl _ _), concL_length]
  have hsz : us.toArray.size = r.params.size := by
    rw [← Array.length_toList, ← Array.length_toList (xs := r.params), k5]; simp; omega
  refine ⟨_, _, _, _, _, run_yield k1 hsz, fun F hF hro => ?_⟩
  have hfold : ∀ u : List Value, (r.params.zip u.toArray).foldl (fun tmps (t, a) => tmps.setIfInBounds t a) r.tmps = (ps.zip u).foldl (fun tmps (p : Tmp × Value) => tmps.setIfInBounds p.1 p.2) r.tmps := by
    intro u
    rw [← Array.foldl_toList]
    congr 1
    rw [Array.toList_zip, k5]
  have hto : Open (F.inRound (E l).blk) := hF.inRound _
  rw [hfold us]
  refine roundIn_of_wpIn (hF.1 _) ?_
  have hT0 : StT E H.next (setParams (ps.zip args) T) ((ps.zip us).foldl (fun tmps (p : Tmp × Value) => tmps.setIfInBounds p.1 p.2) r.tmps) := fun E' hE => by
    have hei : E' l = E l := hE l hlt
    obtain ⟨r', q1, q2, q3, q4, q5, q6, q7, _⟩ := (hS E' hE).loopOf hg
    rw [hei, k1] at q1
    cases q1
    rw [hus E' hE]
    exact (TRel.params (m := mm) ps args T r.tmps q4 k11 k8).1
  have hs0 : ((ps.zip us).foldl (fun tmps (p : Tmp × Value) => tmps.setIfInBounds p.1 p.2) r.tmps).size = r.tmps.size := by
    rw [hus E (Agree.refl _ _)]
    exact (TRel.params (m := mm) ps args T r.tmps k4 k11 k8).2
  refine evCode_ok hL.toLOk0 hL.mixed hr mm r.assign (F.inRound (E l).blk) hto (setParams (ps.zip args) T) H o1 (by rw [k6]; exact h1) (by rw [k6]; exact k9) w.heap.size E w _
    ⟨hw, hS, hT0, DefOk.nil _ _ _ _, Nat.le_refl _, fun l' hl' => by cases hl'; exact ⟨r, k1⟩⟩ (by rw [hs0]; exact k8) _ ?_
  intro e a1 w1 ⟨⟨E1, j1, j2, j3, j4⟩, j5, j6, j7⟩
  rw [hx1] at j6
  cases j6
  have hE1 : E1 l = E l := j3.ext l hlt
  obtain ⟨r1, p1, p2, p3, p4, p5, p6, p7, _⟩ := j1.self.loopOf hg1
  rw [hE1] at p1
  refine ⟨_, run_beginRound p1 p2, ?_⟩
  have hb := loop_put j5 j1 hg1 (by rw [j3.lo]; exact hlo) (by rw [hE1]; exact p1) .busy none
  rw [hE1] at hb
  have hrec : ({ r1 with state := .busy } : Loop) = { r1 with state := .busy, pending := none } := by rw [← p3]
  rw [hrec]
  obtain ⟨b1, b2, b3⟩ := hb
  refine evCode_ok hL.toLOk0 hL.mixed hr mm r.body (F.inRound (E l).blk) hto o1.T _ o2 (by rw [k7]; exact h2) (by rw [k7]; exact k10) w.heap.size E1 _ a1
    ⟨b3, b1, j2, j4.post b2, Nat.le_trans j3.size b2.size, fun l' hl' => by
      cases hl'
      obtain ⟨r', hr'⟩ := j3.loops _ r k1
      exact b2.loops _ r' hr'⟩ (by rw [j7]; show mm ≤ Array.size _; rw [hs0]; exact k8) _ ?_
  intro e2 a2 w2 ⟨⟨E2, i1, i2, i3, i4⟩, i5, i6, i7⟩
  have hE2 : E2 l = E l := (i3.ext l (Nat.lt_of_lt_of_le hlt j3.next)).trans hE1
  obtain ⟨r2, q1, q2, q3, _⟩ := i1.self.loopOf hg2
  have hlo2 : o2.H.lo ≤ l := by rw [i3.lo, b2.lo, j3.lo]; exact hlo
  have fin : ∀ (st' : LoopState) (pe' : Option Code) (bv : Bool), out = out1 (.bool bv) (o2.H.put l (.loop st' pe' T3 n3 ps3 as3 bd3)) →
      ∃ u, Ending.returned (.bool bv) = .returned u ∧ Done B E H w (outVal out) out.H u (w2.putObj (E l).blk (.loop { r2 with state := st', pending := pe' })) := by
    intro st' pe' bv he
    have hp := loop_put i5 i1 hg2 hlo2 q1 st' pe'
    rw [hE2] at hp
    refine ⟨_, rfl, E2, ?_, ?_, ?_, ?_⟩
    · rw [he]; exact fun _ _ => rfl
    · rw [he]; exact hp.1
    · rw [he]; exact ((j3.trans b2).trans i3).trans hp.2.1
    · rw [he]; exact hp.2.2
  rw [hE2] at q1
  rcases hout with ⟨hx, he⟩ | ⟨id, hx, he⟩ | ⟨hx, he⟩
  · rw [hx] at i6; cases i6
    exact ⟨_, _, run_endRound none q1, fin .ready none true he⟩
  · rw [hx] at i6; cases i6
    exact ⟨_, _, run_endRound (some (.exit id)) q1, fin .done (some (.exit id)) false he⟩
  · rw [hx] at i6; cases i6
    exact ⟨_, _, run_endRound (some .ret) q1, fin .done (some .ret) false he⟩
end
end Go.Ev
