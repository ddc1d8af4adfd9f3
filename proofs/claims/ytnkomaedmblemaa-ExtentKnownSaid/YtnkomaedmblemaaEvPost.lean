import Derived.Test.YtnkomaedmblemaaEvRel
set_option linter.unusedSimpArgs false
set_option linter.unusedVariables false
namespace Go.Ev

def Own (E : Env) (H : AH) (c : Nat) : Prop := ∃ i b, H.get i = some b ∧ b.own = true ∧ H.lo ≤ i ∧ (E i).blk = c

def objFz (o : Obj) (off : Nat) : Bool := match o with | .cells _ _ fz => decide (fz.1 ≤ off) && decide (off < fz.2) | _ => false
theorem frozen_eq (w : World) (a : Addr) : w.frozen? a = (match w.heap[a.block]? with | some o => objFz o a.off | none => false) := by
  unfold World.frozen?
  cases w.heap[a.block]? with
  | none => rfl
  | some o => cases o <;> rfl

structure Post (E : Env) (H : AH) (w : World) (E1 : Env) (H1 : AH) (w1 : World) : Prop where
  ext : Agree H.next E E1
  next : H.next ≤ H1.next
  lo : H1.lo = H.lo
  hide : H1.hide = H.hide
  tape : w1.tape = w.tape
  os : w1.os = w.os
  output : w1.output = w.output
  size : w.heap.size ≤ w1.heap.size
  frame : ∀ c, c < w.heap.size → ¬ Own E H c → w1.heap[c]? = w.heap[c]?
  own : ∀ c, Own E1 H1 c → Own E H c ∨ w.heap.size ≤ c
  keep : ∀ i, i < H.lo ∨ H.vis i = false → H1.tree.get i = H.tree.get i
  loops : ∀ (c : Nat) (r : Loop), w.heap[c]? = some (Obj.loop r) → ∃ r' : Loop, w1.heap[c]? = some (Obj.loop r')
  froz : H1.fz = false → H.fz = false ∧ ∀ a, w1.frozen? a = w.frozen? a

theorem vis_of {H H1 : AH} (h : H1.hide = H.hide) (i : Nat) : H1.vis i = H.vis i := by unfold AH.vis; rw [h]

theorem Post.refl (E : Env) (H : AH) (w : World) : Post E H w E H w :=
  ⟨Agree.refl _ _, Nat.le_refl _, rfl, rfl, rfl, rfl, rfl, Nat.le_refl _, fun _ _ _ => rfl, fun _ h => .inl h, fun _ _ => rfl, fun _ r h => ⟨r, h⟩, fun h => ⟨h, fun _ => rfl⟩⟩
theorem Post.trans {E E1 E2 : Env} {H H1 H2 : AH} {w w1 w2 : World} (h : Post E H w E1 H1 w1) (k : Post E1 H1 w1 E2 H2 w2) : Post E H w E2 H2 w2 where
  ext := h.ext.trans k.ext h.next
  next := Nat.le_trans h.next k.next
  lo := k.lo.trans h.lo
  hide := k.hide.trans h.hide
  tape := k.tape.trans h.tape
  os := k.os.trans h.os
  output := k.output.trans h.output
  size := Nat.le_trans h.size k.size
  frame c hc hn := (k.frame c (Nat.lt_of_lt_of_le hc h.size) (fun ho => (h.own c ho).elim hn (fun hge => absurd hc (by omega)))).trans (h.frame c hc hn)
  own c ho := by
    rcases k.own c ho with h1 | h1
    · exact h.own c h1
    · exact .inr (Nat.le_trans h.size h1)
  keep i hi := (k.keep i (by rw [h.lo, vis_of h.hide]; exact hi)).trans (h.keep i hi)
  loops c r hc := let ⟨r1, h1⟩ := h.loops c r hc; k.loops c r1 h1
  froz hz := ⟨(h.froz (k.froz hz).1).1, fun a => ((k.froz hz).2 a).trans ((h.froz (k.froz hz).1).2 a)⟩

/-- The world behind more draws from the tape. -/
theorem Post.drawn {E : Env} {H : AH} {w : World} (n : Nat) : Post E H w E H { w with drawn := n } :=
  ⟨Agree.refl _ _, Nat.le_refl _, rfl, rfl, rfl, rfl, rfl, Nat.le_refl _, fun _ _ _ => rfl, fun _ h => .inl h, fun _ _ => rfl, fun _ r h => ⟨r, h⟩, fun h => ⟨h, fun _ => rfl⟩⟩

def St (B : Nat) (E : Env) (H : AH) (w : World) : Prop := ∀ E', Agree H.next E E' → HRel B E' H w
def StV (E : Env) (n : Nat) (v : AV) (u : Value) : Prop := ∀ E', Agree n E E' → u = conc E' v
def StL (E : Env) (n : Nat) (l : List AV) (us : List Value) : Prop := ∀ E', Agree n E E' → us = concL E' l
def StT (E : Env) (n : Nat) (T : Tr AV) (tmps : Array Value) : Prop := ∀ E', Agree n E E' → TRel E' T tmps

theorem St.self {B : Nat} {E : Env} {H : AH} {w : World} (h : St B E H w) : HRel B E H w := h E (Agree.refl _ _)
theorem StV.self {E : Env} {n : Nat} {v : AV} {u : Value} (h : StV E n v u) : u = conc E v := h E (Agree.refl _ _)
theorem StV.up {E E1 : Env} {n m : Nat} {v : AV} {u : Value} (h : StV E n v u) (ha : Agree n E E1) (hle : n ≤ m) : StV E1 m v u :=
  fun E' hE => h E' (ha.trans hE hle)
theorem StL.up {E E1 : Env} {n m : Nat} {l : List AV} {us : List Value} (h : StL E n l us) (ha : Agree n E E1) (hle : n ≤ m) : StL E1 m l us :=
  fun E' hE => h E' (ha.trans hE hle)
theorem StT.up {E E1 : Env} {n m : Nat} {T : Tr AV} {tmps : Array Value} (h : StT E n T tmps) (ha : Agree n E E1) (hle : n ≤ m) : StT E1 m T tmps :=
  fun E' hE => h E' (ha.trans hE hle)
theorem St.drawn {B : Nat} {E : Env} {H : AH} {w : World} (h : St B E H w) (n : Nat) : St B E H { w with drawn := n } := fun E' hE =>
  let r := h E' hE
  ⟨fun i b hg => (r.blk i b hg).congr (fun _ => rfl), r.inj, r.base, r.size⟩

/-- Environment with one block more. -/
def Env.add (E : Env) (n : Nat) (x : EB) : Env := fun i => if i = n then x else E i
theorem Env.add_self (E : Env) (n : Nat) (x : EB) : E.add n x n = x := by simp [Env.add]
theorem Env.add_agree (E : Env) (n : Nat) (x : EB) : Agree n E (E.add n x) := fun i hi => by simp [Env.add]; omega

def wNew (w : World) (o : Obj) : World := { w with heap := w.heap.push o }
theorem wNew_size (w : World) (o : Obj) : (wNew w o).heap.size = w.heap.size + 1 := by simp [wNew]
theorem wNew_lt {w : World} {o : Obj} {c : Nat} (h : c < w.heap.size) : (wNew w o).heap[c]? = w.heap[c]? := by
  show (w.heap.push o)[c]? = _
  rw [Array.getElem?_push, if_neg (Nat.ne_of_lt h)]
theorem wNew_self {w : World} {o : Obj} : (wNew w o).heap[w.heap.size]? = some o := by
  show (w.heap.push o)[w.heap.size]? = _
  rw [Array.getElem?_push, if_pos rfl]

theorem AH.new_get {H : AH} (hw : H.Wf) (b : ABlk) (i : Nat) : (H.new b).get i = if i = H.next then some b else H.get i := by
  unfold AH.get
  have hv : (H.new b).vis i = H.vis i := rfl
  rw [hv]
  show (match H.vis i with | true => (H.tree.set H.next b).get i | false => none) = _
  rw [Tr.get_set]
  by_cases h : i = H.next
  · subst h
    rw [if_pos rfl, if_pos rfl, hw.vis_ge (Nat.le_refl _)]
  · rw [if_neg h, if_neg h]; rfl
theorem AH.new_wf {H : AH} (hw : H.Wf) (b : ABlk) : (H.new b).Wf := by
  refine ⟨fun i c h => ?_, Nat.le_succ_of_le hw.lo, fun r hr => Nat.le_succ_of_le (hw.hide r hr)⟩
  have h' : (H.tree.set H.next b).get i = some c := h
  rw [Tr.get_set] at h'
  show i < H.next + 1
  split at h'
  · omega
  · exact Nat.lt_succ_of_lt (hw.tree i c h')

theorem wNew_froz {w : World} {o : Obj} (hz : ∀ off, objFz o off = false) (a : Addr) : (wNew w o).frozen? a = w.frozen? a := by
  rw [frozen_eq, frozen_eq]
  rcases Nat.lt_trichotomy a.block w.heap.size with h | h | h
  · rw [wNew_lt h]
  · rw [h, wNew_self, Array.getElem?_eq_none (Nat.le_refl _)]; exact hz _
  · rw [Array.getElem?_eq_none (by rw [wNew_size]; omega), Array.getElem?_eq_none (by omega)]

/-- A new block. -/
theorem new_ok {B : Nat} {E : Env} {H : AH} {w : World} (hw : H.Wf) (hS : St B E H w) (b : ABlk) (o : Obj) (ex : Nat)
    (hb : ∀ E', Agree H.next E E' → E' H.next = ⟨w.heap.size, 0, ex⟩ → BRel E' H.next b (wNew w o)) (hz : ∀ off, objFz o off = false := by intro off; simp [objFz]) :
    St B (E.add H.next ⟨w.heap.size, 0, ex⟩) (H.new b) (wNew w o) ∧ Post E H w (E.add H.next ⟨w.heap.size, 0, ex⟩) (H.new b) (wNew w o) ∧ (H.new b).Wf := by
  refine ⟨fun E' hE => ?_, ?_, AH.new_wf hw b⟩
  · have hA : Agree H.next E E' := (Env.add_agree E H.next _).trans hE (Nat.le_succ _)
    have hn : E' H.next = ⟨w.heap.size, 0, ex⟩ := (hE H.next (Nat.lt_succ_self _)).trans (Env.add_self _ _ _)
    have r := hS E' hA
    refine ⟨fun i c hg => ?_, fun i j c d hi hj hne hc hd => ?_, fun i c hg hc => ?_, by rw [wNew_size]; have := r.size; omega⟩
    · rw [AH.new_get hw] at hg
      split at hg
      · next h => subst h; cases hg; exact hb E' hA hn
      · have hbr := r.blk i c hg
        exact hbr.congr fun hl => wNew_lt (hbr.obj hl)
    · rw [AH.new_get hw] at hi hj
      split at hi
      · next h =>
        subst h
        rw [if_neg (Ne.symm hne)] at hj
        rw [hn]
        have := (r.blk j d hj).obj hd
        show w.heap.size ≠ _
        omega
      · next h =>
        have hlive : c.live = true := by cases c <;> first | rfl | (simp [ABlk.own] at hc)
        split at hj
        · next h' =>
          subst h'
          rw [hn]
          have := (r.blk i c hi).obj hlive
          show _ ≠ w.heap.size
          omega
        · exact r.inj i j c d hi hj hne hc hd
    · rw [AH.new_get hw] at hg
      split at hg
      · next h => subst h; rw [hn]; exact r.size
      · exact r.base i c hg hc
  · refine ⟨Env.add_agree _ _ _, Nat.le_succ _, rfl, rfl, rfl, rfl, rfl, by rw [wNew_size]; omega, fun c hc _ => wNew_lt hc, fun c ho => ?_, fun i hi => ?_, fun c r hc => ⟨r, (wNew_lt (Array.getElem?_eq_some_iff.1 hc).1).trans hc⟩, fun h => ⟨h, wNew_froz hz⟩⟩
    · obtain ⟨i, d, hg, hd, hlo, he⟩ := ho
      rw [AH.new_get hw] at hg
      split at hg
      · next h => subst h; rw [Env.add_self] at he; right; rw [← he]; exact Nat.le_refl _
      · next h =>
        left
        refine ⟨i, d, hg, hd, hlo, ?_⟩
        rw [← he, (Env.add_agree E H.next _ i (hw.get_lt hg))]
    · show (H.tree.set H.next b).get i = _
      rw [Tr.get_set, if_neg]
      rintro rfl
      rcases hi with hi | hi
      · exact absurd hw.lo (by omega)
      · rw [hw.vis_ge (Nat.le_refl _)] at hi; cases hi

/-- A new block. -/
theorem new_okz {B : Nat} {E : Env} {H : AH} {w : World} (hw : H.Wf) (hS : St B E H w) (b : ABlk) (o : Obj) (ex : Nat)
    (hb : ∀ E', Agree H.next E E' → E' H.next = ⟨w.heap.size, 0, ex⟩ → BRel E' H.next b (wNew w o)) :
    St B (E.add H.next ⟨w.heap.size, 0, ex⟩) { H.new b with fz := true } (wNew w o) ∧ Post E H w (E.add H.next ⟨w.heap.size, 0, ex⟩) { H.new b with fz := true } (wNew w o) ∧ ({ H.new b with fz := true } : AH).Wf := by
  refine ⟨fun E' hE => ?_, ?_, (AH.new_wf hw b).tree, (AH.new_wf hw b).lo, (AH.new_wf hw b).hide⟩
  · have hA : Agree H.next E E' := (Env.add_agree E H.next _).trans hE (Nat.le_succ _)
    have hn : E' H.next = ⟨w.heap.size, 0, ex⟩ := (hE H.next (Nat.lt_succ_self _)).trans (Env.add_self _ _ _)
    have r := hS E' hA
    refine ⟨fun i c hg => ?_, fun i j c d hi hj hne hc hd => ?_, fun i c hg hc => ?_, by rw [wNew_size]; have := r.size; omega⟩
    · replace hg : (H.new b).get _ = _ := hg; rw [AH.new_get hw] at hg
      split at hg
      · next h => subst h; cases hg; exact hb E' hA hn
      · have hbr := r.blk i c hg
        exact hbr.congr fun hl => wNew_lt (hbr.obj hl)
    · replace hi : (H.new b).get _ = _ := hi; replace hj : (H.new b).get _ = _ := hj; rw [AH.new_get hw] at hi hj
      split at hi
      · next h =>
        subst h
        rw [if_neg (Ne.symm hne)] at hj
        rw [hn]
        have := (r.blk j d hj).obj hd
        show w.heap.size ≠ _
        omega
      · next h =>
        have hlive : c.live = true := by cases c <;> first | rfl | (simp [ABlk.own] at hc)
        split at hj
        · next h' =>
          subst h'
          rw [hn]
          have := (r.blk i c hi).obj hlive
          show _ ≠ w.heap.size
          omega
        · exact r.inj i j c d hi hj hne hc hd
    · replace hg : (H.new b).get _ = _ := hg; rw [AH.new_get hw] at hg
      split at hg
      · next h => subst h; rw [hn]; exact r.size
      · exact r.base i c hg hc
  · refine ⟨Env.add_agree _ _ _, Nat.le_succ _, rfl, rfl, rfl, rfl, rfl, by rw [wNew_size]; omega, fun c hc _ => wNew_lt hc, fun c ho => ?_, fun i hi => ?_, fun c r hc => ⟨r, (wNew_lt (Array.getElem?_eq_some_iff.1 hc).1).trans hc⟩, fun h => Bool.noConfusion h⟩
    · obtain ⟨i, d, hg, hd, hlo, he⟩ := ho
      replace hg : (H.new b).get _ = _ := hg; rw [AH.new_get hw] at hg
      split at hg
      · next h => subst h; rw [Env.add_self] at he; right; rw [← he]; exact Nat.le_refl _
      · next h =>
        left
        refine ⟨i, d, hg, hd, hlo, ?_⟩
        rw [← he, (Env.add_agree E H.next _ i (hw.get_lt hg))]
    · show (H.tree.set H.next b).get i = _
      rw [Tr.get_set, if_neg]
      rintro rfl
      rcases hi with hi | hi
      · exact absurd hw.lo (by omega)
      · rw [hw.vis_ge (Nat.le_refl _)] at hi; cases hi

theorem AH.put_get {H : AH} {i : Nat} (hv : H.vis i = true) (b : ABlk) (j : Nat) : (H.put i b).get j = if j = i then some b else H.get j := by
  unfold AH.get
  show (match H.vis j with | true => (H.tree.set i b).get j | false => none) = _
  rw [Tr.get_set]
  by_cases h : j = i
  · subst h; rw [if_pos rfl, if_pos rfl, hv]
  · rw [if_neg h, if_neg h]; rfl
theorem AH.put_wf {H : AH} (hw : H.Wf) {i : Nat} (hi : i < H.next) (b : ABlk) : (H.put i b).Wf := by
  refine ⟨fun j c h => ?_, hw.lo, hw.hide⟩
  have h' : (H.tree.set i b).get j = some c := h
  rw [Tr.get_set] at h'
  show j < H.next
  split at h'
  · omega
  · exact hw.tree j c h'

theorem setBlk_loops {w : World} {b : Nat} {o : Obj} (hk : ∀ r, w.heap[b]? = some (.loop r) → ∃ r', o = .loop r') (c : Nat) (r : Loop) (hc : w.heap[c]? = some (.loop r)) : ∃ r', (setBlk w b o).heap[c]? = some (.loop r') := by
  by_cases h : b = c
  · subst h
    obtain ⟨r', rfl⟩ := hk r hc
    exact ⟨r', setBlk_self hc⟩
  · exact ⟨r, (setBlk_ne h).trans hc⟩

theorem setBlk_froz {w : World} {b : Nat} {o : Obj} (hz : ∀ x off, w.heap[b]? = some x → objFz o off = objFz x off) (a : Addr) : (setBlk w b o).frozen? a = w.frozen? a := by
  rw [frozen_eq, frozen_eq]
  by_cases h : b = a.block
  · subst h
    cases hx : w.heap[a.block]? with
    | none => rw [Array.getElem?_eq_none (by rw [setBlk_size]; exact Array.getElem?_eq_none_iff.1 hx)]
    | some x => rw [setBlk_self hx]; exact hz x _ hx
  · rw [setBlk_ne h]

/-- A block of the heap is another object now. -/
theorem put_ok {B : Nat} {E : Env} {H : AH} {w : World} (hw : H.Wf) (hS : St B E H w) {i : Nat} {b0 : ABlk} (hg0 : H.get i = some b0) (hown : b0.own = true) (hlo : H.lo ≤ i) (b : ABlk) (o : Obj) (hk : ∀ r, w.heap[(E i).blk]? = some (.loop r) → ∃ r', o = .loop r') (hz : ∀ x off, w.heap[(E i).blk]? = some x → objFz o off = objFz x off)
    (hb : ∀ E', Agree H.next E E' → BRel E' i b (setBlk w (E i).blk o)) :
    St B E (H.put i b) (setBlk w (E i).blk o) ∧ Post E H w E (H.put i b) (setBlk w (E i).blk o) ∧ (H.put i b).Wf := by
  have hvis := (AH.get_some.1 hg0).1
  have hlt := hw.get_lt hg0
  refine ⟨fun E' hE => ?_, ?_, AH.put_wf hw hlt b⟩
  · have r := hS E' hE
    have hei : E' i = E i := hE i hlt
    have hlive0 : b0.live = true := by cases b0 <;> first | rfl | (simp [ABlk.own] at hown)
    refine ⟨fun j c hg => ?_, fun j k c d hj hk hne hc hd => ?_, fun j c hg hc => ?_, by rw [setBlk_size]; exact r.size⟩
    · rw [AH.put_get hvis] at hg
      split at hg
      · next h => subst h; cases hg; exact hb E' hE
      · next h =>
        have hbr := r.blk j c hg
        refine hbr.congr fun hl => setBlk_ne ?_
        rw [← hei]
        exact r.inj i j b0 c hg0 hg (Ne.symm h) hown hl
    · rw [AH.put_get hvis] at hj hk
      have hlc : c.live = true := by cases c <;> first | rfl | (simp [ABlk.own] at hc)
      split at hj
      · next h =>
        subst h
        rw [if_neg (Ne.symm hne)] at hk
        exact r.inj j k b0 d hg0 hk hne hown hd
      · next h =>
        split at hk
        · next h' =>
          subst h'
          exact (r.inj k j b0 c hg0 hj (Ne.symm hne) hown hlc).symm
        · exact r.inj j k c d hj hk hne hc hd
    · rw [AH.put_get hvis] at hg
      split at hg
      · next h => subst h; exact r.base j b0 hg0 hown
      · exact r.base j c hg hc
  · refine ⟨Agree.refl _ _, Nat.le_refl _, rfl, rfl, rfl, rfl, rfl, by rw [setBlk_size]; exact Nat.le_refl _, fun c hc hn => ?_, fun c ho => ?_, fun j hj => ?_, setBlk_loops hk, fun h => ⟨h, setBlk_froz hz⟩⟩
    · refine setBlk_ne ?_
      rintro rfl
      exact hn ⟨i, b0, hg0, hown, hlo, rfl⟩
    · obtain ⟨j, d, hg, hd, hl, he⟩ := ho
      left
      rw [AH.put_get hvis] at hg
      split at hg
      · next h => subst h; exact ⟨j, b0, hg0, hown, hlo, he⟩
      · exact ⟨j, d, hg, hd, hl, he⟩
    · show (H.tree.set i b).get j = _
      rw [Tr.get_set, if_neg]
      rintro rfl
      rcases hj with hj | hj
      · omega
      · rw [hvis] at hj; cases hj

/-- A block is let go. -/
theorem drop_ok {B : Nat} {E : Env} {H : AH} {w : World} (hw : H.Wf) (hS : St B E H w) {i : Nat} {b0 : ABlk} (hg0 : H.get i = some b0) (hlo : H.lo ≤ i) :
    St B E (H.drop i) w ∧ Post E H w E (H.drop i) w ∧ (H.drop i).Wf := by
  have hvis := (AH.get_some.1 hg0).1
  have hlt := hw.get_lt hg0
  refine ⟨fun E' hE => ?_, ?_, AH.put_wf hw hlt _⟩
  · have r := hS E' hE
    unfold AH.drop
    refine ⟨fun j c hg => ?_, fun j k c d hj hk hne hc hd => ?_, fun j c hg hc => ?_, r.size⟩
    · rw [AH.put_get hvis] at hg
      split at hg
      · cases hg; trivial
      · exact r.blk j c hg
    · rw [AH.put_get hvis] at hj hk
      split at hj
      · cases hj; cases hc
      · split at hk
        · cases hk; cases hd
        · exact r.inj j k c d hj hk hne hc hd
    · rw [AH.put_get hvis] at hg
      split at hg
      · cases hg; cases hc
      · exact r.base j c hg hc
  · refine ⟨Agree.refl _ _, Nat.le_refl _, rfl, rfl, rfl, rfl, rfl, Nat.le_refl _, fun c hc hn => rfl, fun c ho => ?_, fun j hj => ?_, fun _ r h => ⟨r, h⟩, fun h => ⟨h, fun _ => rfl⟩⟩
    · obtain ⟨j, d, hg, hd, hl, he⟩ := ho
      unfold AH.drop at hg
      rw [AH.put_get hvis] at hg
      split at hg
      · cases hg; cases hd
      · exact .inl ⟨j, d, hg, hd, hl, he⟩
    · show (H.tree.set i .defd).get j = _
      rw [Tr.get_set, if_neg]
      rintro rfl
      rcases hj with hj | hj
      · omega
      · rw [hvis] at hj; cases hj

/-- Cells are written. -/
theorem write_ok {P : Program} {B : Nat} {E : Env} {H H1 : AH} {w : World} (hw : H.Wf) (hS : St B E H w) {i o : Nat} {xs : List AV} (hx : ∀ E', Agree H.next E E' → concL E' xs = concL E xs) (h : H.write i o xs = some H1) :
    ∃ w1, (storeCells (cA E i o) (concL E xs)).run P w = .ok () w1 ∧ St B E H1 w1 ∧ Post E H w E H1 w1 ∧ H1.Wf ∧ H1.next = H.next := by
  unfold AH.write at h
  cases hlo : Nat.ble H.lo i with
  | false => rw [hlo] at h; cases h
  | true =>
    rw [hlo] at h
    have hlo' := Nat.le_of_ble_eq_true hlo
    cases hg : H.get i with
    | none => rw [hg] at h; cases h
    | some b =>
      rw [hg] at h
      cases b with
      | cells vs e z op ro =>
        cases ro with
        | true => cases h
        | false =>
          simp only at h
          cases hone : xs.all AV.oneCell with
          | false => rw [hone] at h; cases h
          | true =>
            rw [hone] at h
            simp only at h
            cases hov : overAt xs vs o with
            | none => rw [hov] at h; cases h
            | some vs' =>
              rw [hov] at h
              simp only [Option.some.injEq] at h
              subst h
              obtain ⟨hle, hvs'⟩ := (overAt_some xs vs o vs').1 hov
              obtain ⟨cs, e', fz, h1, h2, h3⟩ := hS.self.blk i _ hg
              obtain ⟨hfz, hsz⟩ := h3 rfl
              obtain ⟨cs', hrun, hs', hj'⟩ := run_storeCells (P := P) (E := E) (i := i) (o := o) xs 0 w cs h1 hfz (by rw [hsz]; omega) hone
              refine ⟨_, hrun, ?_⟩
              have key := put_ok hw hS hg rfl hlo' (.cells vs' e z op false) (.cells cs' e' fz) (fun r hr => by rw [h1] at hr; cases hr) (fun x off hx => by rw [h1] at hx; cases hx; rfl) (fun E' hE => by
                have hei : E' i = E i := hE i (hw.get_lt hg)
                obtain ⟨cs2, e2, fz2, k1, k2, _⟩ := (hS E' hE).blk i _ hg
                rw [hei, h1] at k1
                cases k1
                refine ⟨cs', e', fz, by rw [hei]; exact setBlk_self h1, fun j v hv => ?_, fun _ => ⟨by rw [hs']; exact hfz, by rw [hs', hsz, hei, hvs']; simp; omega⟩⟩
                rw [hei, hj']
                rw [hvs'] at hv
                by_cases hin : (E i).off + o + 0 ≤ (E i).off + j ∧ (E i).off + j < (E i).off + o + 0 + xs.length
                · rw [if_pos hin]
                  rw [List.append_assoc, List.getElem?_append_right (by simp; omega), List.getElem?_append_left (by simp; omega)] at hv
                  have hlt : min o vs.length = o := by omega
                  simp only [List.length_take, hlt] at hv
                  have hcx : (concL E' xs)[j - o]? = (concL E xs)[j - o]? := by rw [hx E' hE]
                  rw [concL_getElem?, concL_getElem?, hv] at hcx
                  rw [show (E i).off + j - ((E i).off + o + 0) = j - o from by omega, hv]
                  exact hcx.symm
                · rw [if_neg hin]
                  have := k2 j v (by
                    by_cases hjo : j < o
                    · rw [List.append_assoc, List.getElem?_append_left (by simp; omega), List.getElem?_take_of_lt hjo] at hv
                      exact hv
                    · rw [List.getElem?_append_right (by simp; omega), List.getElem?_drop] at hv
                      simp only [List.length_append, List.length_take, show min o vs.length = o from by omega] at hv
                      rwa [show o + xs.length + (j - (o + xs.length)) = j from by omega] at hv)
                  rwa [hei] at this)
              exact ⟨key.1, key.2.1, key.2.2, rfl⟩
      | _ => cases h
end Go.Ev
