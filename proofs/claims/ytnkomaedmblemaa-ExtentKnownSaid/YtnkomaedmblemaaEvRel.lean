import Derived.Test.YtnkomaedmblemaaEvLem
import Derived.Laws.World
set_option linter.unusedSimpArgs false
set_option linter.unusedVariables false
namespace Go.Ev

structure EB where
  blk : Nat
  off : Nat
  extra : Nat
abbrev Env := Nat → EB

mutual
def conc (E : Env) : AV → Value
  | .bool b => .bool b
  | .int k n => .int k n
  | .str s => .string s
  | .nilPtr => .pointer none
  | .ptr i o => .pointer (some ⟨(E i).blk, (E i).off + o, none⟩)
  | .nilSl => .slice none 0 0
  | .sl i o l n op => .slice (some ⟨(E i).blk, (E i).off + o, none⟩) l (n + (if op then (E i).extra else 0))
  | .nilMap => .map none
  | .map i => .map (some (E i).blk)
  | .fn f a b => .func f (concL E a).toArray (concL E b).toArray
  | .yld i => .func (.yield (E i).blk) #[] #[]
  | .nilFn => .nilFunc
  | .ifc t v => .iface t (conc E v)
  | .nilIfc => .nilIface
  | .agg cs => .agg (concL E cs).toArray
  | .tup vs => .tuple (concL E vs).toArray
def concL (E : Env) : List AV → List Value
  | [] => []
  | v :: vs => conc E v :: concL E vs
end

theorem concL_eq (E : Env) (l : List AV) : concL E l = l.map (conc E) := by
  induction l with
  | nil => rfl
  | cons a l ih => show conc E a :: concL E l = _; rw [ih]; rfl
theorem concL_length (E : Env) (l : List AV) : (concL E l).length = l.length := by rw [concL_eq]; simp
theorem concL_append (E : Env) (l m : List AV) : concL E (l ++ m) = concL E l ++ concL E m := by simp [concL_eq]
theorem concL_getElem? (E : Env) (l : List AV) (i : Nat) : (concL E l)[i]? = l[i]?.map (conc E) := by simp [concL_eq]

abbrev cA (E : Env) (i o : Nat) : Addr := ⟨(E i).blk, (E i).off + o, none⟩
theorem cA_add (E : Env) (i o n : Nat) : (cA E i o).add n = cA E i (o + n) := by
  unfold Addr.add
  split
  · next h => subst h; rfl
  · simp [cA, Nat.add_assoc]

theorem conc_undef (E : Env) : conc E .undef = undef := rfl
theorem conc_cells (E : Env) (v : AV) : (conc E v).cells = (concL E v.cells).toArray := by
  cases v <;> rfl

/-! ### The relation between an abstract heap and a world -/

def ABlk.own : ABlk → Bool
  | .cells _ _ _ _ ro => !ro
  | .defd => false
  | _ => true
def ABlk.live : ABlk → Bool
  | .defd => false
  | _ => true

noncomputable def getT (T : Tr AV) (t : Nat) : AV := (T.get t).getD .undef
theorem getT_set (T : Tr AV) (d : Nat) (v : AV) (t : Nat) : getT (T.set d v) t = if t = d then v else getT T t := by
  unfold getT; rw [Tr.get_set]; split <;> rfl

def TRel (E : Env) (T : Tr AV) (tmps : Array Value) : Prop := ∀ t, tmps.getD t undef = conc E (getT T t)

/-- Is all of a code's writing within so many temporaries? -/
def wfOps (n : Nat) (ops : Array Oper) : Bool := ops.toList.all fun o => match o.dst with | some d => Nat.blt d n | none => true
def wfC (n : Nat) : Code → Bool
  | .region _ ops _ => wfOps n ops
  | .seq a b => wfC n a && wfC n b
  | .cond _ a b => wfC n a && wfC n b
  | .block _ a => wfC n a
  | .loop a => wfC n a
  | .rangeFunc _ ps a b => ps.toList.all (fun d => Nat.blt d n) && wfC n a && wfC n b
  | .scope a => wfC n a
  | _ => true

def entryOf (E : Env) (e : AV × AV × Nat) : MapEntry := { key := conc E e.1, val := conc E e.2.1, born := e.2.2 }

def BRel (E : Env) (i : Nat) (b : ABlk) (w : World) : Prop :=
  match b with
  | .cells vs _ z op ro => ∃ cs e fz, w.heap[(E i).blk]? = some (.cells cs e fz) ∧ (∀ (j : Nat) v, vs[j]? = some v → cs[(E i).off + j]? = some (conc E v)) ∧
      (ro = false → (∀ j, j < cs.size → ¬ (fz.1 ≤ j ∧ j < fz.2)) ∧ cs.size = (E i).off + vs.length + (if op then (E i).extra * z else 0))
  | .map es clock => w.heap[(E i).blk]? = some (.map (es.map (entryOf E)).toArray clock)
  | .loop st pend T _ ps as bd => ∃ r : Loop, w.heap[(E i).blk]? = some (.loop r) ∧ r.state = st ∧ r.pending = pend ∧ TRel E T r.tmps ∧ r.params.toList = ps ∧ r.assign = as ∧ r.body = bd ∧
      (∃ m, m ≤ r.tmps.size ∧ wfC m as = true ∧ wfC m bd = true ∧ ∀ d ∈ ps, d < m)
  | .siter s pos => w.heap[(E i).blk]? = some (.stringIter s pos)
  | .defd => True

theorem BRel.obj {E : Env} {i : Nat} {b : ABlk} {w : World} (h : BRel E i b w) (hl : b.live = true) : (E i).blk < w.heap.size := by
  rcases Nat.lt_or_ge (E i).blk w.heap.size with h' | h'
  · exact h'
  · have hn : w.heap[(E i).blk]? = none := Array.getElem?_eq_none h'
    cases b with
    | cells vs e z op ro => obtain ⟨cs, e, fz, h1, _⟩ := h; rw [hn] at h1; cases h1
    | map es c => simp only [BRel] at h; rw [hn] at h; cases h
    | loop st p T n ps a b => obtain ⟨r, h1, _⟩ := h; rw [hn] at h1; cases h1
    | siter s p => simp only [BRel] at h; rw [hn] at h; cases h
    | defd => cases hl

/-- Only the block itself matters. -/
theorem BRel.congr {E : Env} {i : Nat} {b : ABlk} {w w' : World} (h : BRel E i b w) (he : b.live = true → w'.heap[(E i).blk]? = w.heap[(E i).blk]?) : BRel E i b w' := by
  cases b with
  | cells vs e z op ro => unfold BRel at *; rw [he rfl]; exact h
  | map es c => unfold BRel at *; rw [he rfl]; exact h
  | loop st p T n ps a b => unfold BRel at *; rw [he rfl]; exact h
  | siter s p => unfold BRel at *; rw [he rfl]; exact h
  | defd => trivial

structure AH.Wf (H : AH) : Prop where
  tree : ∀ i b, H.tree.get i = some b → i < H.next
  lo : H.lo ≤ H.next
  hide : ∀ r ∈ H.hide, r.2 ≤ H.next

theorem AH.get_some {H : AH} {i : Nat} {b : ABlk} : H.get i = some b ↔ H.vis i = true ∧ H.tree.get i = some b := by
  unfold AH.get
  cases h : H.vis i <;> simp
theorem AH.Wf.get_lt {H : AH} (h : H.Wf) {i : Nat} {b : ABlk} (hg : H.get i = some b) : i < H.next := h.tree i b (AH.get_some.1 hg).2
theorem AH.Wf.vis_ge {H : AH} (h : H.Wf) {i : Nat} (hi : H.next ≤ i) : H.vis i = true := by
  unfold AH.vis
  rw [List.all_eq_true]
  intro r hr
  have := h.hide r hr
  simp only [Bool.or_eq_true]
  right
  exact Nat.ble_eq_true_of_le (by omega)

structure HRel (B : Nat) (E : Env) (H : AH) (w : World) : Prop where
  blk : ∀ i b, H.get i = some b → BRel E i b w
  inj : ∀ i j b c, H.get i = some b → H.get j = some c → i ≠ j → b.own = true → c.live = true → (E i).blk ≠ (E j).blk
  base : ∀ i b, H.get i = some b → b.own = true → B ≤ (E i).blk
  size : B ≤ w.heap.size

/-- Two environments that agree below a number. -/
def Agree (n : Nat) (E E' : Env) : Prop := ∀ i, i < n → E' i = E i
theorem Agree.refl (n : Nat) (E : Env) : Agree n E E := fun _ _ => rfl
theorem Agree.trans {n m : Nat} {E E1 E2 : Env} (h : Agree n E E1) (h' : Agree m E1 E2) (hle : n ≤ m) : Agree n E E2 :=
  fun i hi => (h' i (Nat.lt_of_lt_of_le hi hle)).trans (h i hi)


/-! ### Reading and writing -/
theorem HRel.cell {B : Nat} {E : Env} {H : AH} {w : World} (h : HRel B E H w) {i : Nat} {vs : List AV} (hr : H.row i = some vs) {o : Nat} {v : AV} (hv : vs[o]? = some v) :
    w.cell? (cA E i o) = some (conc E v) := by
  unfold AH.row at hr
  cases hg : H.get i with
  | none => rw [hg] at hr; cases hr
  | some b =>
    rw [hg] at hr
    cases b with
    | cells us e z op ro =>
      simp only [Option.some.injEq] at hr
      subst hr
      obtain ⟨cs, e', fz, h1, h2, _⟩ := h.blk i _ hg
      unfold World.cell?
      simp only [cA, h1, Option.isSome_none, Bool.false_eq_true, if_false]
      exact h2 o v hv
    | _ => cases hr

theorem run_loadCellsFrom {P : Program} {w : World} {E : Env} {i : Nat} (n : Nat) : ∀ (o k : Nat) (acc : Array Value) (l : List AV), l.length = n →
    (∀ (j : Nat) v, l[j]? = some v → w.cell? (cA E i (o + k + j)) = some (conc E v)) →
    (loadCellsFrom (cA E i o) k n acc).run P w = .ok (acc ++ (concL E l).toArray) w := by
  induction n with
  | zero =>
    intro o k acc l hl _
    have : l = [] := List.eq_nil_of_length_eq_zero hl
    subst this
    simp [loadCellsFrom, concL, Sem.run, pure]
  | succ n ih =>
    intro o k acc l hl hc
    cases l with
    | nil => simp at hl
    | cons v l =>
      have h0 := hc 0 v (by simp)
      have hr := ih o (k + 1) (acc.push (conc E v)) l (by simpa using hl) (fun j u hu => by
        have := hc (j + 1) u (by simpa using hu)
        rwa [show o + (k + 1) + j = o + k + (j + 1) from by omega])
      show (Sem.bind (load ((cA E i o).add k)) _).run P w = _
      simp only [load, Sem.bind, Sem.run, cA_add, Nat.add_zero] at h0 ⊢
      rw [h0]
      show (loadCellsFrom (cA E i o) (k + 1) n (acc.push (conc E v))).run P w = _
      rw [hr]
      simp [concL]

theorem HRel.read {B : Nat} {E : Env} {H : AH} {w : World} {P : Program} (h : HRel B E H w) {i o n : Nat} {l : List AV} (hr : H.read i o n = some l) :
    (loadCells (cA E i o) n).run P w = .ok (concL E l).toArray w := by
  unfold AH.read at hr
  cases hv : H.row i with
  | none => rw [hv] at hr; cases hr
  | some vs =>
    rw [hv] at hr
    obtain ⟨hl, hj⟩ := sliceN_getElem hr
    have := run_loadCellsFrom (P := P) (w := w) (E := E) (i := i) n o 0 #[] l hl (fun j v hjv => by
      have hlt : j < n := by
        rcases Nat.lt_or_ge j n with h' | h'
        · exact h'
        · rw [List.getElem?_eq_none (by omega)] at hjv; cases hjv
      rw [(hj j hlt).1] at hjv
      exact h.cell hv hjv)
    simpa [loadCells] using this

theorem HRel.read1 {B : Nat} {E : Env} {H : AH} {w : World} {P : Program} (h : HRel B E H w) {i o : Nat} {v : AV} (hr : H.read1 i o = some v) :
    (load (cA E i o)).run P w = .ok (conc E v) w := by
  unfold AH.read1 at hr
  cases hv : H.row i with
  | none => rw [hv] at hr; cases hr
  | some vs =>
    rw [hv] at hr
    simp only [nth_eq] at hr
    simp only [load, Sem.run]
    rw [h.cell hv hr]

/-- A world in which one block is another. -/
def setBlk (w : World) (b : Nat) (o : Obj) : World := { w with heap := w.heap.setIfInBounds b o }
theorem setBlk_self {w : World} {b : Nat} {o o' : Obj} (h : w.heap[b]? = some o') : (setBlk w b o).heap[b]? = some o := by
  have : b < w.heap.size := by
    rcases Nat.lt_or_ge b w.heap.size with h' | h'
    · exact h'
    · rw [Array.getElem?_eq_none h'] at h; cases h
  simp [setBlk, Array.getElem?_setIfInBounds, this]
theorem setBlk_ne {w : World} {b c : Nat} {o : Obj} (h : b ≠ c) : (setBlk w b o).heap[c]? = w.heap[c]? := by
  simp [setBlk, Array.getElem?_setIfInBounds, h]
theorem setBlk_size {w : World} {b : Nat} {o : Obj} : (setBlk w b o).heap.size = w.heap.size := by simp [setBlk]
theorem setBlk_setBlk {w : World} {b : Nat} {o o' : Obj} : setBlk (setBlk w b o) b o' = setBlk w b o' := by
  simp [setBlk]
theorem setCell_eq {w : World} {b off : Nat} {cs : Array Value} {e : TypeId} {fz : Nat × Nat} (h : w.heap[b]? = some (.cells cs e fz)) (v : Value) :
    w.setCell ⟨b, off, none⟩ v = setBlk w b (.cells (cs.setIfInBounds off v) e fz) := by
  have hlt : b < w.heap.size := by
    rcases Nat.lt_or_ge b w.heap.size with h' | h'
    · exact h'
    · rw [Array.getElem?_eq_none h'] at h; cases h
  unfold World.setCell setBlk
  congr 1
  refine Array.ext (by simp) fun j hj1 hj2 => ?_
  rw [Array.getElem_modify, Array.getElem_setIfInBounds (by simpa using hj2)]
  by_cases hb : b = j
  · subst hb
    have : w.heap[b] = .cells cs e fz := by rw [Array.getElem?_eq_getElem hlt] at h; exact Option.some.inj h
    simp [this]
  · simp [hb]

theorem run_storeCells {P : Program} {E : Env} {i o : Nat} {e : TypeId} {fz : Nat × Nat} (xs : List AV) : ∀ (k : Nat) (w : World) (cs : Array Value),
    w.heap[(E i).blk]? = some (.cells cs e fz) → (∀ j, j < cs.size → ¬ (fz.1 ≤ j ∧ j < fz.2)) → (E i).off + o + k + xs.length ≤ cs.size → xs.all AV.oneCell = true →
    ∃ cs' : Array Value, (storeCells (cA E i o) (concL E xs) k).run P w = .ok () (setBlk w (E i).blk (.cells cs' e fz)) ∧ cs'.size = cs.size ∧
      ∀ j, cs'[j]? = if (E i).off + o + k ≤ j ∧ j < (E i).off + o + k + xs.length then (xs[j - ((E i).off + o + k)]?).map (conc E) else cs[j]? := by
  induction xs with
  | nil =>
    intro k w cs hw _ _ _
    refine ⟨cs, ?_, rfl, fun j => by rw [if_neg (by simp)]⟩
    have hlt : (E i).blk < w.heap.size := by
      rcases Nat.lt_or_ge (E i).blk w.heap.size with h' | h'
      · exact h'
      · rw [Array.getElem?_eq_none h'] at hw; cases hw
    have : setBlk w (E i).blk (.cells cs e fz) = w := by
      unfold setBlk
      have he : w.heap[(E i).blk] = .cells cs e fz := by rw [Array.getElem?_eq_getElem hlt] at hw; exact Option.some.inj hw
      have : w.heap.setIfInBounds (E i).blk (.cells cs e fz) = w.heap := by
        refine Array.ext (by simp) fun j hj1 hj2 => ?_
        rw [Array.getElem_setIfInBounds (by simpa using hj2)]
        split
        · next h => subst h; exact he.symm
        · rfl
      rw [this]
    rw [this]
    simp [storeCells, concL, Sem.run, pure]
  | cons x xs ih =>
    intro k w cs hw hfz hle hone
    simp only [List.length_cons] at hle
    simp only [List.all_cons, Bool.and_eq_true] at hone
    have hcell : w.cell? (cA E i (o + k)) = some (cs[(E i).off + (o + k)]'(by omega)) := by
      unfold World.cell?
      simp only [cA, hw, Option.isSome_none, Bool.false_eq_true, if_false]
      exact Array.getElem?_eq_getElem (by omega)
    have hfrz : w.frozen? (cA E i (o + k)) = false := by
      unfold World.frozen?
      simp only [cA, hw]
      have := hfz ((E i).off + (o + k)) (by omega)
      simp only [Bool.and_eq_false_imp, decide_eq_true_eq, decide_eq_false_iff_not]
      intro h1 h2; exact this ⟨h1, h2⟩
    have hset := setCell_eq (off := (E i).off + (o + k)) hw (conc E x)
    obtain ⟨cs', hr, hs, hj⟩ := ih (k + 1) (setBlk w (E i).blk (.cells (cs.setIfInBounds ((E i).off + (o + k)) (conc E x)) e fz)) (cs.setIfInBounds ((E i).off + (o + k)) (conc E x))
      (setBlk_self hw) (by simpa using hfz) (by simp; omega) hone.2
    refine ⟨cs', ?_, by simpa using hs, fun j => ?_⟩
    · rw [setBlk_setBlk] at hr
      show (Sem.bind (store ((cA E i o).add k) (conc E x)) _).run P w = _
      simp only [store, Sem.bind, cA_add]
      have hrun : ∀ (K : Sem Unit), (Sem.store .plain (cA E i (o + k)) (conc E x) K).run P w = K.run P (w.setCell (cA E i (o + k)) (conc E x)) := by
        intro K
        cases x <;> first
          | (exfalso; have hh := hone.1; cases hh; done)
          | (simp only [conc, Sem.run]; rw [hcell]; simp only [hfrz, Bool.false_eq_true, if_false]; rfl)
          | (simp only [conc, Sem.run]; rw [hcell]; simp only [hfrz, Bool.false_eq_true, if_false])
      rw [hrun, show w.setCell (cA E i (o + k)) (conc E x) = _ from hset]
      exact hr
    · rw [hj]
      simp only [List.length_cons]
      by_cases h0 : j = (E i).off + o + k
      · subst h0
        rw [if_neg (by omega), if_pos (by omega)]
        simp only [Nat.sub_self, List.getElem?_cons_zero, Option.map_some]
        rw [Array.getElem?_setIfInBounds]
        rw [if_pos (by omega), if_pos (by omega)]
      · by_cases h1 : (E i).off + o + (k + 1) ≤ j ∧ j < (E i).off + o + (k + 1) + xs.length
        · rw [if_pos h1, if_pos (by omega)]
          obtain ⟨d, hd⟩ : ∃ d, j - ((E i).off + o + k) = d + 1 := ⟨j - ((E i).off + o + k) - 1, by omega⟩
          rw [hd, show j - ((E i).off + o + (k + 1)) = d from by omega]; simp
        · rw [if_neg h1, if_neg (by omega)]
          rw [Array.getElem?_setIfInBounds, if_neg (by omega)]

end Go.Ev
