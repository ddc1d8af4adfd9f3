import Derived.Test.YtnkomaedmblemaaEvOp8
import Derived.Laws.Append
set_option linter.unusedSimpArgs false
set_option linter.unusedVariables false
namespace Go.Ev
section
variable {L : Lk} {P : Program} {w : World} {E : Env} {B : Nat} {H : AH}

theorem evStore_ok (hL : LOk0 L P) (hw : H.Wf) (hS : St B E H w) {t : TypeId} {a v : AV} {H1 : AH} {ua uv : Value} (ha : StV E H.next a ua) (hv : StV E H.next v uv) (h : evStore L t a v H = some H1) :
    ∃ w1, (Instr.storeAt t ua uv).run P w = .ok () w1 ∧ St B E H1 w1 ∧ Post E H w E H1 w1 ∧ H1.Wf := by
  rw [ha.self, hv.self]
  unfold evStore at h
  split at h
  · next i o =>
    split at h
    · next s hs =>
      split at h
      · next hl =>
        have hl' := Nat.eq_of_beq_eq_true hl
        rw [len_eq] at hl'
        obtain ⟨w1, hr, h1, h2, h3, _⟩ := write_ok (P := P) hw hS (xs := v.cells) (fun E' hE => cells_E ((hv E' hE).symm.trans hv.self)) h
        refine ⟨w1, ?_, h1, h2, h3⟩
        unfold Instr.storeAt
        simp only [conc, Instr.sureAddr, Sem.run_bind, Sem.run_pure, Result.andThen_ok, storeVar, run_size hL hs, Sem.run_ite, conc_cells]
        rw [if_neg (by simp [concL_length, hl'])]
        exact hr
      · cases h
    · cases h
  · cases h

theorem lenOf_ok {x : AV} {n : Nat} (h : lenOf x = some n) : (Builtin.lenOf (conc E x)).run P w = .ok n w := by
  unfold lenOf at h
  split at h <;> first
    | (cases h; rfl)
    | cases h
theorem srcCells_ok (hR : HRel B E H w) {z n : Nat} {x : AV} {l : List AV} (h : srcCells z x n H = some l) : (Builtin.firstCells z n (conc E x)).run P w = .ok (concL E l).toArray w := by
  unfold srcCells at h
  split at h
  · split at h
    · cases h; rfl
    · cases h
  · exact hR.read (P := P) h
  · next s =>
    split at h
    case h_2 => cases h
    obtain ⟨h1, h2⟩ := (takeN_some _ _ _).1 h
    subst h2
    simp only [conc, Builtin.firstCells, Sem.run_pure]
    congr 1
    rw [concL_take, concL_eq]
    apply Array.ext'
    simp [ByteArray.data_extract, List.map_take, Function.comp_def, conc, List.extract_eq_take_drop]
  · cases h
theorem srcCells_len {z n : Nat} {x : AV} {l : List AV} (h : srcCells z x n H = some l) : l.length = n * z := by
  unfold srcCells at h
  split at h
  · split at h
    · next hn => cases h; rw [Nat.eq_of_beq_eq_true hn]; simp
    · cases h
  · unfold AH.read at h
    split at h
    · exact (sliceN_getElem h).1
    · cases h
  · split at h
    · next hz =>
      have := Nat.eq_of_beq_eq_true hz
      subst this
      obtain ⟨h1, h2⟩ := (takeN_some _ _ _).1 h
      subst h2
      rw [List.length_take]
      omega
    · cases h
  · cases h
/-- What was read out of the heap hangs on its blocks alone. -/
theorem srcCells_E (hw : H.Wf) (hS : St B E H w) {z n : Nat} {x : AV} {l : List AV} {P : Program} (hx : ∀ E', Agree H.next E E' → conc E' x = conc E x) (h : srcCells z x n H = some l) {E' : Env} (hE : Agree H.next E E') : concL E' l = concL E l := by
  have h1 := srcCells_ok (P := P) (w := w) hS.self h
  have h2 := srcCells_ok (P := P) (w := w) (hS E' hE) h
  rw [hx E' hE, h1] at h2
  simpa using h2.symm
theorem read_E (hS : St B E H w) (P : Program) {i o n : Nat} {l : List AV} (hi : i < H.next) (h : H.read i o n = some l) {E' : Env} (hE : Agree H.next E E') : concL E' l = concL E l := by
  have h1 := hS.self.read (P := P) h
  have h2 := (hS E' hE).read (P := P) h
  rw [show cA E' i o = cA E i o from by unfold cA; rw [hE i hi], h1] at h2
  simpa using h2.symm

/-- A block goes on under another number. -/
theorem move_ok (hw : H.Wf) (hS : St B E H w) {i : Nat} {b0 : ABlk} (hg0 : H.get i = some b0) (hown : b0.own = true) (hlo : H.lo ≤ i) (b : ABlk) (o : Obj) (x : EB) (hxb : x.blk = (E i).blk) (hk : ∀ r, w.heap[(E i).blk]? = some (.loop r) → ∃ r', o = .loop r') (hz : ∀ x off, w.heap[(E i).blk]? = some x → objFz o off = objFz x off)
    (hb : ∀ E', Agree H.next E E' → E' H.next = x → BRel E' H.next b (setBlk w (E i).blk o)) :
    St B (E.add H.next x) ((H.drop i).new b) (setBlk w (E i).blk o) ∧ Post E H w (E.add H.next x) ((H.drop i).new b) (setBlk w (E i).blk o) ∧ ((H.drop i).new b).Wf := by
  have hvis := (AH.get_some.1 hg0).1
  have hlt := hw.get_lt hg0
  have hwd : (H.drop i).Wf := AH.put_wf hw hlt _
  have hnx : (H.drop i).next = H.next := rfl
  have hget : ∀ j, ((H.drop i).new b).get j = if j = H.next then some b else if j = i then some .defd else H.get j := fun j => by
    rw [AH.new_get hwd, hnx]
    split
    · rfl
    · exact AH.put_get hvis _ j
  have hl0 : b0.live = true := by cases b0 <;> first | rfl | (simp [ABlk.own] at hown)
  refine ⟨fun E' hE => ?_, ?_, AH.new_wf hwd b⟩
  · have hA : Agree H.next E E' := (Env.add_agree E H.next _).trans hE (Nat.le_succ _)
    have hn : E' H.next = x := (hE H.next (Nat.lt_succ_self _)).trans (Env.add_self _ _ _)
    have hei : E' i = E i := hA i hlt
    have r := hS E' hA
    refine ⟨fun j c hg => ?_, fun j k c d hj hk hne hc hd => ?_, fun j c hg hc => ?_, by rw [setBlk_size]; exact r.size⟩
    · rw [hget] at hg
      split at hg
      · next h => subst h; cases hg; exact hb E' hA hn
      · split at hg
        · cases hg; trivial
        · next h1 h2 =>
          refine (r.blk j c hg).congr fun hl => setBlk_ne ?_
          rw [← hei]
          exact r.inj i j b0 c hg0 hg (Ne.symm h2) hown hl
    · rw [hget] at hj hk
      have hlc : c.live = true := by cases c <;> first | rfl | (simp [ABlk.own] at hc)
      split at hj
      · next h1 =>
        subst h1
        rw [if_neg (Ne.symm hne)] at hk
        split at hk
        · cases hk; cases hd
        · next h2 => rw [hn, hxb, ← hei]; exact r.inj i k b0 d hg0 hk (Ne.symm h2) hown hd
      · split at hj
        · cases hj; cases hc
        · next h1 h2 =>
          split at hk
          · next h3 =>
            subst h3
            rw [hn, hxb, ← hei]
            exact (r.inj i j b0 c hg0 hj (Ne.symm h2) hown hlc).symm
          · split at hk
            · cases hk; cases hd
            · exact r.inj j k c d hj hk hne hc hd
    · rw [hget] at hg
      split at hg
      · next h => subst h; rw [hn, hxb, ← hei]; exact r.base i b0 hg0 hown
      · split at hg
        · cases hg; cases hc
        · exact r.base j c hg hc
  · refine ⟨Env.add_agree _ _ _, Nat.le_succ _, rfl, rfl, rfl, rfl, rfl, by rw [setBlk_size]; exact Nat.le_refl _, fun c hc hn => ?_, fun c ho => ?_, fun j hj => ?_, setBlk_loops hk, fun h => ⟨h, setBlk_froz hz⟩⟩
    · refine setBlk_ne ?_
      rintro rfl
      exact hn ⟨i, b0, hg0, hown, hlo, rfl⟩
    · obtain ⟨j, d, hg, hd, hl, he⟩ := ho
      left
      rw [hget] at hg
      split at hg
      · next h => subst h; rw [Env.add_self, hxb] at he; exact ⟨i, b0, hg0, hown, hlo, he⟩
      · split at hg
        · cases hg; cases hd
        · exact ⟨j, d, hg, hd, hl, by rw [← he, Env.add_agree E H.next x j (hw.get_lt hg)]⟩
    · show ((H.tree.set i .defd).set H.next b).get j = _
      rw [Tr.get_set, if_neg, Tr.get_set, if_neg]
      · rintro rfl
        rcases hj with hj | hj
        · omega
        · rw [hvis] at hj; cases hj
      · rintro rfl
        rcases hj with hj | hj
        · exact absurd hw.lo (by omega)
        · rw [hw.vis_ge (Nat.le_refl _)] at hj; cases hj

theorem size_zero (z : Array Value) (n : Nat) : (Builtin.zeroCells z n).size = n * z.size := by
  unfold Builtin.zeroCells; simp

theorem run_askRoom (n : Nat) : (askRoom n).run P w = .ok () w := by
  unfold askRoom
  simp only [Sem.run_ite]
  split
  · rfl
  · rfl

/-- What append does where the capacity is too small: a new row. -/
theorem run_grow (hL : LOk0 L P) {e : TypeId} {z b : Nat} {zv : AV} (hz : L.size e = some z) (hb : L.bytes e = some b) (hzv : L.zero e = some zv) (hzl : zv.cells.length = z)
    {ts : Array TypeId} {ty t t' : TypeId} (ht : ts[0]? = some t) (ht' : ts[1]? = some t') (hu : L.under t = some (.slice e)) {d' : TypeDesc} (hu' : L.under t' = some d') (hd' : d' = .string ∨ ∃ e', d' = .slice e')
    {x : Value} {base : Option Addr} {l c n : Nat} {old new : Array Value} {rest' : List Value} (hn : (Builtin.lenOf x).run P w = .ok n w) (hg : c < l + n)
    (h63 : l + n ≤ 9223372036854775807) (hby : (l + n) * b ≤ 140737488355328)
    (hold : ∀ w', w'.heap = w.heap → (Builtin.firstCells z l (.slice base l c)).run P w' = .ok old w') (hnew : ∀ w', w'.heap = w.heap → (Builtin.firstCells z n x).run P w' = .ok new w') :
    ∃ ex, ∃ rest : List Value, rest.length = ex * z ∧
      (Builtin.append_ ts ty (.slice base l c :: x :: rest').toArray).run P w = .ok (.slice (some ⟨w.heap.size, 0, none⟩) (l + n) (l + n + ex)) (wNew w.drew (.cells ((old ++ new).toList ++ rest).toArray e)) := by
  obtain ⟨i, hi, hib⟩ : ∃ i, L.info e = some i ∧ i.bytes = b := by
    unfold Lk.bytes at hb
    split at hb
    · next i hi => cases hb; exact ⟨i, hi, rfl⟩
    · cases hb
  refine ⟨w.tape w.drawn (.appendCap (l + n) c e) % (2 ^ 63 - (l + n)), (Builtin.zeroCells (concL (fun _ => ⟨0, 0, 0⟩) zv.cells).toArray (w.tape w.drawn (.appendCap (l + n) c e) % (2 ^ 63 - (l + n)))).toList, ?_, ?_⟩
  · simp [size_zero, concL_length, hzl]
  · have hn' : ¬ (l + n ≤ c) := by omega
    have h63' : ¬ (9223372036854775807 < ((l : Int) + (n : Int))) := by omega
    have hfit := growslice_fits hg hby
    have h48' : ¬ (281474976710656 < Builtin.nextslicecap (l + n) c * b) := by omega
    have ho := hold w.drew rfl
    have hw' := hnew w.drew rfl
    have hty : ∀ w, (typeInfo e).run P w = .ok i w := fun w => run_info hL hi w
    have hsz : ∀ w, (sizeOf e).run P w = .ok z w := fun w => run_size hL hz w
    have hzr : ∀ w, (zeroValue e).run P w = .ok (conc (fun _ => ⟨0, 0, 0⟩) zv) w := fun w => run_zero hL hzv w
    have hu1 : ∀ w, (underlying t).run P w = .ok (.slice e) w := fun w => run_under hL hu w
    have hu2 : ∀ w, (underlying t').run P w = .ok d' w := fun w => run_under hL hu' w
    have hcut : (Question.appendCap (l + n) c e).cut (w.tape w.drawn (Question.appendCap (l + n) c e)) - (l + n) = w.tape w.drawn (Question.appendCap (l + n) c e) % (9223372036854775808 - (l + n)) := Nat.add_sub_cancel_left ..
    have fin : ∀ zs : Array Value, w.drew.alloc (Obj.cells (old ++ (new ++ zs)) e) = wNew w.drew (Obj.cells (old.toList ++ (new.toList ++ zs.toList)).toArray e) := by
      intro zs
      show wNew w.drew _ = _
      congr 2
      apply Array.ext'
      simp
    rcases hd' with rfl | ⟨e', rfl⟩
    · simp only [Builtin.append_, ht, ht', List.getElem?_toArray, List.getElem?_cons_zero, List.getElem?_cons_succ]
      simp [hu1, hu2, hsz, hty, hzr, hn, hn', h63', hib, h48', Question.forced, ho, hw', newRow, run_askRoom, conc_cells]
      refine ⟨rfl, ?_⟩
      rw [hcut]
      exact fin _
    · simp only [Builtin.append_, ht, ht', List.getElem?_toArray, List.getElem?_cons_zero, List.getElem?_cons_succ]
      simp [hu1, hu2, hsz, hty, hzr, hn, hn', h63', hib, h48', Question.forced, ho, hw', newRow, run_askRoom, conc_cells]
      refine ⟨rfl, ?_⟩
      rw [hcut]
      exact fin _

/-- What append does where there is room: it writes. -/
theorem run_room (hL : LOk0 L P) {e : TypeId} {z : Nat} (hz : L.size e = some z)
    {ts : Array TypeId} {ty t t' : TypeId} (ht : ts[0]? = some t) (ht' : ts[1]? = some t') (hu : L.under t = some (.slice e)) {d' : TypeDesc} (hu' : L.under t' = some d') (hd' : d' = .string ∨ ∃ e', d' = .slice e')
    {x : Value} {base : Option Addr} {l c n : Nat} {new : Array Value} {rest' : List Value} (hn : (Builtin.lenOf x).run P w = .ok n w) (hg : l + n ≤ c)
    (hnew : (Builtin.firstCells z n x).run P w = .ok new w) :
    (Builtin.append_ ts ty (.slice base l c :: x :: rest').toArray).run P w =
      ((match base with | none => (pure () : Sem Unit) | some a => storeCells (a.add (l * z)) new.toList).run P w).andThen (fun _ w' => Result.ok (Value.slice base (l + n) c) w') := by
  have hsz : ∀ w, (sizeOf e).run P w = .ok z w := fun w => run_size hL hz w
  have hu1 : ∀ w, (underlying t).run P w = .ok (.slice e) w := fun w => run_under hL hu w
  have hu2 : ∀ w, (underlying t').run P w = .ok d' w := fun w => run_under hL hu' w
  rcases hd' with rfl | ⟨e', rfl⟩ <;>
  · simp only [Builtin.append_, ht, ht', List.getElem?_toArray, List.getElem?_cons_zero, List.getElem?_cons_succ]
    cases base <;> simp [hu1, hu2, hsz, hn, hg, hnew]

theorem evAppend_ok (hL : LOk0 L P) (hw : H.Wf) (hS : St B E H w) {ts : Array TypeId} {ty t t' : TypeId} (ht : ts[0]? = some t) (ht' : ts[1]? = some t') {d' : TypeDesc} (hu' : L.under t' = some d') (hd' : d' = .string ∨ ∃ e', d' = .slice e')
    {s x : AV} {us ux : Value} (hs : StV E H.next s us) (hx : StV E H.next x ux) {rest' : List Value} {v : AV} {H1 : AH} (h : evAppend L t s x H = some (v, H1)) :
    ∃ u w1, (Builtin.append_ ts ty (us :: ux :: rest').toArray).run P w = .ok u w1 ∧ Done B E H w v H1 u w1 := by
  have hxE : ∀ E', Agree H.next E E' → conc E' x = conc E x := fun E' hE => (hx E' hE).symm.trans hx.self
  have hsE : ∀ E', Agree H.next E E' → conc E' s = conc E s := fun E' hE => (hs E' hE).symm.trans hs.self
  rw [hs.self, hx.self]
  unfold evAppend at h
  split at h
  · next e hu =>
    split at h
    · next z b zv n hz hb hzv hln =>
      split at h
      · cases h
      · next new hnew =>
        have hsame : ∀ w', w'.heap = w.heap → HRel B E H w' := fun w' he => by
          have r := hS.self
          exact ⟨fun i b hg => (r.blk i b hg).congr (fun _ => by rw [he]), r.inj, r.base, by rw [he]; exact r.size⟩
        have hnewr : ∀ w', w'.heap = w.heap → (Builtin.firstCells z n (conc E x)).run P w' = .ok (concL E new).toArray w' := fun w' he => srcCells_ok (hsame w' he) hnew
        have hnE : ∀ E', Agree H.next E E' → concL E' new = concL E new := fun E' hE => srcCells_E (P := P) hw hS hxE hnew hE
        split at h
        · cases h
        · next hone =>
          split at h
          · cases h
          · next hzz =>
            simp only [Bool.or_eq_false_iff, Bool.not_eq_false'] at hzz
            have hzl := Nat.eq_of_beq_eq_true hzz.2
            rw [len_eq] at hzl
            split at h
            · -- a nil slice
              split at h
              · next hn0 =>
                have hn0' := Nat.eq_of_beq_eq_true hn0
                subst hn0'
                cases h
                refine ⟨_, _, ?_, Done.same hw hS (v := .nilSl) (fun _ _ => rfl)⟩
                have := run_room (P := P) (w := w) hL hz (ty := ty) ht ht' hu hu' hd' (base := none) (l := 0) (c := 0) (rest' := rest') (lenOf_ok (E := E) hln) (Nat.le_refl _) (hnewr w rfl)
                exact this
              · split at h
                · cases h
                · next hbd =>
                  cases h
                  obtain ⟨hb1, hb2⟩ := and_ble hbd
                  have hpos : 0 < n := by
                    rcases Nat.eq_zero_or_pos n with h0 | h0
                    · subst h0; next hn0 => exact absurd hn0 (by simp)
                    · exact h0
                  obtain ⟨ex, rest, hrl, hrun⟩ := run_grow (P := P) (w := w) hL hz hb hzv hzl (ty := ty) ht ht' hu hu' hd' (base := none) (l := 0) (c := 0) (old := #[]) (rest' := rest') (lenOf_ok (E := E) hln) (by omega) (by omega) (by simpa using hb1)
                    (fun w' _ => by simp [Builtin.firstCells]) hnewr
                  simp only [Nat.zero_add] at hrun
                  refine ⟨_, _, hrun, ?_⟩
                  have key := newCells_ok (hw) (hS.drawn (w.drawn + 1)) (vs := new) e z true ex rest hnE (by simpa using hrl)
                  have hcells : ((#[] ++ (concL E new).toArray).toList ++ rest).toArray = (concL E new ++ rest).toArray := by simp
                  rw [hcells]
                  refine ⟨_, fun E' hE => ?_, key.1, (Post.drawn (w.drawn + 1)).trans key.2.1, key.2.2⟩
                  have : E' H.next = ⟨w.heap.size, 0, ex⟩ := (hE H.next (Nat.lt_succ_self _)).trans (Env.add_self _ _ _)
                  simp [conc, this]
            · -- another slice
              next i o l c op =>
              split at h
              · next hle =>
                have hle' := ble_t hle
                split at h
                · next H' hwr =>
                  cases h
                  obtain ⟨w1, hst, h1, h2, h3, h4⟩ := write_ok (P := P) hw hS hnE hwr
                  have hr := run_room (P := P) (w := w) hL hz (ty := ty) ht ht' hu hu' hd' (base := some (cA E i o)) (l := l) (c := c + (if op then (E i).extra else 0)) (rest' := rest') (lenOf_ok (E := E) hln) (by omega) (hnewr w rfl)
                  refine ⟨Value.slice (some (cA E i o)) (l + n) (c + (if op then (E i).extra else 0)), w1, ?_, E, ?_, h1, h2, h3⟩
                  · show (Builtin.append_ ts ty (Value.slice (some (cA E i o)) l (c + (if op then (E i).extra else 0)) :: conc E x :: rest').toArray).run P w = _
                    rw [hr]
                    simp only [cA_add]
                    rw [hst]
                    rfl
                  · rw [h4]
                    intro E' hE
                    have := hsE E' hE
                    simp only [conc, Value.slice.injEq] at this ⊢
                    obtain ⟨e1, _, e3⟩ := this
                    exact ⟨e1.symm, trivial, e3.symm⟩
                · cases h
              · next hle =>
                split at h
                · next old hbd hrd =>
                  obtain ⟨hb1, hb2⟩ := and_ble hbd
                  have hgt : c < l + n := by
                    rcases Nat.lt_or_ge c (l + n) with hh | hh
                    · exact hh
                    · rw [Nat.ble_eq_true_of_le hh] at hle; cases hle
                  have hi : i < H.next := by
                    unfold AH.read AH.row at hrd
                    split at hrd
                    · next vs hvs =>
                      split at hvs
                      · next hg => exact hw.get_lt hg
                      · cases hvs
                    · cases hrd
                  have holdr : ∀ c', ∀ w', w'.heap = w.heap → (Builtin.firstCells z l (Value.slice (some (cA E i o)) l c')).run P w' = .ok (concL E old).toArray w' := fun c' w' he => (hsame w' he).read (P := P) hrd
                  have holdE : ∀ E', Agree H.next E E' → concL E' old = concL E old := fun E' hE => read_E hS P hi hrd hE
                  have honE : ∀ E', Agree H.next E E' → concL E' (old ++ new) = concL E (old ++ new) := fun E' hE => by rw [concL_append, concL_append, holdE E' hE, hnE E' hE]
                  -- a new row, whatever becomes of the old one
                  have grow : ∀ c', c' < l + n → ∀ H2 : AH, H2.next = H.next → H2.Wf → St B E H2 w → ∃ u w1, (Builtin.append_ ts ty (Value.slice (some (cA E i o)) l c' :: conc E x :: rest').toArray).run P w = .ok u w1 ∧
                      Done B E H2 w (.sl H.next 0 (l + n) (l + n) true) (H2.new (.cells (old ++ new) e z true false)) u w1 := by
                    intro c' hc' H2 hnx hw2 hS2
                    obtain ⟨ex, rest, hrl, hrun⟩ := run_grow (P := P) (w := w) hL hz hb hzv hzl (ty := ty) ht ht' hu hu' hd' (base := some (cA E i o)) (l := l) (c := c') (rest' := rest') (lenOf_ok (E := E) hln) hc' hb2 hb1 (holdr c') hnewr
                    refine ⟨_, _, hrun, ?_⟩
                    have key := newCells_ok (hw2) (hS2.drawn (w.drawn + 1)) (vs := old ++ new) e z true ex rest (by rw [hnx]; exact honE) (by simpa using hrl)
                    have hcells : (((concL E old).toArray ++ (concL E new).toArray).toList ++ rest).toArray = ((concL E (old ++ new)) ++ rest).toArray := by rw [concL_append]; simp
                    rw [hcells]
                    refine ⟨_, fun E' hE => ?_, key.1, (Post.drawn (w.drawn + 1)).trans key.2.1, key.2.2⟩
                    have : E' H2.next = ⟨w.heap.size, 0, ex⟩ := (hE H2.next (Nat.lt_succ_self _)).trans (Env.add_self _ _ _)
                    rw [hnx] at this
                    simp [conc, this]
                  split at h
                  · cases h
                    have := grow c hgt H rfl hw hS
                    simpa [conc] using this
                  · split at h
                    · next vs e' z' op' ro hlo hg =>
                      split at h
                      · next hcond =>
                        cases h
                        simp only [Bool.and_eq_true, Bool.not_eq_true'] at hcond
                        obtain ⟨⟨⟨⟨q1, q2⟩, q3⟩, q4⟩, q5⟩ := hcond
                        have q1 := Nat.eq_of_beq_eq_true q1
                        have q2 := Nat.eq_of_beq_eq_true q2
                        have q5 := Nat.eq_of_beq_eq_true q5
                        rw [len_eq] at q5
                        subst q1 q2 q3 q4
                        have hlo' := ble_t hlo
                        show ∃ u w1, (Builtin.append_ ts ty (Value.slice (some (cA E i o)) l (c + (if true = true then (E i).extra else 0)) :: conc E x :: rest').toArray).run P w = .ok u w1 ∧ _
                        rw [if_pos rfl]
                        by_cases hroom : l + n ≤ c + (E i).extra
                        · -- there is room: the old row goes on
                          obtain ⟨cs, e'', fz, h1, h2, h3⟩ := hS.self.blk i _ hg
                          obtain ⟨hfz, hsz⟩ := h3 rfl
                          simp only [if_true] at hsz
                          have hnl := srcCells_len hnew
                          have hmul : (l + n) * z ≤ (c + (E i).extra) * z := Nat.mul_le_mul_right z hroom
                          have hmul2 : (l + n) * z = l * z + n * z := Nat.add_mul ..
                          have hmul3 : (c + (E i).extra) * z = c * z + (E i).extra * z := Nat.add_mul ..
                          obtain ⟨cs', hst, hs', hj'⟩ := run_storeCells (P := P) (E := E) (i := i) (o := o + l * z) new 0 w cs h1 hfz (by rw [hsz]; omega) hone
                          have hr := run_room (P := P) (w := w) hL hz (ty := ty) ht ht' hu hu' hd' (base := some (cA E i o)) (l := l) (c := c + (E i).extra) (rest' := rest') (lenOf_ok (E := E) hln) hroom (hnewr w rfl)
                          have hold : old.length = l * z ∧ ∀ j, j < l * z → old[j]? = vs[o + j]? ∧ o + j < vs.length := by
                            unfold AH.read AH.row at hrd
                            rw [hg] at hrd
                            exact sliceN_getElem hrd
                          have key := move_ok hw hS hg rfl hlo' (.cells (old ++ new) e z true false) (.cells cs' e'' fz) ⟨(E i).blk, (E i).off + o, c + (E i).extra - (l + n)⟩ rfl (fun r hr => by rw [h1] at hr; cases hr) (fun x off hx => by rw [h1] at hx; cases hx; rfl) (fun E' hE hn => by
                            refine ⟨cs', e'', fz, by rw [hn]; exact setBlk_self h1, fun j v hv => ?_, fun _ => ⟨by rw [hs']; exact hfz, ?_⟩⟩
                            · rw [hn]
                              have hcv : (concL E (old ++ new))[j]? = some (conc E' v) := by rw [← honE E' hE, concL_getElem?, hv]; rfl
                              show cs'[(E i).off + o + j]? = _
                              rw [hj']
                              by_cases hlt : j < l * z
                              · rw [if_neg (by omega)]
                                rw [concL_getElem?, List.getElem?_append_left (by rw [hold.1]; exact hlt), (hold.2 j hlt).1] at hcv
                                obtain ⟨vv, hvv⟩ : ∃ vv, vs[o + j]? = some vv := ⟨_, List.getElem?_eq_getElem (hold.2 j hlt).2⟩
                                rw [hvv] at hcv
                                rw [show (E i).off + o + j = (E i).off + (o + j) from by omega, h2 _ _ hvv]
                                exact hcv
                              · have hlt2 : j < l * z + new.length := by
                                  rcases Nat.lt_or_ge j (l * z + new.length) with hh | hh
                                  · exact hh
                                  · rw [List.getElem?_eq_none (by rw [List.length_append, hold.1]; exact hh)] at hv; cases hv
                                rw [if_pos (by omega)]
                                rw [concL_getElem?, List.getElem?_append_right (by rw [hold.1]; omega), hold.1] at hcv
                                rw [show (E i).off + o + j - ((E i).off + (o + l * z) + 0) = j - l * z from by omega]
                                exact hcv
                            · rw [hn, hs', hsz, List.length_append, hold.1, hnl]
                              simp only [if_true]
                              rw [Nat.sub_mul]
                              omega)
                          refine ⟨Value.slice (some (cA E i o)) (l + n) (c + (E i).extra), _, ?_, E.add H.next ⟨(E i).blk, (E i).off + o, c + (E i).extra - (l + n)⟩, ?_, key.1, key.2.1, key.2.2⟩
                          · rw [hr]
                            simp only [cA_add]
                            rw [hst]
                            rfl
                          · intro E' hE
                            have hn : E' H.next = ⟨(E i).blk, (E i).off + o, c + (E i).extra - (l + n)⟩ := (hE H.next (Nat.lt_succ_self _)).trans (Env.add_self _ _ _)
                            simp only [conc, hn, if_true, Nat.add_zero, cA]
                            congr 1
                            omega
                        · -- a new row
                          have dr := drop_ok hw hS hg hlo'
                          obtain ⟨u, w1, hr, E1, d1, d2, d3, d4⟩ := grow (c + (E i).extra) (by omega) (H.drop i) rfl dr.2.2 dr.1
                          exact ⟨u, w1, hr, E1, d1, d2, dr.2.1.trans d3, d4⟩
                      · cases h
                    · cases h
                · cases h
            · cases h
    · cases h
  · cases h
end
end Go.Ev
