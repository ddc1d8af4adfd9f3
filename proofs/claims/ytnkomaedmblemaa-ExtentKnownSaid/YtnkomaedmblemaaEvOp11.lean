import Derived.Test.YtnkomaedmblemaaEvOp10
import Derived.Laws.BytesArg
set_option linter.unusedSimpArgs false
set_option linter.unusedVariables false
namespace Go.Ev
section
variable {L : Lk} {P : Program} {w : World} {E : Env} {B : Nat} {H : AH}

theorem opnd_st {n : Nat} {T : Tr AV} {a : Act} (hT : StT E n T a.tmps) {x : Operand} {v : AV} (h : opnd T x = some v) : StV E n v (a.eval x) := fun E' hE => opnd_ok (hT E' hE) h
theorem opnds_st {n : Nat} {T : Tr AV} {a : Act} (hT : StT E n T a.tmps) {l : List Operand} {vs : List AV} (h : opnds T l = some vs) : StL E n vs (l.map a.eval) := fun E' hE => opnds_ok (hT E' hE) h

theorem numsOf_ok {l : List AV} {ns : List Int} (h : numsOf l = some ns) : concL E l = ns.map (Value.int .u8) := by
  rw [concL_eq]
  refine mapO_map numOf (Value.int .u8) (conc E) (fun a b hab => ?_) h
  unfold numOf at hab
  split at hab
  · cases hab; rfl
  · cases hab

def bytesArr (s : ByteArray) (ex : Nat) : Array Value := (s.data.map fun b => Value.int .u8 b.toNat) ++ Array.replicate ex (Value.int .u8 0)
theorem bytesArr_size (s : ByteArray) (ex : Nat) : (bytesArr s ex).size = s.size + ex := by simp [bytesArr]
theorem freeze_new (w : World) (cs : Array Value) (e : TypeId) : (wNew w (.cells cs e)).freeze ⟨w.heap.size, cs.size, none⟩ 1 = wNew w (.cells cs e (cs.size, cs.size + 1)) := by
  unfold World.freeze wNew
  rw [if_neg (by omega)]
  congr 1
  refine Array.ext (by simp) fun j hj1 hj2 => ?_
  rw [Array.getElem_modify]
  simp only [Array.size_modify, Array.size_push] at hj1
  by_cases h : j = w.heap.size
  · subst h; simp
  · rw [if_neg (by simpa using Ne.symm h), Array.getElem_push_lt (by omega), Array.getElem_push_lt (by omega)]
theorem run_stringToBytes (e : TypeId) (s : ByteArray) : ∃ ex, (Conv.stringToBytes e s).run P w =
    .ok (.slice (some ⟨w.heap.size, 0, none⟩) s.size (s.size + ex)) (wNew w.drew (.cells (bytesArr s ex) e ((bytesArr s ex).size, (bytesArr s ex).size + 1))) := by
  refine ⟨w.tape w.drawn (.appendCap s.size 0 e) % (2 ^ 63 - s.size), ?_⟩
  have hcut : (Question.appendCap s.size 0 e).cut (w.tape w.drawn (.appendCap s.size 0 e)) = s.size + w.tape w.drawn (.appendCap s.size 0 e) % (2 ^ 63 - s.size) := rfl
  have hfrz := freeze_new w.drew (bytesArr s (w.tape w.drawn (.appendCap s.size 0 e) % (2 ^ 63 - s.size))) e
  have hsh : (wNew w.drew (.cells (bytesArr s (w.tape w.drawn (.appendCap s.size 0 e) % (2 ^ 63 - s.size))) e)).shape? w.heap.size = some (e, (bytesArr s (w.tape w.drawn (.appendCap s.size 0 e) % (2 ^ 63 - s.size))).size) := by
    unfold World.shape?
    rw [show w.heap.size = w.drew.heap.size from rfl, wNew_self]
  unfold Conv.stringToBytes
  have hch : (choose (.appendCap s.size 0 e)).run P w = .ok (s.size + w.tape w.drawn (.appendCap s.size 0 e) % (2 ^ 63 - s.size)) w.drew := by
    unfold choose
    simp only [Sem.run, Question.forced, Bool.false_eq_true, if_false]
    rfl
  simp only [Sem.run_bind, hch, Result.andThen_ok, Nat.add_sub_cancel_left]
  show ((newRow e (bytesArr s _)).run P w.drew).andThen _ = _
  rw [run_newRow]
  simp only [Result.andThen_ok]
  have hms : (markStringish ⟨w.drew.heap.size, 0, none⟩).run P (wNew w.drew (.cells (bytesArr s (w.tape w.drawn (.appendCap s.size 0 e) % (2 ^ 63 - s.size))) e)) = .ok () (wNew w.drew (.cells (bytesArr s (w.tape w.drawn (.appendCap s.size 0 e) % (2 ^ 63 - s.size))) e ((bytesArr s (w.tape w.drawn (.appendCap s.size 0 e) % (2 ^ 63 - s.size))).size, (bytesArr s (w.tape w.drawn (.appendCap s.size 0 e) % (2 ^ 63 - s.size))).size + 1))) := by
    unfold markStringish
    simp only [Sem.run_bind, shape, Sem.run]
    rw [show w.drew.heap.size = w.heap.size from rfl, hsh]
    simp only [Result.andThen_ok, freeze, Sem.run]
    rw [← hfrz]
    rfl
  rw [hms]
  rfl

theorem evConvert_ok (hL : LOk0 L P) (hw : H.Wf) (hS : St B E H w) {src dst : TypeId} {x v : AV} {H1 : AH} {ux : Value} (hx : StV E H.next x ux) (h : evConvert L src dst x H = some (v, H1)) :
    ∃ u w1, (convert src dst ux).run P w = .ok u w1 ∧ Done B E H w v H1 u w1 := by
  unfold evConvert at h
  split at h
  · next s d hs hd =>
    rw [hx.self]
    split at h
    · next k k' n =>
      simp only [fwrap_eq] at h
      cases h
      refine ⟨_, _, ?_, Done.same hw hS (v := .int k (k.wrap n)) (u := .int k (k.wrap n)) (fun _ _ => rfl)⟩
      unfold convert
      simp only [Sem.run_bind, run_under hL hs, run_under hL hd, Result.andThen_ok, conc]
      cases s <;> rfl
    · next s' =>
      cases h
      refine ⟨_, _, ?_, Done.same hw hS (v := .str s') (u := .string s') (fun _ _ => rfl)⟩
      unfold convert
      simp only [Sem.run_bind, run_under hL hs, run_under hL hd, Result.andThen_ok, conc]
      cases s <;> rfl
    · split at h
      · next e =>
        split at h
        · next he =>
          cases h
          refine ⟨_, _, ?_, Done.same hw hS (v := .str ByteArray.empty) (u := .string ByteArray.empty) (fun _ _ => rfl)⟩
          unfold convert
          simp only [Sem.run_bind, run_under hL hs, run_under hL hd, Result.andThen_ok, conc, run_under hL he]
          rfl
        · cases h
      · cases h
    · next i o n c op =>
      split at h
      · next e =>
        split at h
        · next he =>
          split at h
          · next l hl =>
            split at h
            · next ns hns =>
              cases h
              refine ⟨_, _, ?_, Done.same hw hS (v := .str ⟨(ns.map fun n => UInt8.ofNat n.toNat).toArray⟩) (u := .string ⟨(ns.map fun n => UInt8.ofNat n.toNat).toArray⟩) (fun _ _ => rfl)⟩
              have hrd := hS.self.read (P := P) hl
              rw [numsOf_ok (E := E) hns] at hrd
              show (convert src dst (Value.slice (some (cA E i o)) n _)).run P w = _
              rw [run_convert_bytes_string w src dst e _ n _ (under_ok hL hs) (under_ok hL he) (under_ok hL hd), run_bytesToString w _ n _ ns hrd, foldl_push_bytes]
              simp [ByteArray.empty, ByteArray.emptyWithCapacity]
              rfl
            · cases h
          · cases h
        · cases h
      · cases h
    · next e s' =>
      split at h
      · next he =>
        cases h
        -- the bytes in a row of their own, whose end is marked
        obtain ⟨ex, hrun⟩ := run_stringToBytes (P := P) (w := w) e s'
        have hcv : (convert src dst (conc E (.str s'))).run P w = (Conv.stringToBytes e s').run P w := by
          unfold convert
          simp only [Sem.run_bind, run_under hL hs, run_under hL hd, Result.andThen_ok, conc]
          cases s <;> simp only [Sem.run_bind, run_under hL he, Result.andThen_ok]
        have hnx : ∀ E', concL E' (s'.data.toList.map fun b => AV.int .u8 b.toNat) = (s'.data.toList.map fun b => Value.int .u8 b.toNat) := fun E' => by simp [concL_eq, conc]
        have key := new_okz hw (hS.drawn (w.drawn + 1)) (.cells (s'.data.toList.map fun b => AV.int .u8 b.toNat) e 1 true false)
          (.cells (bytesArr s' ex) e ((bytesArr s' ex).size, (bytesArr s' ex).size + 1)) ex (fun E' hE hn => by
            refine ⟨_, e, _, by rw [hn]; exact wNew_self, fun j v hv => ?_, fun _ => ⟨fun j hj => by show ¬ (_ ≤ _ ∧ _); omega, ?_⟩⟩
            · rw [hn]
              have hlt : j < s'.data.size := by
                rcases Nat.lt_or_ge j s'.data.size with h | h
                · exact h
                · rw [List.getElem?_eq_none (by simpa using h)] at hv; cases hv
              show (bytesArr s' ex)[0 + j]? = _
              unfold bytesArr
              rw [Nat.zero_add, Array.getElem?_append_left (by simpa using hlt)]
              have hc : (concL E' (s'.data.toList.map fun b => AV.int .u8 b.toNat))[j]? = some (conc E' v) := by rw [concL_getElem?, hv]; rfl
              rw [hnx] at hc
              simpa using hc
            · rw [hn, bytesArr_size]
              simp)
        refine ⟨_, _, hcv.trans hrun, _, fun E' hE => ?_, key.1, (Post.drawn (w.drawn + 1)).trans key.2.1, key.2.2⟩
        have : E' H.next = ⟨w.heap.size, 0, ex⟩ := (hE H.next (Nat.lt_succ_self _)).trans (Env.add_self _ _ _)
        simp [conc, this]
      · cases h
    · cases h
  · cases h
end
end Go.Ev
