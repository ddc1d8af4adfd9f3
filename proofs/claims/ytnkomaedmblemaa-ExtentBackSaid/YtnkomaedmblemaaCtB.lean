import Derived.Test.YtnkomaedmblemaaCtA
import Derived.Test.YtnkomaedmblemaaExl
set_option linter.unusedSimpArgs false
set_option linter.unusedVariables false
set_option maxRecDepth 100000
namespace Go.Proofs.Ytnkomaedmblemaa
open Go.Ev Exl

def iC (l : List Int) : List AV := l.map (AV.int .i64)
theorem takeI (zs : List Int) {i : Nat} (h : i < zs.length) : zs.take (i + 1) = zs.take i ++ [zs.getD i 0] := by
  rw [List.take_add_one, List.getElem?_eq_getElem h]
  simp [List.getD_eq_getElem?_getD, List.getElem?_eq_getElem h]

end Go.Proofs.Ytnkomaedmblemaa

set_option linter.unusedSimpArgs false
set_option linter.unusedVariables false
set_option maxRecDepth 100000
namespace Go.Proofs.Ytnkomaedmblemaa
open Go.Ev Exl

theorem sl_open {L : Lk} {t e z : Nat} {i o n c : Nat} {k : IntKind} {m : Int} (ht : L.under t = some (.slice e)) (hz : L.size e = some z) (h0 : 0 ≤ m) (h1 : m ≤ c) (hc : c ≠ 0) :
    sliceF L t false true false [.sl i o n c true, .int k m] = some (.sl i o m.toNat c true) := by
  obtain ⟨a, rfl⟩ := Int.eq_ofNat_of_zero_le h0
  show evSlice L t (.sl i o n c true) none (some (.int k a)) none = _
  unfold evSlice
  rw [ht]
  show (match bndOf none 0 with | none => none | some l => _) = _
  show (match L.size e with | none => none | some z => (match some a with
        | none => none
        | some h => match Nat.ble 0 h && Nat.ble h c with
            | true => (match Nat.beq c 0 with | true => none | false => some (AV.sl i (o + 0 * z) (h - 0) (c - 0) true))
            | false => none)) = _
  rw [hz]
  simp only
  rw [show Nat.ble 0 a = true from Nat.ble_eq_true_of_le (Nat.zero_le _), show Nat.ble a c = true from Nat.ble_eq_true_of_le (by omega), show Nat.beq c 0 = false from by cases c with | zero => omega | succ c => rfl]
  simp only [Bool.and_self, Nat.sub_zero, Int.toNat_natCast, Nat.zero_mul, Nat.add_zero]
theorem sameX_ok (H : AH) (v w : AV) (l m : List (Int × Int)) (hs : SlX H v l) (hw : SlX H w m) (hl : l.length ≤ 1000000) (hm : m.length ≤ 1000000) :
    FnE look 14 [v, w] H fun r H' => r = .bool (decide (l = m)) ∧ H' = H := by
  refine fn_intro f14_eq (noext rfl) rfl ?_
  unfold f14c
  have hlen := fun H' => len_el (H' := H') u22 hs.is
  have hlenw := fun H' => len_el (H' := H') u22 hw.is
  by_cases hlm : l.length = m.length
  · (repeat' (first | apply Z1 | apply Z2 | apply Z3 | apply Z4 | apply Z5 | apply Z6 | apply Z7 | apply Z8 | apply Z9 | apply Za | apply Zb | apply Zc | apply Zd | apply Ze | apply Zf | apply Zg | apply Zh | apply Zi | refine Zj (by decide) ?_ | ((first | apply Zk | apply Zl | apply Zm | apply Zn | apply Zo | apply Zp | apply Zq | apply Zr); (· (first | (simp (disch := omega) only [evl, Nat.reduceEqDiff, Nat.reduceAdd, reduceIte, reduceCtorEq, hlen, hlenw] <;> exact rfl) | exact rfl)); all_goals try (refine fun (hb : _ = _) => ?_; try simp only [bvl, ne_eq, Bool.not_true, Bool.not_false, reduceCtorEq, not_true_eq_false] at hb)) | (apply Zs; · simp (disch := omega) only [evl, Nat.reduceEqDiff, reduceIte])))
    refine rc_loop (R := fun ex T' H' => H' = H ∧ ((ex = .exit 0 ∧ l = m) ∨ (ex = .ret ∧ gT T' 4 = .bool false ∧ l ≠ m))) ?_ ?_
    · refine lp_ind f14l0_eq (fun k T H' => ∃ i : Nat, k = l.length - i ∧ i ≤ l.length ∧ gT T 0 = v ∧ gT T 1 = w ∧ gT T 5 = .int .i64 i ∧ (∀ j, j < i → exG l j = exG m j) ∧ H' = H) _ ?_ l.length _ _ ?_
      · intro k T H' hI
        obtain ⟨i, hk, hi, h0, h1, h5, hall, rfl⟩ := hI
        unfold f14l0
        by_cases hlt : i < l.length
        · have hel := SlX.rdN hs hlt
          have helw := SlX.rdN hw (k := i) (by omega)
          have hix := @ix_el _ _ _ hs.is
          have hixw := @ix_el _ _ _ hw.is
          have Hall := Hd.mk hall
          clear hall
          have hnq := fun xo yo => neq43 xo yo (exG l i) (exG m i)
          by_cases hq : exG l i = exG m i
          · rw [decide_eq_false (fun h => h hq)] at hnq
            (repeat' (first | apply Z1 | apply Z2 | apply Z3 | apply Z4 | apply Z5 | apply Z6 | apply Z7 | apply Z8 | apply Z9 | apply Za | apply Zb | apply Zc | apply Zd | apply Ze | apply Zf | apply Zg | apply Zh | apply Zi | refine Zj (by decide) ?_ | ((first | apply Zk | apply Zl | apply Zm | apply Zn | apply Zo | apply Zp | apply Zq | apply Zr); (· (first | (simp (disch := omega) only [evl, Nat.reduceEqDiff, Nat.reduceAdd, reduceIte, reduceCtorEq, h0, h1, h5, hlen, hix, hel, hixw, helw, hnq] <;> exact rfl) | exact rfl)); all_goals try (refine fun (hb : _ = _) => ?_; try simp only [bvl, ne_eq, Bool.not_true, Bool.not_false, reduceCtorEq, not_true_eq_false] at hb)) | (apply Zs; · simp (disch := omega) only [evl, Nat.reduceEqDiff, reduceIte])))
            refine rn_nil ?_; refine lpq_n (l.length - (i + 1)) (by omega) ?_; refine ⟨i + 1, rfl, by omega, (by (first | (simp (disch := omega) only [evl, Nat.reduceEqDiff, Nat.reduceAdd, reduceIte, reduceCtorEq, h0] <;> exact rfl) | exact rfl)), (by (first | (simp (disch := omega) only [evl, Nat.reduceEqDiff, Nat.reduceAdd, reduceIte, reduceCtorEq, h1] <;> exact rfl) | exact rfl)), (by (first | (simp (disch := omega) only [evl, Nat.reduceEqDiff, Nat.reduceAdd, reduceIte, reduceCtorEq] <;> exact rfl) | exact rfl)), fun j hj => ?_, rfl⟩
            rcases Nat.lt_succ_iff_lt_or_eq.1 hj with h | rfl
            · exact Hall.out j h
            · exact hq
          · rw [decide_eq_true hq] at hnq
            (repeat' (first | apply Z1 | apply Z2 | apply Z3 | apply Z4 | apply Z5 | apply Z6 | apply Z7 | apply Z8 | apply Z9 | apply Za | apply Zb | apply Zc | apply Zd | apply Ze | apply Zf | apply Zg | apply Zh | apply Zi | refine Zj (by decide) ?_ | ((first | apply Zk | apply Zl | apply Zm | apply Zn | apply Zo | apply Zp | apply Zq | apply Zr); (· (first | (simp (disch := omega) only [evl, Nat.reduceEqDiff, Nat.reduceAdd, reduceIte, reduceCtorEq, h0, h1, h5, hlen, hix, hel, hixw, helw, hnq] <;> exact rfl) | exact rfl)); all_goals try (refine fun (hb : _ = _) => ?_; try simp only [bvl, ne_eq, Bool.not_true, Bool.not_false, reduceCtorEq, not_true_eq_false] at hb)) | (apply Zs; · simp (disch := omega) only [evl, Nat.reduceEqDiff, reduceIte])))
            refine rn_nil ?_; refine lpq_r ?_; exact ⟨rfl, .inr ⟨rfl, (by (first | (simp (disch := omega) only [evl, Nat.reduceEqDiff, Nat.reduceAdd, reduceIte, reduceCtorEq] <;> exact rfl) | exact rfl)), fun h => hq (by rw [h])⟩⟩
        · (repeat' (first | apply Z1 | apply Z2 | apply Z3 | apply Z4 | apply Z5 | apply Z6 | apply Z7 | apply Z8 | apply Z9 | apply Za | apply Zb | apply Zc | apply Zd | apply Ze | apply Zf | apply Zg | apply Zh | apply Zi | refine Zj (by decide) ?_ | ((first | apply Zk | apply Zl | apply Zm | apply Zn | apply Zo | apply Zp | apply Zq | apply Zr); (· (first | (simp (disch := omega) only [evl, Nat.reduceEqDiff, Nat.reduceAdd, reduceIte, reduceCtorEq, h0, h1, h5, hlen] <;> exact rfl) | exact rfl)); all_goals try (refine fun (hb : _ = _) => ?_; try simp only [bvl, ne_eq, Bool.not_true, Bool.not_false, reduceCtorEq, not_true_eq_false] at hb)) | (apply Zs; · simp (disch := omega) only [evl, Nat.reduceEqDiff, reduceIte])))
          refine rn_nil ?_; refine lpq_e ?_
          refine ⟨rfl, .inl ⟨rfl, ?_⟩⟩
          refine List.ext_getElem hlm fun j h1 h2 => ?_
          have := hall j (by omega)
          simpa [exG, List.getD_eq_getElem?_getD, h1, h2] using this
      · exact ⟨0, by omega, by omega, (by (first | (simp (disch := omega) only [evl, Nat.reduceEqDiff, Nat.reduceAdd, reduceIte, reduceCtorEq] <;> exact rfl) | exact rfl)), (by (first | (simp (disch := omega) only [evl, Nat.reduceEqDiff, Nat.reduceAdd, reduceIte, reduceCtorEq] <;> exact rfl) | exact rfl)), (by (first | (simp (disch := omega) only [evl, Nat.reduceEqDiff, Nat.reduceAdd, reduceIte, reduceCtorEq] <;> exact rfl) | exact rfl)), fun j hj => by omega, rfl⟩
    · rintro ex T' H' ⟨rfl, h⟩
      rcases h with ⟨rfl, h⟩ | ⟨rfl, h4, h⟩
      · (repeat' (first | apply Z1 | apply Z2 | apply Z3 | apply Z4 | apply Z5 | apply Z6 | apply Z7 | apply Z8 | apply Z9 | apply Za | apply Zb | apply Zc | apply Zd | apply Ze | apply Zf | apply Zg | apply Zh | apply Zi | refine Zj (by decide) ?_ | ((first | apply Zk | apply Zl | apply Zm | apply Zn | apply Zo | apply Zp | apply Zq | apply Zr); (· (first | (simp (disch := omega) only [evl, Nat.reduceEqDiff, Nat.reduceAdd, reduceIte, reduceCtorEq] <;> exact rfl) | exact rfl)); all_goals try (refine fun (hb : _ = _) => ?_; try simp only [bvl, ne_eq, Bool.not_true, Bool.not_false, reduceCtorEq, not_true_eq_false] at hb)) | (apply Zs; · simp (disch := omega) only [evl, Nat.reduceEqDiff, reduceIte])))
        refine rn_nil ?_
        refine fq_ret (resV_1 _ _) ⟨?_, rfl⟩
        (simp (disch := omega) only [evl, Nat.reduceEqDiff, Nat.reduceAdd, reduceIte, reduceCtorEq]) <;> simp [h]
      · (repeat' (first | apply Z1 | apply Z2 | apply Z3 | apply Z4 | apply Z5 | apply Z6 | apply Z7 | apply Z8 | apply Z9 | apply Za | apply Zb | apply Zc | apply Zd | apply Ze | apply Zf | apply Zg | apply Zh | apply Zi | refine Zj (by decide) ?_ | ((first | apply Zk | apply Zl | apply Zm | apply Zn | apply Zo | apply Zp | apply Zq | apply Zr); (· (first | (simp (disch := omega) only [evl, Nat.reduceEqDiff, Nat.reduceAdd, reduceIte, reduceCtorEq] <;> exact rfl) | exact rfl)); all_goals try (refine fun (hb : _ = _) => ?_; try simp only [bvl, ne_eq, Bool.not_true, Bool.not_false, reduceCtorEq, not_true_eq_false] at hb)) | (apply Zs; · simp (disch := omega) only [evl, Nat.reduceEqDiff, reduceIte])))
        refine rn_nil ?_
        refine fq_ret (resV_1 _ _) ⟨?_, rfl⟩
        rw [h4]; simp [h]
  · (repeat' (first | apply Z1 | apply Z2 | apply Z3 | apply Z4 | apply Z5 | apply Z6 | apply Z7 | apply Z8 | apply Z9 | apply Za | apply Zb | apply Zc | apply Zd | apply Ze | apply Zf | apply Zg | apply Zh | apply Zi | refine Zj (by decide) ?_ | ((first | apply Zk | apply Zl | apply Zm | apply Zn | apply Zo | apply Zp | apply Zq | apply Zr); (· (first | (simp (disch := omega) only [evl, Nat.reduceEqDiff, Nat.reduceAdd, reduceIte, reduceCtorEq, hlen, hlenw] <;> exact rfl) | exact rfl)); all_goals try (refine fun (hb : _ = _) => ?_; try simp only [bvl, ne_eq, Bool.not_true, Bool.not_false, reduceCtorEq, not_true_eq_false] at hb)) | (apply Zs; · simp (disch := omega) only [evl, Nat.reduceEqDiff, reduceIte])))
    refine rn_nil ?_
    refine fq_ret (resV_1 _ _) ⟨?_, rfl⟩
    (simp (disch := omega) only [evl, Nat.reduceEqDiff, Nat.reduceAdd, reduceIte, reduceCtorEq])
    simp only [show ¬ l = m from fun h => hlm (by rw [h]), decide_false]

theorem Ap.stN {H : AH} {s : AV} {n e z N k : Nat} {l : List AV} {v : AV} (h : Ap H s n l e z N) (hk : k < n) (hh : H.hide = []) (hlo : H.lo ≤ N) (hv : v.cells.length = z) (h1 : v.cells.all AV.oneCell = true) :
    ∃ H' l', Go.Ev.stN z (elA z s k) v H = some H' ∧ Ap H' s n l' e z N ∧ HP (blkNe s) H H' ∧ H'.next = H.next := by
  obtain ⟨h0, ⟨rfl, rfl⟩ | ⟨i, rfl, hr, hN, hi⟩⟩ := h
  · omega
  · have hle : (k + 1) * z ≤ n * z := Nat.mul_le_mul_right z hk
    rw [Nat.add_mul] at hle
    obtain ⟨H', h1, h2, h3, h4⟩ := hr.stN (L := look) (t := 0) (v := v) (k := k * z) (s := z) hh (by omega) hv (one_of_l (by rw [toC_l]; exact h1)) (by omega)
    refine ⟨H', _, ?_, ⟨?_, .inr ⟨i, rfl, h2, hN, by omega⟩⟩, h3.mono fun j hj hb => fun h => hb 0 n n true (by rw [h]), h4⟩
    · show Go.Ev.stN z (.ptr i (0 + k * z)) v H = _
      rw [Nat.zero_add]; exact h1
    · simp only [List.length_append, List.length_take, List.length_drop, hv]; omega

end Go.Proofs.Ytnkomaedmblemaa

set_option linter.unusedSimpArgs false
set_option linter.unusedVariables false
set_option maxRecDepth 100000
namespace Go.Proofs.Ytnkomaedmblemaa
open Go.Ev Exl

theorem Ap.blk {H : AH} {s : AV} {n e z N : Nat} {l : List AV} (h : Ap H s n l e z N) {j : Nat} (hj : j < N) : blkNe s j := by
  obtain ⟨_, ⟨rfl, _⟩ | ⟨i, rfl, _, hN, _⟩⟩ := h
  · exact blkNe_nil _
  · exact blkNe_sl (by omega)
theorem SlZ.lt {H : AH} {v : AV} {n z : Nat} {cs : List AV} (h : SlZ H v n z cs) {i o m c : Nat} {op : Bool} (hv : v = .sl i o m c op) : i < H.next := by
  subst hv
  rcases h.is with ⟨h, _⟩ | ⟨i', o', c', op', h, hi, _⟩
  · cases h
  · cases h; exact hi

end Go.Proofs.Ytnkomaedmblemaa
