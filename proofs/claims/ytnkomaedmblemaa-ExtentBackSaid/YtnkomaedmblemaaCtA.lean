import Derived.Test.YtnkomaedmblemaaExA
import Derived.Test.YtnkomaedmblemaaExl
set_option linter.unusedSimpArgs false
set_option linter.unusedVariables false
namespace Go.Proofs.Ytnkomaedmblemaa
open Go.Ev Exl
set_option maxHeartbeats 4000000 in
theorem check_ok (H : AH) (v : AV) (l : List (Int × Int)) (hs : SlX H v l) (hh : H.hide = []) (hlo : H.lo ≤ H.next) (hl : l.length ≤ 1000000) :
    FnE look 22 [v] H fun r H' => HX H H' ∧ ((Ok 0 l ∧ r = .int .i64 0) ∨ (¬ Ok 0 l ∧ r = .int .i64 2)) := by
  refine fn_intro f22_eq (noext rfl) rfl ?_
  unfold f22c
  have hlen := fun H' => len_el (H' := H') u22 hs.is
  (repeat' (first | apply Z1 | apply Z2 | apply Z3 | apply Z4 | apply Z5 | apply Z6 | apply Z7 | apply Z8 | apply Z9 | apply Za | apply Zb | apply Zc | apply Zd | apply Ze | apply Zf | apply Zg | apply Zh | apply Zi | refine Zj (by decide) ?_ | ((first | apply Zk | apply Zl | apply Zm | apply Zn | apply Zo | apply Zp | apply Zq | apply Zr); (· (first | (simp (disch := omega) only [evl, Nat.reduceEqDiff, Nat.reduceAdd, reduceIte, reduceCtorEq, hlen] <;> exact rfl) | exact rfl)); all_goals try (refine fun (hb : _ = _) => ?_; try simp only [bvl, ne_eq, Bool.not_true, Bool.not_false, reduceCtorEq, not_true_eq_false] at hb)) | (apply Zs; · simp (disch := omega) only [evl, Nat.reduceEqDiff, reduceIte])))
  refine rc_loop (R := fun ex T' H' => HX H H' ∧ ((ex = .exit 0 ∧ Ok 0 l) ∨ (ex = .ret ∧ ¬ Ok 0 l ∧ gT T' 2 = .int .i64 2))) ?_ ?_
  · refine lp_ind f22l0_eq (fun k T H' => ∃ (i : Nat) (fr : Int), k = l.length - i ∧ i ≤ l.length ∧ gT T 6 = v ∧ gT T 7 = .int .i64 l.length ∧ gT T 3 = .int .i64 fr ∧ gT T 8 = .int .i64 i ∧ HX H H' ∧ 0 ≤ fr ∧ fr ≤ 4097 ∧ (Ok 0 l ↔ Ok fr (l.drop i))) _ ?_ l.length _ _ ?_
    · intro k T H' hI
      obtain ⟨i, fr, hk, hi, h0, h7, h3, h4, hx, hf0, hf1, hok⟩ := hI
      unfold f22l0
      have Hok := Hd.mk hok
      clear hok
      by_cases hlt : i < l.length
      · have hsx : SlX H' v l := hs.hx hx
        have hix := @ix_el _ _ _ hsx.is
        have hrd := SlX.rdN hsx hlt
        have Hc := Hd.mk (Ok.cons (fr := fr) hlt)
        (repeat' (first | apply Z1 | apply Z2 | apply Z3 | apply Z4 | apply Z5 | apply Z6 | apply Z7 | apply Z8 | apply Z9 | apply Za | apply Zb | apply Zc | apply Zd | apply Ze | apply Zf | apply Zg | apply Zh | apply Zi | refine Zj (by decide) ?_ | ((first | apply Zk | apply Zl | apply Zm | apply Zn | apply Zo | apply Zp | apply Zq | apply Zr); (· (first | (simp (disch := omega) only [evl, Nat.reduceEqDiff, Nat.reduceAdd, reduceIte, reduceCtorEq, h0, h7, h3, h4, hlen, hix, hrd] <;> exact rfl) | exact rfl)); all_goals try (refine fun (hb : _ = _) => ?_; try simp only [bvl, ne_eq, Bool.not_true, Bool.not_false, reduceCtorEq, not_true_eq_false] at hb)) | (apply Zs; · simp (disch := omega) only [evl, Nat.reduceEqDiff, reduceIte])))
        obtain ⟨H1, H2, hal, hst, hx2, hn2, hr2⟩ := boxN look (e := 43) (s := 2) (z := AV.toC (.agg [.int .i64 0, .int .i64 0])) (v := exV (exG l i)) (hx.hide.trans hh) (by rw [hx.lo]; have := hx.next; omega) (by rw [toC_l]; rfl) rfl rfl
        apply rk_al
        · (simp (disch := omega) only [evl, Nat.reduceEqDiff, Nat.reduceAdd, reduceIte, reduceCtorEq])
          exact hal
        simp only [hOut_f]
        apply rk_st
        · (simp (disch := omega) only [evl, Nat.reduceEqDiff, Nat.reduceAdd, reduceIte, reduceCtorEq])
          exact hst
        simp only [hOut_f]
        have hA := hr2.rd (k := 0) rfl
        have hB := hr2.rd (k := 1) rfl
        have hxT := hx.trans hx2
        generalize ha : (exG l i).1 = a at *
        generalize hb : (exG l i).2 = b at *
        clear ha hb hrd hr2 hst hal
        by_cases h1 : a < fr
        · (repeat' (first | apply Z1 | apply Z2 | apply Z3 | apply Z4 | apply Z5 | apply Z6 | apply Z7 | apply Z8 | apply Z9 | apply Za | apply Zb | apply Zc | apply Zd | apply Ze | apply Zf | apply Zg | apply Zh | apply Zi | refine Zj (by decide) ?_ | ((first | apply Zk | apply Zl | apply Zm | apply Zn | apply Zo | apply Zp | apply Zq | apply Zr); (· (first | (simp (disch := omega) only [evl, Nat.reduceEqDiff, Nat.reduceAdd, reduceIte, reduceCtorEq, h0, h7, h3, h4, hlen, hA, hB] <;> exact rfl) | exact rfl)); all_goals try (refine fun (hb : _ = _) => ?_; try simp only [bvl, ne_eq, Bool.not_true, Bool.not_false, reduceCtorEq, not_true_eq_false] at hb)) | (apply Zs; · simp (disch := omega) only [evl, Nat.reduceEqDiff, reduceIte])))
          refine rn_nil ?_; refine lpq_r ?_
          refine ⟨hxT, .inr ⟨rfl, ?_, (by (first | (simp (disch := omega) only [evl, Nat.reduceEqDiff, Nat.reduceAdd, reduceIte, reduceCtorEq] <;> exact rfl) | exact rfl))⟩⟩
          rw [Hok.out, Hc.out]; omega
        by_cases h2 : 4096 ≤ a
        · (repeat' (first | apply Z1 | apply Z2 | apply Z3 | apply Z4 | apply Z5 | apply Z6 | apply Z7 | apply Z8 | apply Z9 | apply Za | apply Zb | apply Zc | apply Zd | apply Ze | apply Zf | apply Zg | apply Zh | apply Zi | refine Zj (by decide) ?_ | ((first | apply Zk | apply Zl | apply Zm | apply Zn | apply Zo | apply Zp | apply Zq | apply Zr); (· (first | (simp (disch := omega) only [evl, Nat.reduceEqDiff, Nat.reduceAdd, reduceIte, reduceCtorEq, h0, h7, h3, h4, hlen, hA, hB] <;> exact rfl) | exact rfl)); all_goals try (refine fun (hb : _ = _) => ?_; try simp only [bvl, ne_eq, Bool.not_true, Bool.not_false, reduceCtorEq, not_true_eq_false] at hb)) | (apply Zs; · simp (disch := omega) only [evl, Nat.reduceEqDiff, reduceIte])))
          refine rn_nil ?_; refine lpq_r ?_
          refine ⟨hxT, .inr ⟨rfl, ?_, (by (first | (simp (disch := omega) only [evl, Nat.reduceEqDiff, Nat.reduceAdd, reduceIte, reduceCtorEq] <;> exact rfl) | exact rfl))⟩⟩
          rw [Hok.out, Hc.out]; omega
        by_cases h3' : b < 1
        · (repeat' (first | apply Z1 | apply Z2 | apply Z3 | apply Z4 | apply Z5 | apply Z6 | apply Z7 | apply Z8 | apply Z9 | apply Za | apply Zb | apply Zc | apply Zd | apply Ze | apply Zf | apply Zg | apply Zh | apply Zi | refine Zj (by decide) ?_ | ((first | apply Zk | apply Zl | apply Zm | apply Zn | apply Zo | apply Zp | apply Zq | apply Zr); (· (first | (simp (disch := omega) only [evl, Nat.reduceEqDiff, Nat.reduceAdd, reduceIte, reduceCtorEq, h0, h7, h3, h4, hlen, hA, hB] <;> exact rfl) | exact rfl)); all_goals try (refine fun (hb : _ = _) => ?_; try simp only [bvl, ne_eq, Bool.not_true, Bool.not_false, reduceCtorEq, not_true_eq_false] at hb)) | (apply Zs; · simp (disch := omega) only [evl, Nat.reduceEqDiff, reduceIte])))
          refine rn_nil ?_; refine lpq_r ?_
          refine ⟨hxT, .inr ⟨rfl, ?_, (by (first | (simp (disch := omega) only [evl, Nat.reduceEqDiff, Nat.reduceAdd, reduceIte, reduceCtorEq] <;> exact rfl) | exact rfl))⟩⟩
          rw [Hok.out, Hc.out]; omega
        by_cases h4' : 4096 - a < b
        · (repeat' (first | apply Z1 | apply Z2 | apply Z3 | apply Z4 | apply Z5 | apply Z6 | apply Z7 | apply Z8 | apply Z9 | apply Za | apply Zb | apply Zc | apply Zd | apply Ze | apply Zf | apply Zg | apply Zh | apply Zi | refine Zj (by decide) ?_ | ((first | apply Zk | apply Zl | apply Zm | apply Zn | apply Zo | apply Zp | apply Zq | apply Zr); (· (first | (simp (disch := omega) only [evl, Nat.reduceEqDiff, Nat.reduceAdd, reduceIte, reduceCtorEq, h0, h7, h3, h4, hlen, hA, hB] <;> exact rfl) | exact rfl)); all_goals try (refine fun (hb : _ = _) => ?_; try simp only [bvl, ne_eq, Bool.not_true, Bool.not_false, reduceCtorEq, not_true_eq_false] at hb)) | (apply Zs; · simp (disch := omega) only [evl, Nat.reduceEqDiff, reduceIte])))
          refine rn_nil ?_; refine lpq_r ?_
          refine ⟨hxT, .inr ⟨rfl, ?_, (by (first | (simp (disch := omega) only [evl, Nat.reduceEqDiff, Nat.reduceAdd, reduceIte, reduceCtorEq] <;> exact rfl) | exact rfl))⟩⟩
          rw [Hok.out, Hc.out]; omega
        · (repeat' (first | apply Z1 | apply Z2 | apply Z3 | apply Z4 | apply Z5 | apply Z6 | apply Z7 | apply Z8 | apply Z9 | apply Za | apply Zb | apply Zc | apply Zd | apply Ze | apply Zf | apply Zg | apply Zh | apply Zi | refine Zj (by decide) ?_ | ((first | apply Zk | apply Zl | apply Zm | apply Zn | apply Zo | apply Zp | apply Zq | apply Zr); (· (first | (simp (disch := omega) only [evl, Nat.reduceEqDiff, Nat.reduceAdd, reduceIte, reduceCtorEq, h0, h7, h3, h4, hlen, hA, hB] <;> exact rfl) | exact rfl)); all_goals try (refine fun (hb : _ = _) => ?_; try simp only [bvl, ne_eq, Bool.not_true, Bool.not_false, reduceCtorEq, not_true_eq_false] at hb)) | (apply Zs; · simp (disch := omega) only [evl, Nat.reduceEqDiff, reduceIte])))
          refine rn_nil ?_; refine lpq_n (l.length - (i + 1)) (by omega) ?_
          refine ⟨i + 1, a + b + 1, rfl, by omega, (by (first | (simp (disch := omega) only [evl, Nat.reduceEqDiff, Nat.reduceAdd, reduceIte, reduceCtorEq, h0] <;> exact rfl) | exact rfl)), (by (first | (simp (disch := omega) only [evl, Nat.reduceEqDiff, Nat.reduceAdd, reduceIte, reduceCtorEq, h7] <;> exact rfl) | exact rfl)), (by (first | (simp (disch := omega) only [evl, Nat.reduceEqDiff, Nat.reduceAdd, reduceIte, reduceCtorEq] <;> exact rfl) | exact rfl)), (by (first | (simp (disch := omega) only [evl, Nat.reduceEqDiff, Nat.reduceAdd, reduceIte, reduceCtorEq, h4] <;> exact rfl) | exact rfl)), hxT, by omega, by omega, ?_⟩
          rw [Hok.out, Hc.out]
          constructor
          · intro h; exact h.2.2.2.2
          · intro h; exact ⟨by omega, by omega, by omega, by omega, h⟩
      · (repeat' (first | apply Z1 | apply Z2 | apply Z3 | apply Z4 | apply Z5 | apply Z6 | apply Z7 | apply Z8 | apply Z9 | apply Za | apply Zb | apply Zc | apply Zd | apply Ze | apply Zf | apply Zg | apply Zh | apply Zi | refine Zj (by decide) ?_ | ((first | apply Zk | apply Zl | apply Zm | apply Zn | apply Zo | apply Zp | apply Zq | apply Zr); (· (first | (simp (disch := omega) only [evl, Nat.reduceEqDiff, Nat.reduceAdd, reduceIte, reduceCtorEq, h0, h7, h4, hlen] <;> exact rfl) | exact rfl)); all_goals try (refine fun (hb : _ = _) => ?_; try simp only [bvl, ne_eq, Bool.not_true, Bool.not_false, reduceCtorEq, not_true_eq_false] at hb)) | (apply Zs; · simp (disch := omega) only [evl, Nat.reduceEqDiff, reduceIte])))
        refine rn_nil ?_; refine lpq_e ?_
        obtain rfl : i = l.length := by omega
        refine ⟨hx, .inl ⟨rfl, ?_⟩⟩
        rw [Hok.out, List.drop_length]; trivial
    · exact ⟨0, 0, by omega, by omega, (by (first | (simp (disch := omega) only [evl, Nat.reduceEqDiff, Nat.reduceAdd, reduceIte, reduceCtorEq] <;> exact rfl) | exact rfl)), (by (first | (simp (disch := omega) only [evl, Nat.reduceEqDiff, Nat.reduceAdd, reduceIte, reduceCtorEq] <;> exact rfl) | exact rfl)), (by (first | (simp (disch := omega) only [evl, Nat.reduceEqDiff, Nat.reduceAdd, reduceIte, reduceCtorEq] <;> exact rfl) | exact rfl)), (by (first | (simp (disch := omega) only [evl, Nat.reduceEqDiff, Nat.reduceAdd, reduceIte, reduceCtorEq] <;> exact rfl) | exact rfl)), HX.refl _, by omega, by omega, Iff.rfl⟩
  · rintro ex T' H' ⟨hx, ⟨rfl, hok⟩ | ⟨rfl, hok, h2⟩⟩
    · (repeat' (first | apply Z1 | apply Z2 | apply Z3 | apply Z4 | apply Z5 | apply Z6 | apply Z7 | apply Z8 | apply Z9 | apply Za | apply Zb | apply Zc | apply Zd | apply Ze | apply Zf | apply Zg | apply Zh | apply Zi | refine Zj (by decide) ?_ | ((first | apply Zk | apply Zl | apply Zm | apply Zn | apply Zo | apply Zp | apply Zq | apply Zr); (· (first | (simp (disch := omega) only [evl, Nat.reduceEqDiff, Nat.reduceAdd, reduceIte, reduceCtorEq] <;> exact rfl) | exact rfl)); all_goals try (refine fun (hb : _ = _) => ?_; try simp only [bvl, ne_eq, Bool.not_true, Bool.not_false, reduceCtorEq, not_true_eq_false] at hb)) | (apply Zs; · simp (disch := omega) only [evl, Nat.reduceEqDiff, reduceIte])))
      refine rn_nil ?_; refine fq_ret (resV_1 _ _) ⟨hx, .inl ⟨hok, ?_⟩⟩
      (simp (disch := omega) only [evl, Nat.reduceEqDiff, Nat.reduceAdd, reduceIte, reduceCtorEq])
    · (repeat' (first | apply Z1 | apply Z2 | apply Z3 | apply Z4 | apply Z5 | apply Z6 | apply Z7 | apply Z8 | apply Z9 | apply Za | apply Zb | apply Zc | apply Zd | apply Ze | apply Zf | apply Zg | apply Zh | apply Zi | refine Zj (by decide) ?_ | ((first | apply Zk | apply Zl | apply Zm | apply Zn | apply Zo | apply Zp | apply Zq | apply Zr); (· (first | (simp (disch := omega) only [evl, Nat.reduceEqDiff, Nat.reduceAdd, reduceIte, reduceCtorEq] <;> exact rfl) | exact rfl)); all_goals try (refine fun (hb : _ = _) => ?_; try simp only [bvl, ne_eq, Bool.not_true, Bool.not_false, reduceCtorEq, not_true_eq_false] at hb)) | (apply Zs; · simp (disch := omega) only [evl, Nat.reduceEqDiff, reduceIte])))
      refine rn_nil ?_; refine fq_ret (resV_1 _ _) ⟨hx, .inr ⟨hok, ?_⟩⟩
      rw [h2]

end Go.Proofs.Ytnkomaedmblemaa

set_option linter.unusedSimpArgs false
set_option linter.unusedVariables false
set_option maxRecDepth 100000
namespace Go.Proofs.Ytnkomaedmblemaa
open Go.Ev Exl

theorem Ap.st {L : Lk} {t : Nat} {H : AH} {s : AV} {n e z N k j : Nat} {l : List AV} {v : AV} (h : Ap H s n l e z N) (hk : k < n) (hj : j < z) (hh : H.hide = []) (hlo : H.lo ≤ N) (hs : L.size t = some 1) (hv : v.oneCell = true) :
    ∃ H', Go.Ev.st1 L t (elB z s k j) v H = some H' ∧ Ap H' s n (l.set (k * z + j) v) e z N ∧ HP (blkNe s) H H' ∧ H'.next = H.next := by
  obtain ⟨h0, ⟨rfl, rfl⟩ | ⟨i, rfl, hr, hN, hi⟩⟩ := h
  · omega
  · have : k * z + j < n * z := by
      have : (k + 1) * z ≤ n * z := Nat.mul_le_mul_right z hk
      rw [Nat.add_mul] at this; omega
    obtain ⟨H', h1, h2, h3, h4⟩ := hr.st1 (L := L) (t := t) (v := v) (k := k * z + j) hh (by omega) hs hv (by omega)
    refine ⟨H', ?_, ⟨by simpa using h0, .inr ⟨i, rfl, h2, hN, by omega⟩⟩, h3.mono fun j hj hb => fun h => hb 0 n n true (by rw [h]), h4⟩
    show Go.Ev.st1 L t (.ptr i (0 + k * z + j)) v H = _
    rw [Nat.zero_add]; exact h1

set_option maxHeartbeats 4000000 in
theorem sum_ok (H : AH) (v : AV) (l : List (Int × Int)) (hs : SlX H v l) (hh : H.hide = []) (hlo : H.lo ≤ H.next) (hl : l.length ≤ 1000000) (hok : Ok 0 l) :
    FnE look 45 [v] H fun r H' => HX H H' ∧ r = .int .i64 (tot l) := by
  refine fn_intro f45_eq (noext rfl) rfl ?_
  unfold f45c
  have hlen := fun H' => len_el (H' := H') u22 hs.is
  (repeat' (first | apply Z1 | apply Z2 | apply Z3 | apply Z4 | apply Z5 | apply Z6 | apply Z7 | apply Z8 | apply Z9 | apply Za | apply Zb | apply Zc | apply Zd | apply Ze | apply Zf | apply Zg | apply Zh | apply Zi | refine Zj (by decide) ?_ | ((first | apply Zk | apply Zl | apply Zm | apply Zn | apply Zo | apply Zp | apply Zq | apply Zr); (· (first | (simp (disch := omega) only [evl, Nat.reduceEqDiff, Nat.reduceAdd, reduceIte, reduceCtorEq, hlen] <;> exact rfl) | exact rfl)); all_goals try (refine fun (hb : _ = _) => ?_; try simp only [bvl, ne_eq, Bool.not_true, Bool.not_false, reduceCtorEq, not_true_eq_false] at hb)) | (apply Zs; · simp (disch := omega) only [evl, Nat.reduceEqDiff, reduceIte])))
  refine rc_loop (R := fun ex T' H' => HX H H' ∧ ex = .exit 0 ∧ gT T' 3 = .int .i64 (tot l)) ?_ ?_
  · refine lp_ind f45l0_eq (fun k T H' => ∃ (i : Nat), k = l.length - i ∧ i ≤ l.length ∧ gT T 6 = v ∧ gT T 7 = .int .i64 l.length ∧ gT T 3 = .int .i64 (tot (l.take i)) ∧ gT T 8 = .int .i64 i ∧ HX H H') _ ?_ l.length _ _ ?_
    · intro k T H' hI
      obtain ⟨i, hk, hi, h0, h7, h3, h4, hx⟩ := hI
      unfold f45l0
      have hb1 := (Ok.take i hok).tot (by omega)
      by_cases hlt : i < l.length
      · have hsx : SlX H' v l := hs.hx hx
        have hix := @ix_el _ _ _ hsx.is
        have hrd := SlX.rdN hsx hlt
        have hb2 := (Ok.take (i + 1) hok).tot (by omega)
        have hts := tot_snoc l hlt
        (repeat' (first | apply Z1 | apply Z2 | apply Z3 | apply Z4 | apply Z5 | apply Z6 | apply Z7 | apply Z8 | apply Z9 | apply Za | apply Zb | apply Zc | apply Zd | apply Ze | apply Zf | apply Zg | apply Zh | apply Zi | refine Zj (by decide) ?_ | ((first | apply Zk | apply Zl | apply Zm | apply Zn | apply Zo | apply Zp | apply Zq | apply Zr); (· (first | (simp (disch := omega) only [evl, Nat.reduceEqDiff, Nat.reduceAdd, reduceIte, reduceCtorEq, h0, h7, h3, h4, hlen, hix, hrd] <;> exact rfl) | exact rfl)); all_goals try (refine fun (hb : _ = _) => ?_; try simp only [bvl, ne_eq, Bool.not_true, Bool.not_false, reduceCtorEq, not_true_eq_false] at hb)) | (apply Zs; · simp (disch := omega) only [evl, Nat.reduceEqDiff, reduceIte])))
        obtain ⟨H1, H2, hal, hst, hx2, hn2, hr2⟩ := boxN look (e := 43) (s := 2) (z := AV.toC (.agg [.int .i64 0, .int .i64 0])) (v := exV (exG l i)) (hx.hide.trans hh) (by rw [hx.lo]; have := hx.next; omega) (by rw [toC_l]; rfl) rfl rfl
        apply rk_al
        · (simp (disch := omega) only [evl, Nat.reduceEqDiff, Nat.reduceAdd, reduceIte, reduceCtorEq])
          exact hal
        simp only [hOut_f]
        apply rk_st
        · (simp (disch := omega) only [evl, Nat.reduceEqDiff, Nat.reduceAdd, reduceIte, reduceCtorEq])
          exact hst
        simp only [hOut_f]
        have hB := hr2.rd (k := 1) rfl
        have hxT := hx.trans hx2
        generalize hb : (exG l i).2 = b at *
        generalize htt : tot (l.take i) = t at *
        have Hts := Hd.mk hts
        clear hts htt hb hal hst hr2 hrd
        rw [Hts.out] at hb2
        (repeat' (first | apply Z1 | apply Z2 | apply Z3 | apply Z4 | apply Z5 | apply Z6 | apply Z7 | apply Z8 | apply Z9 | apply Za | apply Zb | apply Zc | apply Zd | apply Ze | apply Zf | apply Zg | apply Zh | apply Zi | refine Zj (by decide) ?_ | ((first | apply Zk | apply Zl | apply Zm | apply Zn | apply Zo | apply Zp | apply Zq | apply Zr); (· (first | (simp (disch := omega) only [evl, Nat.reduceEqDiff, Nat.reduceAdd, reduceIte, reduceCtorEq, h0, h7, h3, h4, hB] <;> exact rfl) | exact rfl)); all_goals try (refine fun (hb : _ = _) => ?_; try simp only [bvl, ne_eq, Bool.not_true, Bool.not_false, reduceCtorEq, not_true_eq_false] at hb)) | (apply Zs; · simp (disch := omega) only [evl, Nat.reduceEqDiff, reduceIte])))
        refine rn_nil ?_; refine lpq_n (l.length - (i + 1)) (by omega) ?_
        refine ⟨i + 1, rfl, by omega, (by (first | (simp (disch := omega) only [evl, Nat.reduceEqDiff, Nat.reduceAdd, reduceIte, reduceCtorEq, h0] <;> exact rfl) | exact rfl)), (by (first | (simp (disch := omega) only [evl, Nat.reduceEqDiff, Nat.reduceAdd, reduceIte, reduceCtorEq, h7] <;> exact rfl) | exact rfl)), ?_, (by (first | (simp (disch := omega) only [evl, Nat.reduceEqDiff, Nat.reduceAdd, reduceIte, reduceCtorEq, h4] <;> exact rfl) | exact rfl)), hxT⟩
        rw [Hts.out]; (first | (simp (disch := omega) only [evl, Nat.reduceEqDiff, Nat.reduceAdd, reduceIte, reduceCtorEq] <;> exact rfl) | exact rfl)
      · (repeat' (first | apply Z1 | apply Z2 | apply Z3 | apply Z4 | apply Z5 | apply Z6 | apply Z7 | apply Z8 | apply Z9 | apply Za | apply Zb | apply Zc | apply Zd | apply Ze | apply Zf | apply Zg | apply Zh | apply Zi | refine Zj (by decide) ?_ | ((first | apply Zk | apply Zl | apply Zm | apply Zn | apply Zo | apply Zp | apply Zq | apply Zr); (· (first | (simp (disch := omega) only [evl, Nat.reduceEqDiff, Nat.reduceAdd, reduceIte, reduceCtorEq, h0, h7, h4, hlen] <;> exact rfl) | exact rfl)); all_goals try (refine fun (hb : _ = _) => ?_; try simp only [bvl, ne_eq, Bool.not_true, Bool.not_false, reduceCtorEq, not_true_eq_false] at hb)) | (apply Zs; · simp (disch := omega) only [evl, Nat.reduceEqDiff, reduceIte])))
        refine rn_nil ?_; refine lpq_e ?_
        obtain rfl : i = l.length := by omega
        refine ⟨hx, rfl, ?_⟩
        rw [List.take_length] at h3; exact h3
    · exact ⟨0, by omega, by omega, (by (first | (simp (disch := omega) only [evl, Nat.reduceEqDiff, Nat.reduceAdd, reduceIte, reduceCtorEq] <;> exact rfl) | exact rfl)), (by (first | (simp (disch := omega) only [evl, Nat.reduceEqDiff, Nat.reduceAdd, reduceIte, reduceCtorEq] <;> exact rfl) | exact rfl)), (by (first | (simp (disch := omega) only [evl, Nat.reduceEqDiff, Nat.reduceAdd, reduceIte, reduceCtorEq] <;> exact rfl) | exact rfl)), (by (first | (simp (disch := omega) only [evl, Nat.reduceEqDiff, Nat.reduceAdd, reduceIte, reduceCtorEq] <;> exact rfl) | exact rfl)), HX.refl _⟩
  · rintro ex T' H' ⟨hx, rfl, h3⟩
    (repeat' (first | apply Z1 | apply Z2 | apply Z3 | apply Z4 | apply Z5 | apply Z6 | apply Z7 | apply Z8 | apply Z9 | apply Za | apply Zb | apply Zc | apply Zd | apply Ze | apply Zf | apply Zg | apply Zh | apply Zi | refine Zj (by decide) ?_ | ((first | apply Zk | apply Zl | apply Zm | apply Zn | apply Zo | apply Zp | apply Zq | apply Zr); (· (first | (simp (disch := omega) only [evl, Nat.reduceEqDiff, Nat.reduceAdd, reduceIte, reduceCtorEq, h3] <;> exact rfl) | exact rfl)); all_goals try (refine fun (hb : _ = _) => ?_; try simp only [bvl, ne_eq, Bool.not_true, Bool.not_false, reduceCtorEq, not_true_eq_false] at hb)) | (apply Zs; · simp (disch := omega) only [evl, Nat.reduceEqDiff, reduceIte])))
    refine rn_nil ?_; refine fq_ret (resV_1 _ _) ⟨hx, ?_⟩
    (simp (disch := omega) only [evl, Nat.reduceEqDiff, Nat.reduceAdd, reduceIte, reduceCtorEq, h3])

theorem joins_ok (H : AH) (hh : H.hide = []) (hlo : H.lo ≤ H.next) :
    FnE look 50 [] H fun r H' => r = .tup [.ptr H.next 0, .fn (.func 56) [] [.ptr H.next 0]] ∧ HX H H' ∧ H'.next = H.next + 1 ∧ Row H' H.next false false 22 1 [.nilSl] := by
  refine fn_intro f50_eq (noext rfl) rfl ?_
  unfold f50c
  (repeat' (first | apply Z1 | apply Z2 | apply Z3 | apply Z4 | apply Z5 | apply Z6 | apply Z7 | apply Z8 | apply Z9 | apply Za | apply Zb | apply Zc | apply Zd | apply Ze | apply Zf | apply Zg | apply Zh | apply Zi | refine Zj (by decide) ?_ | ((first | apply Zk | apply Zl | apply Zm | apply Zn | apply Zo | apply Zp | apply Zq | apply Zr); (· (first | (simp (disch := omega) only [evl, Nat.reduceEqDiff, Nat.reduceAdd, reduceIte, reduceCtorEq] <;> exact rfl) | exact rfl)); all_goals try (refine fun (hb : _ = _) => ?_; try simp only [bvl, ne_eq, Bool.not_true, Bool.not_false, reduceCtorEq, not_true_eq_false] at hb)) | (apply Zs; · simp (disch := omega) only [evl, Nat.reduceEqDiff, reduceIte])))
  obtain ⟨H1, hal, hx1, hn1, hr1⟩ := al_box (e := 22) (s := 1) (c := AV.toC .nilSl) hh
  rw [toC_l] at hr1
  apply rk_al
  · (simp (disch := omega) only [evl, Nat.reduceEqDiff, Nat.reduceAdd, reduceIte, reduceCtorEq])
    exact hal
  simp only [hOut_f]
  (repeat' (first | apply Z1 | apply Z2 | apply Z3 | apply Z4 | apply Z5 | apply Z6 | apply Z7 | apply Z8 | apply Z9 | apply Za | apply Zb | apply Zc | apply Zd | apply Ze | apply Zf | apply Zg | apply Zh | apply Zi | refine Zj (by decide) ?_ | ((first | apply Zk | apply Zl | apply Zm | apply Zn | apply Zo | apply Zp | apply Zq | apply Zr); (· (first | (simp (disch := omega) only [evl, Nat.reduceEqDiff, Nat.reduceAdd, reduceIte, reduceCtorEq] <;> exact rfl) | exact rfl)); all_goals try (refine fun (hb : _ = _) => ?_; try simp only [bvl, ne_eq, Bool.not_true, Bool.not_false, reduceCtorEq, not_true_eq_false] at hb)) | (apply Zs; · simp (disch := omega) only [evl, Nat.reduceEqDiff, reduceIte])))
  refine rn_nil ?_; refine fq_ret (resV_2 _ _ _) ⟨?_, hx1, hn1, hr1⟩
  (simp (disch := omega) only [evl, Nat.reduceEqDiff, Nat.reduceAdd, reduceIte, reduceCtorEq])

set_option maxHeartbeats 4000000 in
theorem put_ok2 (H : AH) (s : AV) (out : List (Int × Int)) (a b : Int) (bk N : Nat) (hr : Row H bk false false 22 1 [s]) (hap : Ap H s out.length (exC out) 43 2 N) (hbN : bk < N) (hN : N ≤ H.next) (hlo : H.lo ≤ bk) (hh : H.hide = [])
    (hol : out.length ≤ 1000000) (hbd : ∀ q ∈ out, 0 ≤ q.1 ∧ q.1 ≤ 1000000 ∧ 0 ≤ q.2 ∧ q.2 ≤ 1000000) (hb0 : 0 ≤ b) (hb1 : b ≤ 1000000) :
    FnE look 56 [.int .i64 a, .int .i64 b, .ptr bk 0] H fun r H' => ∃ s', Row H' bk false false 22 1 [s'] ∧ Ap H' s' (put out a b).length (exC (put out a b)) 43 2 N ∧ HP (fun j => blkNe s j ∧ j ≠ bk) H H' := by
  refine fn_intro f56_eq (noext rfl) rfl ?_
  unfold f56c
  have hlens : ∀ H', fstO (builtinF .len look [22] [s] H') = some (.int .i64 out.length) := fun H' => len_el u22 hap.isSl
  have hbk : ld1 (.ptr bk 0) H = some s := hr.rd rfl
  have hblk : ∀ j, j < N → blkNe s j := by
    intro j hj
    obtain ⟨_, ⟨rfl, _⟩ | ⟨i', rfl, _, hN, _⟩⟩ := hap
    · exact blkNe_nil _
    · exact blkNe_sl (by omega)
  have new : put out a b = out ++ [(a, b)] → ∀ T, gT T 0 = .int .i64 a → gT T 1 = .int .i64 b → gT T 2 = .ptr bk 0 → RN look [.seq (.reg f56r3)] .normal T H (FnQ look [] fun r H' => ∃ s', Row H' bk false false 22 1 [s'] ∧ Ap H' s' (put out a b).length (exC (put out a b)) 43 2 N ∧ HP (fun j => blkNe s j ∧ j ≠ bk) H H') := by
    intro hput T h0 h1 h2
    unfold f56r3
    have hbd43 := build43 a b
    (repeat' (first | apply Z1 | apply Z2 | apply Z3 | apply Z4 | apply Z5 | apply Z6 | apply Z7 | apply Z8 | apply Z9 | apply Za | apply Zb | apply Zc | apply Zd | apply Ze | apply Zf | apply Zg | apply Zh | apply Zi | refine Zj (by decide) ?_ | ((first | apply Zk | apply Zl | apply Zm | apply Zn | apply Zo | apply Zp | apply Zq | apply Zr); (· (first | (simp (disch := omega) only [evl, Nat.reduceEqDiff, Nat.reduceAdd, reduceIte, reduceCtorEq, h0, h1, h2, hbk, hbd43] <;> exact rfl) | exact rfl)); all_goals try (refine fun (hb : _ = _) => ?_; try simp only [bvl, ne_eq, Bool.not_true, Bool.not_false, reduceCtorEq, not_true_eq_false] at hb)) | (apply Zs; · simp (disch := omega) only [evl, Nat.reduceEqDiff, reduceIte])))
    obtain ⟨H4, hb4, hx4, hn4, hr4⟩ := bs_one (s := 2) (e := 43) (z := .agg [.int .i64 0, .int .i64 0]) (v := exV (a, b)) (H := H) hh rfl rfl
    apply rk_hn
    · (simp (disch := omega) only [evl, Nat.reduceEqDiff, Nat.reduceAdd, reduceIte, reduceCtorEq])
      exact hb4
    simp only [hOut_f]
    (repeat' (first | apply Z1 | apply Z2 | apply Z3 | apply Z4 | apply Z5 | apply Z6 | apply Z7 | apply Z8 | apply Z9 | apply Za | apply Zb | apply Zc | apply Zd | apply Ze | apply Zf | apply Zg | apply Zh | apply Zi | refine Zj (by decide) ?_ | ((first | apply Zk | apply Zl | apply Zm | apply Zn | apply Zo | apply Zp | apply Zq | apply Zr); (· (first | (simp (disch := omega) only [evl, Nat.reduceEqDiff, Nat.reduceAdd, reduceIte, reduceCtorEq, h0, h1, h2] <;> exact rfl) | exact rfl)); all_goals try (refine fun (hb : _ = _) => ?_; try simp only [bvl, ne_eq, Bool.not_true, Bool.not_false, reduceCtorEq, not_true_eq_false] at hb)) | (apply Zs; · simp (disch := omega) only [evl, Nat.reduceEqDiff, reduceIte])))
    obtain ⟨new, hsrc, hnl⟩ := srcRow (z := 2) (n := 1) (c := 1) (op := false) hr4 rfl
    have hap4 := hap.hx hx4
    obtain ⟨s', H5, happ, hap5, hp5, hn5, hne5⟩ := hap4.app (b := 16) (x := .sl H.next 0 1 1 false) (m := 1) rfl hsrc (one_of_l (by rw [hnl]; rfl)) (by rw [hnl]; rfl) (Nat.le_refl _) (by omega) (by omega) (hx4.hide.trans hh) (by rw [hx4.lo]; omega) (by omega)
    apply rk_hn
    · (simp (disch := omega) only [evl, Nat.reduceEqDiff, Nat.reduceAdd, reduceIte, reduceCtorEq, h2])
      exact happ
    simp only [hOut_f]
    have hr5 : Row H5 bk false false 22 1 [s] := (hr.hx hx4 (by omega)).hp hp5 (by omega) (hblk _ hbN)
    have hso : s'.oneCell = true := by
      obtain ⟨_, ⟨rfl, _⟩ | ⟨i', rfl, _, _⟩⟩ := hap5 <;> rfl
    obtain ⟨H6, hs6, hr6, hp6, hn6⟩ := hr5.st1 (L := look) (t := 22) (v := s') (k := 0) (hp5.hide.trans (hx4.hide.trans hh)) (by rw [hp5.lo, hx4.lo]; omega) z22 hso (by simp)
    apply rk_st
    · (simp (disch := omega) only [evl, Nat.reduceEqDiff, Nat.reduceAdd, reduceIte, reduceCtorEq, h2])
      exact hs6
    simp only [hOut_f]
    (repeat' (first | apply Z1 | apply Z2 | apply Z3 | apply Z4 | apply Z5 | apply Z6 | apply Z7 | apply Z8 | apply Z9 | apply Za | apply Zb | apply Zc | apply Zd | apply Ze | apply Zf | apply Zg | apply Zh | apply Zi | refine Zj (by decide) ?_ | ((first | apply Zk | apply Zl | apply Zm | apply Zn | apply Zo | apply Zp | apply Zq | apply Zr); (· (first | (simp (disch := omega) only [evl, Nat.reduceEqDiff, Nat.reduceAdd, reduceIte, reduceCtorEq] <;> exact rfl) | exact rfl)); all_goals try (refine fun (hb : _ = _) => ?_; try simp only [bvl, ne_eq, Bool.not_true, Bool.not_false, reduceCtorEq, not_true_eq_false] at hb)) | (apply Zs; · simp (disch := omega) only [evl, Nat.reduceEqDiff, reduceIte])))
    refine rn_nil ?_; refine fq_nor (resV_0 _) ⟨s', hr6, ?_, ?_⟩
    · rw [hput]
      rw [hnl, show AV.cells (exV (a, b)) = exC [(a, b)] from rfl, ← exC_app] at hap5
      have := hap5.hp hp6 (fun i hi => by subst hi; exact fun h => hne5 bk (by omega) _ _ _ _ (by rw [h]))
      simpa using this
    · have h45 := (hx4.hp fun _ => True).trans hp5 (r := blkNe s) fun j hj hjN => ⟨trivial, hjN⟩
      exact h45.trans hp6 fun j hj hjp => ⟨hjp.1, hjp.2⟩
  by_cases he : out = []
  · have h0 : out.length = 0 := by rw [he]; rfl
    (repeat' (first | apply Z1 | apply Z2 | apply Z3 | apply Z5 | apply Z6 | apply Z7 | apply Z8 | apply Z9 | apply Za | apply Zb | apply Zc | apply Zd | apply Ze | apply Zf | apply Zg | apply Zh | apply Zi | refine Zj (by decide) ?_ | ((first | apply Zk | apply Zl | apply Zm | apply Zn | apply Zo | apply Zp | apply Zq | apply Zr); (· (first | (simp (disch := omega) only [evl, Nat.reduceEqDiff, Nat.reduceAdd, reduceIte, reduceCtorEq, hbk, hlens] <;> exact rfl) | exact rfl)); all_goals try (refine fun (hb : _ = _) => ?_; try simp only [bvl, ne_eq, Bool.not_true, Bool.not_false, reduceCtorEq, not_true_eq_false] at hb)) | (apply Zs; · simp (disch := omega) only [evl, Nat.reduceEqDiff, reduceIte])))
    refine rn_seq_n ?_
    (repeat' (first | apply Z1 | apply Z2 | apply Z3 | apply Z5 | apply Z6 | apply Z7 | apply Z8 | apply Z9 | apply Za | apply Zb | apply Zc | apply Zd | apply Ze | apply Zf | apply Zg | apply Zh | apply Zi | refine Zj (by decide) ?_ | ((first | apply Zk | apply Zl | apply Zm | apply Zn | apply Zo | apply Zp | apply Zq | apply Zr); (· (first | (simp (disch := omega) only [evl, Nat.reduceEqDiff, Nat.reduceAdd, reduceIte, reduceCtorEq, hbk, hlens] <;> exact rfl) | exact rfl)); all_goals try (refine fun (hb : _ = _) => ?_; try simp only [bvl, ne_eq, Bool.not_true, Bool.not_false, reduceCtorEq, not_true_eq_false] at hb)) | (apply Zs; · simp (disch := omega) only [evl, Nat.reduceEqDiff, reduceIte])))
    refine rn_seq_n ?_
    (repeat' (first | apply Z1 | apply Z2 | apply Z3 | apply Z5 | apply Z6 | apply Z7 | apply Z8 | apply Z9 | apply Za | apply Zb | apply Zc | apply Zd | apply Ze | apply Zf | apply Zg | apply Zh | apply Zi | refine Zj (by decide) ?_ | ((first | apply Zk | apply Zl | apply Zm | apply Zn | apply Zo | apply Zp | apply Zq | apply Zr); (· (first | (simp (disch := omega) only [evl, Nat.reduceEqDiff, Nat.reduceAdd, reduceIte, reduceCtorEq, hbk, hlens] <;> exact rfl) | exact rfl)); all_goals try (refine fun (hb : _ = _) => ?_; try simp only [bvl, ne_eq, Bool.not_true, Bool.not_false, reduceCtorEq, not_true_eq_false] at hb)) | (apply Zs; · simp (disch := omega) only [evl, Nat.reduceEqDiff, reduceIte])))
    refine new (by rw [he]; rfl) _ ?_ ?_ ?_
    · (simp (disch := omega) only [evl, Nat.reduceEqDiff, Nat.reduceAdd, reduceIte, reduceCtorEq])
    · (simp (disch := omega) only [evl, Nat.reduceEqDiff, Nat.reduceAdd, reduceIte, reduceCtorEq])
    · (simp (disch := omega) only [evl, Nat.reduceEqDiff, Nat.reduceAdd, reduceIte, reduceCtorEq])
  · have h0 : out.length ≠ 0 := fun h => he (List.eq_nil_of_length_eq_zero h)
    have hkl : out.length - 1 < out.length := by omega
    have hmem := hbd _ (exG_mem hkl)
    have hixL : ixS 2 s (.int .i64 ((out.length : Int) - 1)) = some (elA 2 s (out.length - 1)) := by
      have := ix_el hap.isSl (k := .i64) (e := (out.length : Int) - 1) (z := 2) (by omega) (by omega)
      rw [this, show ((out.length : Int) - 1).toNat = out.length - 1 from by omega]
    have hfa0 := fa_el hap.isSl hkl 2 0
    have hfa1 := fa_el hap.isSl hkl 2 1
    have hrd0 := SlX.rd0 (l := out) hap.slZ hkl
    have hrd1 := SlX.rd1 (l := out) hap.slZ hkl
    by_cases hj : lastE out = a
    · obtain ⟨H', hst, hap', hp', hn'⟩ := Ap.st (L := look) (t := 3) (v := .int .i64 ((exG out (out.length - 1)).2 + b)) hap hkl (j := 1) (by omega) hh (by omega) z3 rfl
      rw [exC_set _ _ hkl] at hap'
      have hput : put out a b = out.set (out.length - 1) ((exG out (out.length - 1)).1, (exG out (out.length - 1)).2 + b) := by
        unfold put; rw [if_pos ⟨he, hj⟩]
      unfold lastE at hj
      generalize (exG out (out.length - 1)).1 = x at *
      generalize (exG out (out.length - 1)).2 = y at *
      (repeat' (first | apply Z1 | apply Z2 | apply Z3 | apply Z4 | apply Z5 | apply Z6 | apply Z7 | apply Z8 | apply Z9 | apply Za | apply Zb | apply Zc | apply Zd | apply Ze | apply Zf | apply Zg | apply Zh | apply Zi | refine Zj (by decide) ?_ | ((first | apply Zk | apply Zl | apply Zm | apply Zn | apply Zo | apply Zp | apply Zq | apply Zr); (· (first | (simp (disch := omega) only [evl, Nat.reduceEqDiff, Nat.reduceAdd, reduceIte, reduceCtorEq, hbk, hlens, hixL, hfa0, hfa1, hrd0, hrd1] <;> exact rfl) | exact rfl)); all_goals try (refine fun (hb : _ = _) => ?_; try simp only [bvl, ne_eq, Bool.not_true, Bool.not_false, reduceCtorEq, not_true_eq_false] at hb)) | (apply Zs; · simp (disch := omega) only [evl, Nat.reduceEqDiff, reduceIte])))
      apply rk_st
      · (simp (disch := omega) only [evl, Nat.reduceEqDiff, Nat.reduceAdd, reduceIte, reduceCtorEq])
        exact hst
      simp only [hOut_f]
      (repeat' (first | apply Z1 | apply Z2 | apply Z3 | apply Z4 | apply Z5 | apply Z6 | apply Z7 | apply Z8 | apply Z9 | apply Za | apply Zb | apply Zc | apply Zd | apply Ze | apply Zf | apply Zg | apply Zh | apply Zi | refine Zj (by decide) ?_ | ((first | apply Zk | apply Zl | apply Zm | apply Zn | apply Zo | apply Zp | apply Zq | apply Zr); (· (first | (simp (disch := omega) only [evl, Nat.reduceEqDiff, Nat.reduceAdd, reduceIte, reduceCtorEq] <;> exact rfl) | exact rfl)); all_goals try (refine fun (hb : _ = _) => ?_; try simp only [bvl, ne_eq, Bool.not_true, Bool.not_false, reduceCtorEq, not_true_eq_false] at hb)) | (apply Zs; · simp (disch := omega) only [evl, Nat.reduceEqDiff, reduceIte])))
      refine rn_nil ?_; refine fq_ret (resV_0 _) ⟨s, ?_, ?_, ?_⟩
      · exact hr.hp hp' (by omega) (hblk _ hbN)
      · rw [hput, List.length_set]; exact hap'
      · exact hp'.mono fun j hj hp => hp.1
    · have hput : put out a b = out ++ [(a, b)] := by
        unfold put; rw [if_neg (fun h => hj h.2)]
      unfold lastE at hj
      generalize (exG out (out.length - 1)).1 = x at *
      generalize (exG out (out.length - 1)).2 = y at *
      (repeat' (first | apply Z1 | apply Z2 | apply Z3 | apply Z5 | apply Z6 | apply Z7 | apply Z8 | apply Z9 | apply Za | apply Zb | apply Zc | apply Zd | apply Ze | apply Zf | apply Zg | apply Zh | apply Zi | refine Zj (by decide) ?_ | ((first | apply Zk | apply Zl | apply Zm | apply Zn | apply Zo | apply Zp | apply Zq | apply Zr); (· (first | (simp (disch := omega) only [evl, Nat.reduceEqDiff, Nat.reduceAdd, reduceIte, reduceCtorEq, hbk, hlens, hixL, hfa0, hfa1, hrd0, hrd1] <;> exact rfl) | exact rfl)); all_goals try (refine fun (hb : _ = _) => ?_; try simp only [bvl, ne_eq, Bool.not_true, Bool.not_false, reduceCtorEq, not_true_eq_false] at hb)) | (apply Zs; · simp (disch := omega) only [evl, Nat.reduceEqDiff, reduceIte])))
      refine rn_seq_n ?_
      (repeat' (first | apply Z1 | apply Z2 | apply Z3 | apply Z5 | apply Z6 | apply Z7 | apply Z8 | apply Z9 | apply Za | apply Zb | apply Zc | apply Zd | apply Ze | apply Zf | apply Zg | apply Zh | apply Zi | refine Zj (by decide) ?_ | ((first | apply Zk | apply Zl | apply Zm | apply Zn | apply Zo | apply Zp | apply Zq | apply Zr); (· (first | (simp (disch := omega) only [evl, Nat.reduceEqDiff, Nat.reduceAdd, reduceIte, reduceCtorEq, hbk, hlens, hixL, hfa0, hfa1, hrd0, hrd1] <;> exact rfl) | exact rfl)); all_goals try (refine fun (hb : _ = _) => ?_; try simp only [bvl, ne_eq, Bool.not_true, Bool.not_false, reduceCtorEq, not_true_eq_false] at hb)) | (apply Zs; · simp (disch := omega) only [evl, Nat.reduceEqDiff, reduceIte])))
      refine rn_seq_n ?_
      (repeat' (first | apply Z1 | apply Z2 | apply Z3 | apply Z5 | apply Z6 | apply Z7 | apply Z8 | apply Z9 | apply Za | apply Zb | apply Zc | apply Zd | apply Ze | apply Zf | apply Zg | apply Zh | apply Zi | refine Zj (by decide) ?_ | ((first | apply Zk | apply Zl | apply Zm | apply Zn | apply Zo | apply Zp | apply Zq | apply Zr); (· (first | (simp (disch := omega) only [evl, Nat.reduceEqDiff, Nat.reduceAdd, reduceIte, reduceCtorEq, hbk, hlens, hixL, hfa0, hfa1, hrd0, hrd1] <;> exact rfl) | exact rfl)); all_goals try (refine fun (hb : _ = _) => ?_; try simp only [bvl, ne_eq, Bool.not_true, Bool.not_false, reduceCtorEq, not_true_eq_false] at hb)) | (apply Zs; · simp (disch := omega) only [evl, Nat.reduceEqDiff, reduceIte])))
      refine new hput _ ?_ ?_ ?_
      · (simp (disch := omega) only [evl, Nat.reduceEqDiff, Nat.reduceAdd, reduceIte, reduceCtorEq])
      · (simp (disch := omega) only [evl, Nat.reduceEqDiff, Nat.reduceAdd, reduceIte, reduceCtorEq])
      · (simp (disch := omega) only [evl, Nat.reduceEqDiff, Nat.reduceAdd, reduceIte, reduceCtorEq])
theorem put_ok (H : AH) (s : AV) (out : List (Int × Int)) (a b : Int) (bk N : Nat) (hr : Row H bk false false 22 1 [s]) (hap : Ap H s out.length (exC out) 43 2 N) (hbN : bk < N) (hN : N ≤ H.next) (hlo : H.lo ≤ bk) (hh : H.hide = [])
    (hol : out.length ≤ 1000000) (hbd : ∀ q ∈ out, 0 ≤ q.1 ∧ q.1 ≤ 1000000 ∧ 0 ≤ q.2 ∧ q.2 ≤ 1000000) (hb0 : 0 ≤ b) (hb1 : b ≤ 1000000) :
    FnE look 56 [.int .i64 a, .int .i64 b, .ptr bk 0] H fun r H' => ∃ s', Row H' bk false false 22 1 [s'] ∧ Ap H' s' (put out a b).length (exC (put out a b)) 43 2 N ∧ HP (fun j => j < N ∧ j ≠ bk) H H' :=
  (put_ok2 H s out a b bk N hr hap hbN hN hlo hh hol hbd hb0 hb1).mono fun r H' ⟨s', h1, h2, h3⟩ => ⟨s', h1, h2, h3.mono fun j hj hp => by
    refine ⟨?_, hp.2⟩
    obtain ⟨_, ⟨rfl, _⟩ | ⟨i', rfl, _, hN, _⟩⟩ := hap
    · exact blkNe_nil _
    · exact blkNe_sl (by omega)⟩
end Go.Proofs.Ytnkomaedmblemaa

set_option linter.unusedSimpArgs false
set_option linter.unusedVariables false
set_option maxRecDepth 100000
namespace Go.Proofs.Ytnkomaedmblemaa
open Go.Ev Exl

theorem Ap.le {H : AH} {s : AV} {n e z N M : Nat} {l : List AV} (h : Ap H s n l e z N) (hM : M ≤ N) : Ap H s n l e z M := by
  obtain ⟨h0, h | ⟨i, hs, hr, hN, hi⟩⟩ := h
  · exact ⟨h0, .inl h⟩
  · exact ⟨h0, .inr ⟨i, hs, hr, by omega, hi⟩⟩
end Go.Proofs.Ytnkomaedmblemaa

set_option linter.unusedSimpArgs false
set_option linter.unusedVariables false
set_option maxRecDepth 100000
namespace Go.Proofs.Ytnkomaedmblemaa
open Go.Ev Exl
theorem Ok.at {l : List (Int × Int)} : ∀ {fr : Int} (_ : Ok fr l) {i : Nat} (_ : i < l.length), 0 ≤ fr → 0 ≤ (exG l i).1 ∧ (exG l i).1 < 4096 ∧ 1 ≤ (exG l i).2 ∧ (exG l i).2 ≤ 4096 - (exG l i).1 := by
  induction l with
  | nil => intro fr _ i hi _; simp at hi
  | cons p l ih =>
    intro fr h i hi hf
    obtain ⟨h1, h2, h3, h4, h5⟩ := h
    cases i with
    | zero => exact ⟨by show 0 ≤ p.1; omega, h2, h3, h4⟩
    | succ i => exact ih h5 (i := i) (by simpa using hi) (by omega)
end Go.Proofs.Ytnkomaedmblemaa

set_option linter.unusedSimpArgs false
set_option linter.unusedVariables false
set_option maxRecDepth 100000
namespace Go.Proofs.Ytnkomaedmblemaa
open Go.Ev Exl
end Go.Proofs.Ytnkomaedmblemaa
