import Derived.Test.YtnkomaedmblemaaCtA
import Derived.Test.YtnkomaedmblemaaExl
set_option linter.unusedSimpArgs false
set_option linter.unusedVariables false
set_option maxRecDepth 100000
namespace Go.Proofs.Ytnkomaedmblemaa
open Go.Ev Exl
end Go.Proofs.Ytnkomaedmblemaa

set_option linter.unusedSimpArgs false
set_option linter.unusedVariables false
set_option maxRecDepth 100000
namespace Go.Proofs.Ytnkomaedmblemaa
open Go.Ev Exl
theorem sameX_ok (H : AH) (v w : AV) (l m : List (Int × Int)) (hs : SlX H v l) (hw : SlX H w m) (hl : l.length ≤ 1000000) (hm : m.length ≤ 1000000) :
    FnE look 14 [v, w] H fun r H' => r = .bool (decide (l = m)) ∧ H' = H := by
  refine fn_intro f14_eq (noext rfl) rfl ?_
  unfold f14c
  have hlen := fun H' => len_el (H' := H') u22 hs.is
  have hlenw := fun H' => len_el (H' := H') u22 hw.is
  by_cases hlm : l.length = m.length
  · (repeat' (first | refine rc_reg ?_ | refine rc_seq ?_ | refine rk_done ?_ | refine rn_seq_n ?_ | refine rc_blk ?_ | refine rc_skip ?_ | refine rc_exit ?_ | refine rc_ret ?_ | refine rc_scp ?_ | refine rn_seq_e ?_ | refine rn_seq_r ?_ | refine rn_blk_n ?_ | refine rn_blk_r ?_ | refine rn_blk_e ?_ | refine rn_scp_n ?_ | refine rn_scp_e ?_ | refine rn_scp_r ?_ | refine rk_sk ?_ | refine rn_blk_x (by decide) ?_ | ((first | apply rk_mv' | apply rk_p1 | apply rk_p2 | apply rk_r1 | apply rk_ln | apply rk_ls); · (first | (simp (disch := omega) only [evl, Nat.reduceEqDiff, Nat.reduceAdd, reduceIte, reduceCtorEq, hlen, hlenw] <;> exact rfl) | exact rfl)) | ((first | apply rc_cond | apply rk_gd); (· (first | (simp (disch := omega) only [evl, Nat.reduceEqDiff, Nat.reduceAdd, reduceIte, reduceCtorEq, hlen, hlenw] <;> exact rfl) | exact rfl)); all_goals (intro hb; try simp only [bvl, ne_eq, Bool.not_true, Bool.not_false, reduceCtorEq, not_true_eq_false] at hb)) | (refine rk_gd_u ?_ ?_; · (first | (simp (disch := omega) only [evl, Nat.reduceEqDiff, Nat.reduceAdd, reduceIte, reduceCtorEq, hlen, hlenw] <;> exact rfl) | exact rfl))))
    refine rc_loop (R := fun ex T' H' => H' = H ∧ ((ex = .exit 0 ∧ l = m) ∨ (ex = .ret ∧ gT T' 4 = .bool false ∧ l ≠ m))) ?_ ?_
    · refine lp_ind f14l0_eq (fun k T H' => ∃ i : Nat, k = l.length - i ∧ i ≤ l.length ∧ gT T 0 = v ∧ gT T 1 = w ∧ gT T 5 = .int .i64 i ∧ (∀ j, j < i → exG l j = exG m j) ∧ H' = H) _ ?_ l.length _ _ ?_
      · intro k T H' hI
        obtain ⟨i, hk, hi, h0, h1, h5, hall, rfl⟩ := hI
        unfold f14l0
        by_cases hlt : i < l.length
        · have hel := SlX.rdN hs hlt
          have helw := SlX.rdN hw (k := i) (by omega)
          have hix := @ix_el _ _ _ hs.is
          have hixw := @ix_el _ _ _ hw.is
          have Hall := Hd.mk hall
          clear hall
          have hnq := fun xo yo => neq43 xo yo (exG l i) (exG m i)
          by_cases hq : exG l i = exG m i
          · rw [decide_eq_false (fun h => h hq)] at hnq
            (repeat' (first | refine rc_reg ?_ | refine rc_seq ?_ | refine rk_done ?_ | refine rn_seq_n ?_ | refine rc_blk ?_ | refine rc_skip ?_ | refine rc_exit ?_ | refine rc_ret ?_ | refine rc_scp ?_ | refine rn_seq_e ?_ | refine rn_seq_r ?_ | refine rn_blk_n ?_ | refine rn_blk_r ?_ | refine rn_blk_e ?_ | refine rn_scp_n ?_ | refine rn_scp_e ?_ | refine rn_scp_r ?_ | refine rk_sk ?_ | refine rn_blk_x (by decide) ?_ | ((first | apply rk_mv' | apply rk_p1 | apply rk_p2 | apply rk_r1 | apply rk_ln | apply rk_ls); · (first | (simp (disch := omega) only [evl, Nat.reduceEqDiff, Nat.reduceAdd, reduceIte, reduceCtorEq, h0, h1, h5, hlen, hix, hel, hixw, helw, hnq] <;> exact rfl) | exact rfl)) | ((first | apply rc_cond | apply rk_gd); (· (first | (simp (disch := omega) only [evl, Nat.reduceEqDiff, Nat.reduceAdd, reduceIte, reduceCtorEq, h0, h1, h5, hlen, hix, hel, hixw, helw, hnq] <;> exact rfl) | exact rfl)); all_goals (intro hb; try simp only [bvl, ne_eq, Bool.not_true, Bool.not_false, reduceCtorEq, not_true_eq_false] at hb)) | (refine rk_gd_u ?_ ?_; · (first | (simp (disch := omega) only [evl, Nat.reduceEqDiff, Nat.reduceAdd, reduceIte, reduceCtorEq, h0, h1, h5, hlen, hix, hel, hixw, helw, hnq] <;> exact rfl) | exact rfl))))
            refine rn_nil ?_; refine lpq_n (l.length - (i + 1)) (by omega) ?_; refine ⟨i + 1, rfl, by omega, (by (first | (simp (disch := omega) only [evl, Nat.reduceEqDiff, Nat.reduceAdd, reduceIte, reduceCtorEq, h0] <;> exact rfl) | exact rfl)), (by (first | (simp (disch := omega) only [evl, Nat.reduceEqDiff, Nat.reduceAdd, reduceIte, reduceCtorEq, h1] <;> exact rfl) | exact rfl)), (by (first | (simp (disch := omega) only [evl, Nat.reduceEqDiff, Nat.reduceAdd, reduceIte, reduceCtorEq] <;> exact rfl) | exact rfl)), fun j hj => ?_, rfl⟩
            rcases Nat.lt_succ_iff_lt_or_eq.1 hj with h | rfl
            · exact Hall.out j h
            · exact hq
          · rw [decide_eq_true hq] at hnq
            (repeat' (first | refine rc_reg ?_ | refine rc_seq ?_ | refine rk_done ?_ | refine rn_seq_n ?_ | refine rc_blk ?_ | refine rc_skip ?_ | refine rc_exit ?_ | refine rc_ret ?_ | refine rc_scp ?_ | refine rn_seq_e ?_ | refine rn_seq_r ?_ | refine rn_blk_n ?_ | refine rn_blk_r ?_ | refine rn_blk_e ?_ | refine rn_scp_n ?_ | refine rn_scp_e ?_ | refine rn_scp_r ?_ | refine rk_sk ?_ | refine rn_blk_x (by decide) ?_ | ((first | apply rk_mv' | apply rk_p1 | apply rk_p2 | apply rk_r1 | apply rk_ln | apply rk_ls); · (first | (simp (disch := omega) only [evl, Nat.reduceEqDiff, Nat.reduceAdd, reduceIte, reduceCtorEq, h0, h1, h5, hlen, hix, hel, hixw, helw, hnq] <;> exact rfl) | exact rfl)) | ((first | apply rc_cond | apply rk_gd); (· (first | (simp (disch := omega) only [evl, Nat.reduceEqDiff, Nat.reduceAdd, reduceIte, reduceCtorEq, h0, h1, h5, hlen, hix, hel, hixw, helw, hnq] <;> exact rfl) | exact rfl)); all_goals (intro hb; try simp only [bvl, ne_eq, Bool.not_true, Bool.not_false, reduceCtorEq, not_true_eq_false] at hb)) | (refine rk_gd_u ?_ ?_; · (first | (simp (disch := omega) only [evl, Nat.reduceEqDiff, Nat.reduceAdd, reduceIte, reduceCtorEq, h0, h1, h5, hlen, hix, hel, hixw, helw, hnq] <;> exact rfl) | exact rfl))))
            refine rn_nil ?_; refine lpq_r ?_; exact ⟨rfl, .inr ⟨rfl, (by (first | (simp (disch := omega) only [evl, Nat.reduceEqDiff, Nat.reduceAdd, reduceIte, reduceCtorEq] <;> exact rfl) | exact rfl)), fun h => hq (by rw [h])⟩⟩
        · (repeat' (first | refine rc_reg ?_ | refine rc_seq ?_ | refine rk_done ?_ | refine rn_seq_n ?_ | refine rc_blk ?_ | refine rc_skip ?_ | refine rc_exit ?_ | refine rc_ret ?_ | refine rc_scp ?_ | refine rn_seq_e ?_ | refine rn_seq_r ?_ | refine rn_blk_n ?_ | refine rn_blk_r ?_ | refine rn_blk_e ?_ | refine rn_scp_n ?_ | refine rn_scp_e ?_ | refine rn_scp_r ?_ | refine rk_sk ?_ | refine rn_blk_x (by decide) ?_ | ((first | apply rk_mv' | apply rk_p1 | apply rk_p2 | apply rk_r1 | apply rk_ln | apply rk_ls); · (first | (simp (disch := omega) only [evl, Nat.reduceEqDiff, Nat.reduceAdd, reduceIte, reduceCtorEq, h0, h1, h5, hlen] <;> exact rfl) | exact rfl)) | ((first | apply rc_cond | apply rk_gd); (· (first | (simp (disch := omega) only [evl, Nat.reduceEqDiff, Nat.reduceAdd, reduceIte, reduceCtorEq, h0, h1, h5, hlen] <;> exact rfl) | exact rfl)); all_goals (intro hb; try simp only [bvl, ne_eq, Bool.not_true, Bool.not_false, reduceCtorEq, not_true_eq_false] at hb)) | (refine rk_gd_u ?_ ?_; · (first | (simp (disch := omega) only [evl, Nat.reduceEqDiff, Nat.reduceAdd, reduceIte, reduceCtorEq, h0, h1, h5, hlen] <;> exact rfl) | exact rfl))))
          refine rn_nil ?_; refine lpq_e ?_
          refine ⟨rfl, .inl ⟨rfl, ?_⟩⟩
          refine List.ext_getElem hlm fun j h1 h2 => ?_
          have := hall j (by omega)
          simpa [exG, List.getD_eq_getElem?_getD, h1, h2] using this
      · exact ⟨0, by omega, by omega, (by (first | (simp (disch := omega) only [evl, Nat.reduceEqDiff, Nat.reduceAdd, reduceIte, reduceCtorEq] <;> exact rfl) | exact rfl)), (by (first | (simp (disch := omega) only [evl, Nat.reduceEqDiff, Nat.reduceAdd, reduceIte, reduceCtorEq] <;> exact rfl) | exact rfl)), (by (first | (simp (disch := omega) only [evl, Nat.reduceEqDiff, Nat.reduceAdd, reduceIte, reduceCtorEq] <;> exact rfl) | exact rfl)), fun j hj => by omega, rfl⟩
    · rintro ex T' H' ⟨rfl, h⟩
      rcases h with ⟨rfl, h⟩ | ⟨rfl, h4, h⟩
      · (repeat' (first | refine rc_reg ?_ | refine rc_seq ?_ | refine rk_done ?_ | refine rn_seq_n ?_ | refine rc_blk ?_ | refine rc_skip ?_ | refine rc_exit ?_ | refine rc_ret ?_ | refine rc_scp ?_ | refine rn_seq_e ?_ | refine rn_seq_r ?_ | refine rn_blk_n ?_ | refine rn_blk_r ?_ | refine rn_blk_e ?_ | refine rn_scp_n ?_ | refine rn_scp_e ?_ | refine rn_scp_r ?_ | refine rk_sk ?_ | refine rn_blk_x (by decide) ?_ | ((first | apply rk_mv' | apply rk_p1 | apply rk_p2 | apply rk_r1 | apply rk_ln | apply rk_ls); · (first | (simp (disch := omega) only [evl, Nat.reduceEqDiff, Nat.reduceAdd, reduceIte, reduceCtorEq] <;> exact rfl) | exact rfl)) | ((first | apply rc_cond | apply rk_gd); (· (first | (simp (disch := omega) only [evl, Nat.reduceEqDiff, Nat.reduceAdd, reduceIte, reduceCtorEq] <;> exact rfl) | exact rfl)); all_goals (intro hb; try simp only [bvl, ne_eq, Bool.not_true, Bool.not_false, reduceCtorEq, not_true_eq_false] at hb)) | (refine rk_gd_u ?_ ?_; · (first | (simp (disch := omega) only [evl, Nat.reduceEqDiff, Nat.reduceAdd, reduceIte, reduceCtorEq] <;> exact rfl) | exact rfl))))
        refine rn_nil ?_
        refine fq_ret (resV_1 _ _) ⟨?_, rfl⟩
        (simp (disch := omega) only [evl, Nat.reduceEqDiff, Nat.reduceAdd, reduceIte, reduceCtorEq]) <;> simp [h]
      · (repeat' (first | refine rc_reg ?_ | refine rc_seq ?_ | refine rk_done ?_ | refine rn_seq_n ?_ | refine rc_blk ?_ | refine rc_skip ?_ | refine rc_exit ?_ | refine rc_ret ?_ | refine rc_scp ?_ | refine rn_seq_e ?_ | refine rn_seq_r ?_ | refine rn_blk_n ?_ | refine rn_blk_r ?_ | refine rn_blk_e ?_ | refine rn_scp_n ?_ | refine rn_scp_e ?_ | refine rn_scp_r ?_ | refine rk_sk ?_ | refine rn_blk_x (by decide) ?_ | ((first | apply rk_mv' | apply rk_p1 | apply rk_p2 | apply rk_r1 | apply rk_ln | apply rk_ls); · (first | (simp (disch := omega) only [evl, Nat.reduceEqDiff, Nat.reduceAdd, reduceIte, reduceCtorEq] <;> exact rfl) | exact rfl)) | ((first | apply rc_cond | apply rk_gd); (· (first | (simp (disch := omega) only [evl, Nat.reduceEqDiff, Nat.reduceAdd, reduceIte, reduceCtorEq] <;> exact rfl) | exact rfl)); all_goals (intro hb; try simp only [bvl, ne_eq, Bool.not_true, Bool.not_false, reduceCtorEq, not_true_eq_false] at hb)) | (refine rk_gd_u ?_ ?_; · (first | (simp (disch := omega) only [evl, Nat.reduceEqDiff, Nat.reduceAdd, reduceIte, reduceCtorEq] <;> exact rfl) | exact rfl))))
        refine rn_nil ?_
        refine fq_ret (resV_1 _ _) ⟨?_, rfl⟩
        rw [h4]; simp [h]
  · (repeat' (first | refine rc_reg ?_ | refine rc_seq ?_ | refine rk_done ?_ | refine rn_seq_n ?_ | refine rc_blk ?_ | refine rc_skip ?_ | refine rc_exit ?_ | refine rc_ret ?_ | refine rc_scp ?_ | refine rn_seq_e ?_ | refine rn_seq_r ?_ | refine rn_blk_n ?_ | refine rn_blk_r ?_ | refine rn_blk_e ?_ | refine rn_scp_n ?_ | refine rn_scp_e ?_ | refine rn_scp_r ?_ | refine rk_sk ?_ | refine rn_blk_x (by decide) ?_ | ((first | apply rk_mv' | apply rk_p1 | apply rk_p2 | apply rk_r1 | apply rk_ln | apply rk_ls); · (first | (simp (disch := omega) only [evl, Nat.reduceEqDiff, Nat.reduceAdd, reduceIte, reduceCtorEq, hlen, hlenw] <;> exact rfl) | exact rfl)) | ((first | apply rc_cond | apply rk_gd); (· (first | (simp (disch := omega) only [evl, Nat.reduceEqDiff, Nat.reduceAdd, reduceIte, reduceCtorEq, hlen, hlenw] <;> exact rfl) | exact rfl)); all_goals (intro hb; try simp only [bvl, ne_eq, Bool.not_true, Bool.not_false, reduceCtorEq, not_true_eq_false] at hb)) | (refine rk_gd_u ?_ ?_; · (first | (simp (disch := omega) only [evl, Nat.reduceEqDiff, Nat.reduceAdd, reduceIte, reduceCtorEq, hlen, hlenw] <;> exact rfl) | exact rfl))))
    refine rn_nil ?_
    refine fq_ret (resV_1 _ _) ⟨?_, rfl⟩
    (simp (disch := omega) only [evl, Nat.reduceEqDiff, Nat.reduceAdd, reduceIte, reduceCtorEq])
    simp only [show ¬ l = m from fun h => hlm (by rw [h]), decide_false]

theorem Ap.stN {H : AH} {s : AV} {n e z N k : Nat} {l : List AV} {v : AV} (h : Ap H s n l e z N) (hk : k < n) (hh : H.hide = []) (hlo : H.lo ≤ N) (hv : v.cells.length = z) (h1 : v.cells.all AV.oneCell = true) :
    ∃ H' l', Go.Ev.stN z (elA z s k) v H = some H' ∧ Ap H' s n l' e z N ∧ HP (blkNe s) H H' ∧ H'.next = H.next := by
  obtain ⟨h0, ⟨rfl, rfl⟩ | ⟨i, rfl, hr, hN, hi⟩⟩ := h
  · omega
  · have hle : (k + 1) * z ≤ n * z := Nat.mul_le_mul_right z hk
    rw [Nat.add_mul] at hle
    obtain ⟨H', h1, h2, h3, h4⟩ := hr.stN (L := look) (t := 0) (v := v) (k := k * z) (s := z) hh (by omega) hv (one_of_l (by rw [toC_l]; exact h1)) (by omega)
    refine ⟨H', _, ?_, ⟨?_, .inr ⟨i, rfl, h2, hN, by omega⟩⟩, h3.mono fun j hj hb => fun h => hb 0 n n true (by rw [h]), h4⟩
    · show Go.Ev.stN z (.ptr i (0 + k * z)) v H = _
      rw [Nat.zero_add]; exact h1
    · simp only [List.length_append, List.length_take, List.length_drop, hv]; omega

end Go.Proofs.Ytnkomaedmblemaa

set_option linter.unusedSimpArgs false
set_option linter.unusedVariables false
set_option maxRecDepth 100000
namespace Go.Proofs.Ytnkomaedmblemaa
open Go.Ev Exl

theorem Ap.blk {H : AH} {s : AV} {n e z N : Nat} {l : List AV} (h : Ap H s n l e z N) {j : Nat} (hj : j < N) : blkNe s j := by
  obtain ⟨_, ⟨rfl, _⟩ | ⟨i, rfl, _, hN, _⟩⟩ := h
  · exact blkNe_nil _
  · exact blkNe_sl (by omega)
end Go.Proofs.Ytnkomaedmblemaa
