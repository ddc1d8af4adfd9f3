import Derived.Test.YtnkomaedmblemaaCtA
import Derived.Test.YtnkomaedmblemaaExl
set_option linter.unusedSimpArgs false
set_option linter.unusedVariables false
set_option maxRecDepth 100000
namespace Go.Proofs.Ytnkomaedmblemaa
open Go.Ev Exl
end Go.Proofs.Ytnkomaedmblemaa

set_option linter.unusedSimpArgs false
set_option linter.unusedVariables false
set_option maxRecDepth 100000
namespace Go.Proofs.Ytnkomaedmblemaa
open Go.Ev Exl
theorem sameX_ok (H : AH) (v w : AV) (l m : List (Int × Int)) (hs : SlX H v l) (hw : SlX H w m) (hl : l.length ≤ 1000000) (hm : m.length ≤ 1000000) :
    FnE look 14 [v, w] H fun r H' => r = .bool (decide (l = m)) ∧ H' = H := by
  refine fn_intro f14_eq (noext rfl) rfl ?_
  unfold f14c
  have hlen := fun H' => len_el (H' := H') u22 hs.is
  have hlenw := fun H' => len_el (H' := H') u22 hw.is
  by_cases hlm : l.length = m.length
  · (repeat' (first | refine rc_reg ?_ | refine rc_seq ?_ | refine rk_done ?_ | refine rn_seq_n ?_ | refine rc_blk ?_ | refine rc_skip ?_ | refine rc_exit ?_ | refine rc_ret ?_ | refine rc_scp ?_ | refine rn_seq_e ?_ | refine rn_seq_r ?_ | refine rn_blk_n ?_ | refine rn_blk_r ?_ | refine rn_blk_e ?_ | refine rn_scp_n ?_ | refine rn_scp_e ?_ | refine rn_scp_r ?_ | refine rk_sk ?_ | refine rn_blk_x (by decide) ?_ | ((first | apply rk_mv' | apply rk_p1 | apply rk_p2 | apply rk_r1 | apply rk_ln | apply rk_ls); · (first | (simp (disch := omega) only [evl, Nat.reduceEqDiff, Nat.reduceAdd, reduceIte, reduceCtorEq, hlen, hlenw] <;> exact rfl) | exact rfl)) | ((first | apply rc_cond | apply rk_gd); (· (first | (simp (disch := omega) only [evl, Nat.reduceEqDiff, Nat.reduceAdd, reduceIte, reduceCtorEq, hlen, hlenw] <;> exact rfl) | exact rfl)); all_goals (intro hb; try simp only [bvl, ne_eq, Bool.not_true, Bool.not_false, reduceCtorEq, not_true_eq_false] at hb)) | (refine rk_gd_u ?_ ?_; · (first | (simp (disch := omega) only [evl, Nat.reduceEqDiff, Nat.reduceAdd, reduceIte, reduceCtorEq, hlen, hlenw] <;> exact rfl) | exact rfl))))
    refine rc_loop (R := fun ex T' H' => H' = H ∧ ((ex = .exit 0 ∧ l = m) ∨ (ex = .ret ∧ gT T' 4 = .bool false ∧ l ≠ m))) ?_ ?_
    · refine lp_ind f14l0_eq (fun k T H' => ∃ i : Nat, k = l.length - i ∧ i ≤ l.length ∧ gT T 0 = v ∧ gT T 1 = w ∧ gT T 5 = .int .i64 i ∧ (∀ j, j < i → exG l j = exG m j) ∧ H' = H) _ ?_ l.length _ _ ?_
      · intro k T H' hI
        obtain ⟨i, hk, hi, h0, h1, h5, hall, rfl⟩ := hI
        unfold f14l0
        by_cases hlt : i < l.length
        · have hel := SlX.rdN hs hlt
          have helw := SlX.rdN hw (k := i) (by omega)
          have hix := @ix_el _ _ _ hs.is
          have hixw := @ix_el _ _ _ hw.is
          have Hall := Hd.mk hall
          clear hall
          have hnq := fun xo yo => neq43 xo yo (exG l i) (exG m i)
          by_cases hq : exG l i = exG m i
          · rw [decide_eq_false (fun h => h hq)] at hnq
            (repeat' (first | refine rc_reg ?_ | refine rc_seq ?_ | refine rk_done ?_ | refine rn_seq_n ?_ | refine rc_blk ?_ | refine rc_skip ?_ | refine rc_exit ?_ | refine rc_ret ?_ | refine rc_scp ?_ | refine rn_seq_e ?_ | refine rn_seq_r ?_ | refine rn_blk_n ?_ | refine rn_blk_r ?_ | refine rn_blk_e ?_ | refine rn_scp_n ?_ | refine rn_scp_e ?_ | refine rn_scp_r ?_ | refine rk_sk ?_ | refine rn_blk_x (by decide) ?_ | ((first | apply rk_mv' | apply rk_p1 | apply rk_p2 | apply rk_r1 | apply rk_ln | apply rk_ls); · (first | (simp (disch := omega) only [evl, Nat.reduceEqDiff, Nat.reduceAdd, reduceIte, reduceCtorEq, h0, h1, h5, hlen, hix, hel, hixw, helw, hnq] <;> exact rfl) | exact rfl)) | ((first | apply rc_cond | apply rk_gd); (· (first | (simp (disch := omega) only [evl, Nat.reduceEqDiff, Nat.reduceAdd, reduceIte, reduceCtorEq, h0, h1, h5, hlen, hix, hel, hixw, helw, hnq] <;> exact rfl) | exact rfl)); all_goals (intro hb; try simp only [bvl, ne_eq, Bool.not_true, Bool.not_false, reduceCtorEq, not_true_eq_false] at hb)) | (refine rk_gd_u ?_ ?_; · (first | (simp (disch := omega) only [evl, Nat.reduceEqDiff, Nat.reduceAdd, reduceIte, reduceCtorEq, h0, h1, h5, hlen, hix, hel, hixw, helw, hnq] <;> exact rfl) | exact rfl))))
            refine rn_nil ?_; refine lpq_n (l.length - (i + 1)) (by omega) ?_; refine ⟨i + 1, rfl, by omega, (by (first | (simp (disch := omega) only [evl, Nat.reduceEqDiff, Nat.reduceAdd, reduceIte, reduceCtorEq, h0] <;> exact rfl) | exact rfl)), (by (first | (simp (disch := omega) only [evl, Nat.reduceEqDiff, Nat.reduceAdd, reduceIte, reduceCtorEq, h1] <;> exact rfl) | exact rfl)), (by (first | (simp (disch := omega) only [evl, Nat.reduceEqDiff, Nat.reduceAdd, reduceIte, reduceCtorEq] <;> exact rfl) | exact rfl)), fun j hj => ?_, rfl⟩
            rcases Nat.lt_succ_iff_lt_or_eq.1 hj with h | rfl
            · exact Hall.out j h
            · exact hq
          · rw [decide_eq_true hq] at hnq
            (repeat' (first | refine rc_reg ?_ | refine rc_seq ?_ | refine rk_done ?_ | refine rn_seq_n ?_ | refine rc_blk ?_ | refine rc_skip ?_ | refine rc_exit ?_ | refine rc_ret ?_ | refine rc_scp ?_ | refine rn_seq_e ?_ | refine rn_seq_r ?_ | refine rn_blk_n ?_ | refine rn_blk_r ?_ | refine rn_blk_e ?_ | refine rn_scp_n ?_ | refine rn_scp_e ?_ | refine rn_scp_r ?_ | refine rk_sk ?_ | refine rn_blk_x (by decide) ?_ | ((first | apply rk_mv' | apply rk_p1 | apply rk_p2 | apply rk_r1 | apply rk_ln | apply rk_ls); · (first | (simp (disch := omega) only [evl, Nat.reduceEqDiff, Nat.reduceAdd, reduceIte, reduceCtorEq, h0, h1, h5, hlen, hix, hel, hixw, helw, hnq] <;> exact rfl) | exact rfl)) | ((first | apply rc_cond | apply rk_gd); (· (first | (simp (disch := omega) only [evl, Nat.reduceEqDiff, Nat.reduceAdd, reduceIte, reduceCtorEq, h0, h1, h5, hlen, hix, hel, hixw, helw, hnq] <;> exact rfl) | exact rfl)); all_goals (intro hb; try simp only [bvl, ne_eq, Bool.not_true, Bool.not_false, reduceCtorEq, not_true_eq_false] at hb)) | (refine rk_gd_u ?_ ?_; · (first | (simp (disch := omega) only [evl, Nat.reduceEqDiff, Nat.reduceAdd, reduceIte, reduceCtorEq, h0, h1, h5, hlen, hix, hel, hixw, helw, hnq] <;> exact rfl) | exact rfl))))
            refine rn_nil ?_; refine lpq_r ?_; exact ⟨rfl, .inr ⟨rfl, (by (first | (simp (disch := omega) only [evl, Nat.reduceEqDiff, Nat.reduceAdd, reduceIte, reduceCtorEq] <;> exact rfl) | exact rfl)), fun h => hq (by rw [h])⟩⟩
        · (repeat' (first | refine rc_reg ?_ | refine rc_seq ?_ | refine rk_done ?_ | refine rn_seq_n ?_ | refine rc_blk ?_ | refine rc_skip ?_ | refine rc_exit ?_ | refine rc_ret ?_ | refine rc_scp ?_ | refine rn_seq_e ?_ | refine rn_seq_r ?_ | refine rn_blk_n ?_ | refine rn_blk_r ?_ | refine rn_blk_e ?_ | refine rn_scp_n ?_ | refine rn_scp_e ?_ | refine rn_scp_r ?_ | refine rk_sk ?_ | refine rn_blk_x (by decide) ?_ | ((first | apply rk_mv' | apply rk_p1 | apply rk_p2 | apply rk_r1 | apply rk_ln | apply rk_ls); · (first | (simp (disch := omega) only [evl, Nat.reduceEqDiff, Nat.reduceAdd, reduceIte, reduceCtorEq, h0, h1, h5, hlen] <;> exact rfl) | exact rfl)) | ((first | apply rc_cond | apply rk_gd); (· (first | (simp (disch := omega) only [evl, Nat.reduceEqDiff, Nat.reduceAdd, reduceIte, reduceCtorEq, h0, h1, h5, hlen] <;> exact rfl) | exact rfl)); all_goals (intro hb; try simp only [bvl, ne_eq, Bool.not_true, Bool.not_false, reduceCtorEq, not_true_eq_false] at hb)) | (refine rk_gd_u ?_ ?_; · (first | (simp (disch := omega) only [evl, Nat.reduceEqDiff, Nat.reduceAdd, reduceIte, reduceCtorEq, h0, h1, h5, hlen] <;> exact rfl) | exact rfl))))
          refine rn_nil ?_; refine lpq_e ?_
          refine ⟨rfl, .inl ⟨rfl, ?_⟩⟩
          refine List.ext_getElem hlm fun j h1 h2 => ?_
          have := hall j (by omega)
          simpa [exG, List.getD_eq_getElem?_getD, h1, h2] using this
      · exact ⟨0, by omega, by omega, (by (first | (simp (disch := omega) only [evl, Nat.reduceEqDiff, Nat.reduceAdd, reduceIte, reduceCtorEq] <;> exact rfl) | exact rfl)), (by (first | (simp (disch := omega) only [evl, Nat.reduceEqDiff, Nat.reduceAdd, reduceIte, reduceCtorEq] <;> exact rfl) | exact rfl)), (by (first | (simp (disch := omega) only [evl, Nat.reduceEqDiff, Nat.reduceAdd, reduceIte, reduceCtorEq] <;> exact rfl) | exact rfl)), fun j hj => by omega, rfl⟩
    · rintro ex T' H' ⟨rfl, h⟩
      rcases h with ⟨rfl, h⟩ | ⟨rfl, h4, h⟩
      · (repeat' (first | refine rc_reg ?_ | refine rc_seq ?_ | refine rk_done ?_ | refine rn_seq_n ?_ | refine rc_blk ?_ | refine rc_skip ?_ | refine rc_exit ?_ | refine rc_ret ?_ | refine rc_scp ?_ | refine rn_seq_e ?_ | refine rn_seq_r ?_ | refine rn_blk_n ?_ | refine rn_blk_r ?_ | refine rn_blk_e ?_ | refine rn_scp_n ?_ | refine rn_scp_e ?_ | refine rn_scp_r ?_ | refine rk_sk ?_ | refine rn_blk_x (by decide) ?_ | ((first | apply rk_mv' | apply rk_p1 | apply rk_p2 | apply rk_r1 | apply rk_ln | apply rk_ls); · (first | (simp (disch := omega) only [evl, Nat.reduceEqDiff, Nat.reduceAdd, reduceIte, reduceCtorEq] <;> exact rfl) | exact rfl)) | ((first | apply rc_cond | apply rk_gd); (· (first | (simp (disch := omega) only [evl, Nat.reduceEqDiff, Nat.reduceAdd, reduceIte, reduceCtorEq] <;> exact rfl) | exact rfl)); all_goals (intro hb; try simp only [bvl, ne_eq, Bool.not_true, Bool.not_false, reduceCtorEq, not_true_eq_false] at hb)) | (refine rk_gd_u ?_ ?_; · (first | (simp (disch := omega) only [evl, Nat.reduceEqDiff, Nat.reduceAdd, reduceIte, reduceCtorEq] <;> exact rfl) | exact rfl))))
        refine rn_nil ?_
        refine fq_ret (resV_1 _ _) ⟨?_, rfl⟩
        (simp (disch := omega) only [evl, Nat.reduceEqDiff, Nat.reduceAdd, reduceIte, reduceCtorEq]) <;> simp [h]
      · (repeat' (first | refine rc_reg ?_ | refine rc_seq ?_ | refine rk_done ?_ | refine rn_seq_n ?_ | refine rc_blk ?_ | refine rc_skip ?_ | refine rc_exit ?_ | refine rc_ret ?_ | refine rc_scp ?_ | refine rn_seq_e ?_ | refine rn_seq_r ?_ | refine rn_blk_n ?_ | refine rn_blk_r ?_ | refine rn_blk_e ?_ | refine rn_scp_n ?_ | refine rn_scp_e ?_ | refine rn_scp_r ?_ | refine rk_sk ?_ | refine rn_blk_x (by decide) ?_ | ((first | apply rk_mv' | apply rk_p1 | apply rk_p2 | apply rk_r1 | apply rk_ln | apply rk_ls); · (first | (simp (disch := omega) only [evl, Nat.reduceEqDiff, Nat.reduceAdd, reduceIte, reduceCtorEq] <;> exact rfl) | exact rfl)) | ((first | apply rc_cond | apply rk_gd); (· (first | (simp (disch := omega) only [evl, Nat.reduceEqDiff, Nat.reduceAdd, reduceIte, reduceCtorEq] <;> exact rfl) | exact rfl)); all_goals (intro hb; try simp only [bvl, ne_eq, Bool.not_true, Bool.not_false, reduceCtorEq, not_true_eq_false] at hb)) | (refine rk_gd_u ?_ ?_; · (first | (simp (disch := omega) only [evl, Nat.reduceEqDiff, Nat.reduceAdd, reduceIte, reduceCtorEq] <;> exact rfl) | exact rfl))))
        refine rn_nil ?_
        refine fq_ret (resV_1 _ _) ⟨?_, rfl⟩
        rw [h4]; simp [h]
  · (repeat' (first | refine rc_reg ?_ | refine rc_seq ?_ | refine rk_done ?_ | refine rn_seq_n ?_ | refine rc_blk ?_ | refine rc_skip ?_ | refine rc_exit ?_ | refine rc_ret ?_ | refine rc_scp ?_ | refine rn_seq_e ?_ | refine rn_seq_r ?_ | refine rn_blk_n ?_ | refine rn_blk_r ?_ | refine rn_blk_e ?_ | refine rn_scp_n ?_ | refine rn_scp_e ?_ | refine rn_scp_r ?_ | refine rk_sk ?_ | refine rn_blk_x (by decide) ?_ | ((first | apply rk_mv' | apply rk_p1 | apply rk_p2 | apply rk_r1 | apply rk_ln | apply rk_ls); · (first | (simp (disch := omega) only [evl, Nat.reduceEqDiff, Nat.reduceAdd, reduceIte, reduceCtorEq, hlen, hlenw] <;> exact rfl) | exact rfl)) | ((first | apply rc_cond | apply rk_gd); (· (first | (simp (disch := omega) only [evl, Nat.reduceEqDiff, Nat.reduceAdd, reduceIte, reduceCtorEq, hlen, hlenw] <;> exact rfl) | exact rfl)); all_goals (intro hb; try simp only [bvl, ne_eq, Bool.not_true, Bool.not_false, reduceCtorEq, not_true_eq_false] at hb)) | (refine rk_gd_u ?_ ?_; · (first | (simp (disch := omega) only [evl, Nat.reduceEqDiff, Nat.reduceAdd, reduceIte, reduceCtorEq, hlen, hlenw] <;> exact rfl) | exact rfl))))
    refine rn_nil ?_
    refine fq_ret (resV_1 _ _) ⟨?_, rfl⟩
    (simp (disch := omega) only [evl, Nat.reduceEqDiff, Nat.reduceAdd, reduceIte, reduceCtorEq])
    simp only [show ¬ l = m from fun h => hlm (by rw [h]), decide_false]

theorem app_zero {e z b i : Nat} {H : AH} {x : AV} {new : Ce} {op' : Bool} {e' z' : Nat} {row : List AV} (hx : lenOf x = some 0) (hsrc : srcCells z x 0 H = some new) (h1 : new.one = true) (hnl : new.l = []) (hr : Row H i false op' e' z' row) (hh : H.hide = []) (hlo : H.lo ≤ i) :
    ∃ H', appX e z b [.sl i 0 0 0 false, x] H = some (.sl i 0 0 0 false, H') ∧ Row H' i false op' e' z' row ∧ HP (· ≠ i) H H' ∧ H'.next = H.next := by
  obtain ⟨cc, h2, rfl⟩ := hr
  obtain ⟨c', h3, h4⟩ := Ce.over_ex (x := new) (c := cc) (o := 0) (by rw [hnl]; exact Nat.zero_le _)
  refine ⟨H.put i (.cells c' e' z' op' false), ?_, ⟨c', AH.get_put hh _ _, by rw [h4, hnl]; simp⟩, HP.put _ _ _, rfl⟩
  show orec none (fun n => orec none (fun new => brec none (appS e z b n new (.sl i 0 0 0 false) H) new.one) (srcF z x n H)) (lenOf x) = _
  rw [hx]
  show orec none (fun new => brec none (appS e z b 0 new (.sl i 0 0 0 false) H) new.one) (srcF z x 0 H) = _
  rw [srcF_eq, hsrc]
  show brec none (appS e z b 0 new (.sl i 0 0 0 false) H) new.one = _
  rw [h1]
  show orec none (fun H' => some (AV.sl i 0 (Nat.add 0 0) 0 false, H')) (writeCF H i (Nat.add 0 (Nat.mul 0 z)) new) = _
  rw [writeCF_eq, show Nat.add 0 (Nat.mul 0 z) = 0 from by rw [show Nat.mul 0 z = 0 from Nat.zero_mul z]]
  have : H.writeC i 0 new = some (H.put i (.cells c' e' z' op' false)) := by
    unfold AH.writeC
    rw [show Nat.ble H.lo i = true from Nat.ble_eq_true_of_le hlo, h2]
    simp only [h1, h3]
  rw [this]; rfl

theorem copyX_ok (H : AH) (v : AV) (l : List (Int × Int)) (hs : SlX H v l) (hh : H.hide = []) (hlo : H.lo ≤ H.next) (hl : l.length ≤ 1000000) :
    FnE look 11 [v] H fun r H' => HX H H' ∧ ∃ i c op op' e z, r = .sl i 0 l.length c op ∧ Row H' i false op' e z (exC l) ∧ H.next ≤ i ∧ i < H'.next := by
  refine fn_intro f11_eq (noext rfl) rfl ?_
  unfold f11c
  (repeat' (first | refine rc_reg ?_ | refine rc_seq ?_ | refine rk_done ?_ | refine rn_seq_n ?_ | refine rc_blk ?_ | refine rc_skip ?_ | refine rc_exit ?_ | refine rc_ret ?_ | refine rc_scp ?_ | refine rn_seq_e ?_ | refine rn_seq_r ?_ | refine rn_blk_n ?_ | refine rn_blk_r ?_ | refine rn_blk_e ?_ | refine rn_scp_n ?_ | refine rn_scp_e ?_ | refine rn_scp_r ?_ | refine rk_sk ?_ | refine rn_blk_x (by decide) ?_ | ((first | apply rk_mv' | apply rk_p1 | apply rk_p2 | apply rk_r1 | apply rk_ln | apply rk_ls); · (first | (simp (disch := omega) only [evl, Nat.reduceEqDiff, Nat.reduceAdd, reduceIte, reduceCtorEq] <;> exact rfl) | exact rfl)) | ((first | apply rc_cond | apply rk_gd); (· (first | (simp (disch := omega) only [evl, Nat.reduceEqDiff, Nat.reduceAdd, reduceIte, reduceCtorEq] <;> exact rfl) | exact rfl)); all_goals (intro hb; try simp only [bvl, ne_eq, Bool.not_true, Bool.not_false, reduceCtorEq, not_true_eq_false] at hb)) | (refine rk_gd_u ?_ ?_; · (first | (simp (disch := omega) only [evl, Nat.reduceEqDiff, Nat.reduceAdd, reduceIte, reduceCtorEq] <;> exact rfl) | exact rfl))))
  obtain ⟨H1, hb1, hx1, hn1, hr1⟩ := bs_nil (s := 2) (e := 43) (z := .agg [.int .i64 0, .int .i64 0]) hh
  apply rk_hn
  · (simp (disch := omega) only [evl, Nat.reduceEqDiff, Nat.reduceAdd, reduceIte, reduceCtorEq])
    exact hb1
  simp only [hOut_f]
  (repeat' (first | refine rc_reg ?_ | refine rc_seq ?_ | refine rk_done ?_ | refine rn_seq_n ?_ | refine rc_blk ?_ | refine rc_skip ?_ | refine rc_exit ?_ | refine rc_ret ?_ | refine rc_scp ?_ | refine rn_seq_e ?_ | refine rn_seq_r ?_ | refine rn_blk_n ?_ | refine rn_blk_r ?_ | refine rn_blk_e ?_ | refine rn_scp_n ?_ | refine rn_scp_e ?_ | refine rn_scp_r ?_ | refine rk_sk ?_ | refine rn_blk_x (by decide) ?_ | ((first | apply rk_mv' | apply rk_p1 | apply rk_p2 | apply rk_r1 | apply rk_ln | apply rk_ls); · (first | (simp (disch := omega) only [evl, Nat.reduceEqDiff, Nat.reduceAdd, reduceIte, reduceCtorEq] <;> exact rfl) | exact rfl)) | ((first | apply rc_cond | apply rk_gd); (· (first | (simp (disch := omega) only [evl, Nat.reduceEqDiff, Nat.reduceAdd, reduceIte, reduceCtorEq] <;> exact rfl) | exact rfl)); all_goals (intro hb; try simp only [bvl, ne_eq, Bool.not_true, Bool.not_false, reduceCtorEq, not_true_eq_false] at hb)) | (refine rk_gd_u ?_ ?_; · (first | (simp (disch := omega) only [evl, Nat.reduceEqDiff, Nat.reduceAdd, reduceIte, reduceCtorEq] <;> exact rfl) | exact rfl))))
  have hs1 : SlX H1 v l := hs.hx hx1
  obtain ⟨new, hsrc, hnl⟩ := hs1.src
  have hone : new.one = true := one_of_l (by rw [hnl]; exact exC_one l)
  by_cases he : l = []
  · subst he
    obtain ⟨H2, happ, hr2, hp2, hn2⟩ := app_zero (e := 43) (z := 2) (b := 16) (x := v) hs1.is.lenOf hsrc hone hnl hr1 (hx1.hide.trans hh) (by rw [hx1.lo]; exact hlo)
    apply rk_hn
    · (simp (disch := omega) only [evl, Nat.reduceEqDiff, Nat.reduceAdd, reduceIte, reduceCtorEq])
      exact happ
    simp only [hOut_f]
    (repeat' (first | refine rc_reg ?_ | refine rc_seq ?_ | refine rk_done ?_ | refine rn_seq_n ?_ | refine rc_blk ?_ | refine rc_skip ?_ | refine rc_exit ?_ | refine rc_ret ?_ | refine rc_scp ?_ | refine rn_seq_e ?_ | refine rn_seq_r ?_ | refine rn_blk_n ?_ | refine rn_blk_r ?_ | refine rn_blk_e ?_ | refine rn_scp_n ?_ | refine rn_scp_e ?_ | refine rn_scp_r ?_ | refine rk_sk ?_ | refine rn_blk_x (by decide) ?_ | ((first | apply rk_mv' | apply rk_p1 | apply rk_p2 | apply rk_r1 | apply rk_ln | apply rk_ls); · (first | (simp (disch := omega) only [evl, Nat.reduceEqDiff, Nat.reduceAdd, reduceIte, reduceCtorEq] <;> exact rfl) | exact rfl)) | ((first | apply rc_cond | apply rk_gd); (· (first | (simp (disch := omega) only [evl, Nat.reduceEqDiff, Nat.reduceAdd, reduceIte, reduceCtorEq] <;> exact rfl) | exact rfl)); all_goals (intro hb; try simp only [bvl, ne_eq, Bool.not_true, Bool.not_false, reduceCtorEq, not_true_eq_false] at hb)) | (refine rk_gd_u ?_ ?_; · (first | (simp (disch := omega) only [evl, Nat.reduceEqDiff, Nat.reduceAdd, reduceIte, reduceCtorEq] <;> exact rfl) | exact rfl))))
    refine rn_nil ?_; refine fq_ret (resV_1 _ _) ⟨?_, H.next, 0, false, false, 43, 2, ?_, hr2, Nat.le_refl _, by omega⟩
    · exact ((hx1.hp fun _ => True).trans hp2 (r := fun _ => True) fun j hj _ => ⟨trivial, by omega⟩).hx fun _ _ => trivial
    · (simp (disch := omega) only [evl, Nat.reduceEqDiff, Nat.reduceAdd, reduceIte, reduceCtorEq]); rfl
  · have hl0 : l.length ≠ 0 := fun h => he (List.eq_nil_of_length_eq_zero h)
    obtain ⟨H2, happ, hx2, hn2, hr2⟩ := app_new (e := 43) (z := 2) (b := 16) (i := H.next) (o := 0) (l := 0) (c := 0) (x := v) hs1.is.lenOf hsrc hone hr1 (by simp) (by omega) (by omega) (by omega) (hx1.hide.trans hh)
    apply rk_hn
    · (simp (disch := omega) only [evl, Nat.reduceEqDiff, Nat.reduceAdd, reduceIte, reduceCtorEq])
      exact happ
    simp only [hOut_f]
    (repeat' (first | refine rc_reg ?_ | refine rc_seq ?_ | refine rk_done ?_ | refine rn_seq_n ?_ | refine rc_blk ?_ | refine rc_skip ?_ | refine rc_exit ?_ | refine rc_ret ?_ | refine rc_scp ?_ | refine rn_seq_e ?_ | refine rn_seq_r ?_ | refine rn_blk_n ?_ | refine rn_blk_r ?_ | refine rn_blk_e ?_ | refine rn_scp_n ?_ | refine rn_scp_e ?_ | refine rn_scp_r ?_ | refine rk_sk ?_ | refine rn_blk_x (by decide) ?_ | ((first | apply rk_mv' | apply rk_p1 | apply rk_p2 | apply rk_r1 | apply rk_ln | apply rk_ls); · (first | (simp (disch := omega) only [evl, Nat.reduceEqDiff, Nat.reduceAdd, reduceIte, reduceCtorEq] <;> exact rfl) | exact rfl)) | ((first | apply rc_cond | apply rk_gd); (· (first | (simp (disch := omega) only [evl, Nat.reduceEqDiff, Nat.reduceAdd, reduceIte, reduceCtorEq] <;> exact rfl) | exact rfl)); all_goals (intro hb; try simp only [bvl, ne_eq, Bool.not_true, Bool.not_false, reduceCtorEq, not_true_eq_false] at hb)) | (refine rk_gd_u ?_ ?_; · (first | (simp (disch := omega) only [evl, Nat.reduceEqDiff, Nat.reduceAdd, reduceIte, reduceCtorEq] <;> exact rfl) | exact rfl))))
    refine rn_nil ?_; refine fq_ret (resV_1 _ _) ⟨hx1.trans hx2, H1.next, 0 + l.length, true, true, 43, 2, ?_, ?_, by omega, by omega⟩
    · (simp (disch := omega) only [evl, Nat.reduceEqDiff, Nat.reduceAdd, reduceIte, reduceCtorEq])
    · rw [hnl] at hr2; simpa using hr2

theorem Ap.stN {H : AH} {s : AV} {n e z N k : Nat} {l : List AV} {v : AV} (h : Ap H s n l e z N) (hk : k < n) (hh : H.hide = []) (hlo : H.lo ≤ N) (hv : v.cells.length = z) (h1 : v.cells.all AV.oneCell = true) :
    ∃ H' l', Go.Ev.stN z (elA z s k) v H = some H' ∧ Ap H' s n l' e z N ∧ HP (blkNe s) H H' ∧ H'.next = H.next := by
  obtain ⟨h0, ⟨rfl, rfl⟩ | ⟨i, rfl, hr, hN, hi⟩⟩ := h
  · omega
  · have hle : (k + 1) * z ≤ n * z := Nat.mul_le_mul_right z hk
    rw [Nat.add_mul] at hle
    obtain ⟨H', h1, h2, h3, h4⟩ := hr.stN (L := look) (t := 0) (v := v) (k := k * z) (s := z) hh (by omega) hv (one_of_l (by rw [toC_l]; exact h1)) (by omega)
    refine ⟨H', _, ?_, ⟨?_, .inr ⟨i, rfl, h2, hN, by omega⟩⟩, h3.mono fun j hj hb => fun h => hb 0 n n true (by rw [h]), h4⟩
    · show Go.Ev.stN z (.ptr i (0 + k * z)) v H = _
      rw [Nat.zero_add]; exact h1
    · simp only [List.length_append, List.length_take, List.length_drop, hv]; omega

theorem overX_ok (H : AH) (o : AV) (n N : Nat) (cs : List AV) (hap : Ap H o n cs 43 2 N) (hh : H.hide = []) (hlo : H.lo ≤ N) (hn : n ≤ 1000000) :
    FnE look 15 [o] H fun r H' => HP (blkNe o) H H' := by
  refine fn_intro f15_eq (noext rfl) rfl ?_
  unfold f15c
  have hlen : ∀ H', fstO (builtinF .len look [22] [o] H') = some (.int .i64 n) := fun H' => len_el u22 hap.isSl
  (repeat' (first | refine rc_reg ?_ | refine rc_seq ?_ | refine rk_done ?_ | refine rn_seq_n ?_ | refine rc_blk ?_ | refine rc_skip ?_ | refine rc_exit ?_ | refine rc_ret ?_ | refine rc_scp ?_ | refine rn_seq_e ?_ | refine rn_seq_r ?_ | refine rn_blk_n ?_ | refine rn_blk_r ?_ | refine rn_blk_e ?_ | refine rn_scp_n ?_ | refine rn_scp_e ?_ | refine rn_scp_r ?_ | refine rk_sk ?_ | refine rn_blk_x (by decide) ?_ | ((first | apply rk_mv' | apply rk_p1 | apply rk_p2 | apply rk_r1 | apply rk_ln | apply rk_ls); · (first | (simp (disch := omega) only [evl, Nat.reduceEqDiff, Nat.reduceAdd, reduceIte, reduceCtorEq] <;> exact rfl) | exact rfl)) | ((first | apply rc_cond | apply rk_gd); (· (first | (simp (disch := omega) only [evl, Nat.reduceEqDiff, Nat.reduceAdd, reduceIte, reduceCtorEq] <;> exact rfl) | exact rfl)); all_goals (intro hb; try simp only [bvl, ne_eq, Bool.not_true, Bool.not_false, reduceCtorEq, not_true_eq_false] at hb)) | (refine rk_gd_u ?_ ?_; · (first | (simp (disch := omega) only [evl, Nat.reduceEqDiff, Nat.reduceAdd, reduceIte, reduceCtorEq] <;> exact rfl) | exact rfl))))
  refine rc_loop (R := fun ex T' H' => ex = .exit 0 ∧ HP (blkNe o) H H') ?_ ?_
  · refine lp_ind f15l0_eq (fun k T H' => ∃ (i : Nat) (cs : List AV), k = n - i ∧ i ≤ n ∧ gT T 0 = o ∧ gT T 2 = .int .i64 i ∧ HP (blkNe o) H H' ∧ Ap H' o n cs 43 2 N) _ ?_ n _ _ ?_
    · intro k T H' hI
      obtain ⟨i, cs, hk, hi, h0, h2, hp, hap⟩ := hI
      unfold f15l0
      by_cases hlt : i < n
      · have hix := @ix_el _ _ _ hap.isSl
        have hb7 := build43 (-7) (-7)
        (repeat' (first | refine rc_reg ?_ | refine rc_seq ?_ | refine rk_done ?_ | refine rn_seq_n ?_ | refine rc_blk ?_ | refine rc_skip ?_ | refine rc_exit ?_ | refine rc_ret ?_ | refine rc_scp ?_ | refine rn_seq_e ?_ | refine rn_seq_r ?_ | refine rn_blk_n ?_ | refine rn_blk_r ?_ | refine rn_blk_e ?_ | refine rn_scp_n ?_ | refine rn_scp_e ?_ | refine rn_scp_r ?_ | refine rk_sk ?_ | refine rn_blk_x (by decide) ?_ | ((first | apply rk_mv' | apply rk_p1 | apply rk_p2 | apply rk_r1 | apply rk_ln | apply rk_ls); · (first | (simp (disch := omega) only [evl, Nat.reduceEqDiff, Nat.reduceAdd, reduceIte, reduceCtorEq, h0, h2, hlen, hix, hb7] <;> exact rfl) | exact rfl)) | ((first | apply rc_cond | apply rk_gd); (· (first | (simp (disch := omega) only [evl, Nat.reduceEqDiff, Nat.reduceAdd, reduceIte, reduceCtorEq, h0, h2, hlen, hix, hb7] <;> exact rfl) | exact rfl)); all_goals (intro hb; try simp only [bvl, ne_eq, Bool.not_true, Bool.not_false, reduceCtorEq, not_true_eq_false] at hb)) | (refine rk_gd_u ?_ ?_; · (first | (simp (disch := omega) only [evl, Nat.reduceEqDiff, Nat.reduceAdd, reduceIte, reduceCtorEq, h0, h2, hlen, hix, hb7] <;> exact rfl) | exact rfl))))
        obtain ⟨H3, cs3, hst, hap3, hp3, hn3⟩ := Ap.stN (v := exV (-7, -7)) hap hlt (hp.hide.trans hh) (by rw [hp.lo]; exact hlo) rfl rfl
        apply rk_st
        · (simp (disch := omega) only [evl, Nat.reduceEqDiff, Nat.reduceAdd, reduceIte, reduceCtorEq])
          exact hst
        simp only [hOut_f]
        (repeat' (first | refine rc_reg ?_ | refine rc_seq ?_ | refine rk_done ?_ | refine rn_seq_n ?_ | refine rc_blk ?_ | refine rc_skip ?_ | refine rc_exit ?_ | refine rc_ret ?_ | refine rc_scp ?_ | refine rn_seq_e ?_ | refine rn_seq_r ?_ | refine rn_blk_n ?_ | refine rn_blk_r ?_ | refine rn_blk_e ?_ | refine rn_scp_n ?_ | refine rn_scp_e ?_ | refine rn_scp_r ?_ | refine rk_sk ?_ | refine rn_blk_x (by decide) ?_ | ((first | apply rk_mv' | apply rk_p1 | apply rk_p2 | apply rk_r1 | apply rk_ln | apply rk_ls); · (first | (simp (disch := omega) only [evl, Nat.reduceEqDiff, Nat.reduceAdd, reduceIte, reduceCtorEq, h2] <;> exact rfl) | exact rfl)) | ((first | apply rc_cond | apply rk_gd); (· (first | (simp (disch := omega) only [evl, Nat.reduceEqDiff, Nat.reduceAdd, reduceIte, reduceCtorEq, h2] <;> exact rfl) | exact rfl)); all_goals (intro hb; try simp only [bvl, ne_eq, Bool.not_true, Bool.not_false, reduceCtorEq, not_true_eq_false] at hb)) | (refine rk_gd_u ?_ ?_; · (first | (simp (disch := omega) only [evl, Nat.reduceEqDiff, Nat.reduceAdd, reduceIte, reduceCtorEq, h2] <;> exact rfl) | exact rfl))))
        refine rn_nil ?_; refine lpq_n (n - (i + 1)) (by omega) ?_
        exact ⟨i + 1, cs3, rfl, by omega, (by (first | (simp (disch := omega) only [evl, Nat.reduceEqDiff, Nat.reduceAdd, reduceIte, reduceCtorEq, h0] <;> exact rfl) | exact rfl)), (by (first | (simp (disch := omega) only [evl, Nat.reduceEqDiff, Nat.reduceAdd, reduceIte, reduceCtorEq] <;> exact rfl) | exact rfl)), hp.trans hp3 (r := blkNe o) fun j hj h => ⟨h, h⟩, hap3⟩
      · (repeat' (first | refine rc_reg ?_ | refine rc_seq ?_ | refine rk_done ?_ | refine rn_seq_n ?_ | refine rc_blk ?_ | refine rc_skip ?_ | refine rc_exit ?_ | refine rc_ret ?_ | refine rc_scp ?_ | refine rn_seq_e ?_ | refine rn_seq_r ?_ | refine rn_blk_n ?_ | refine rn_blk_r ?_ | refine rn_blk_e ?_ | refine rn_scp_n ?_ | refine rn_scp_e ?_ | refine rn_scp_r ?_ | refine rk_sk ?_ | refine rn_blk_x (by decide) ?_ | ((first | apply rk_mv' | apply rk_p1 | apply rk_p2 | apply rk_r1 | apply rk_ln | apply rk_ls); · (first | (simp (disch := omega) only [evl, Nat.reduceEqDiff, Nat.reduceAdd, reduceIte, reduceCtorEq, h0, h2, hlen] <;> exact rfl) | exact rfl)) | ((first | apply rc_cond | apply rk_gd); (· (first | (simp (disch := omega) only [evl, Nat.reduceEqDiff, Nat.reduceAdd, reduceIte, reduceCtorEq, h0, h2, hlen] <;> exact rfl) | exact rfl)); all_goals (intro hb; try simp only [bvl, ne_eq, Bool.not_true, Bool.not_false, reduceCtorEq, not_true_eq_false] at hb)) | (refine rk_gd_u ?_ ?_; · (first | (simp (disch := omega) only [evl, Nat.reduceEqDiff, Nat.reduceAdd, reduceIte, reduceCtorEq, h0, h2, hlen] <;> exact rfl) | exact rfl))))
        refine rn_nil ?_; refine lpq_e ?_
        exact ⟨rfl, hp⟩
    · exact ⟨0, cs, by omega, by omega, (by (first | (simp (disch := omega) only [evl, Nat.reduceEqDiff, Nat.reduceAdd, reduceIte, reduceCtorEq] <;> exact rfl) | exact rfl)), (by (first | (simp (disch := omega) only [evl, Nat.reduceEqDiff, Nat.reduceAdd, reduceIte, reduceCtorEq] <;> exact rfl) | exact rfl)), HP.refl _ _, hap⟩
  · rintro ex T' H' ⟨rfl, hp⟩
    (repeat' (first | refine rc_reg ?_ | refine rc_seq ?_ | refine rk_done ?_ | refine rn_seq_n ?_ | refine rc_blk ?_ | refine rc_skip ?_ | refine rc_exit ?_ | refine rc_ret ?_ | refine rc_scp ?_ | refine rn_seq_e ?_ | refine rn_seq_r ?_ | refine rn_blk_n ?_ | refine rn_blk_r ?_ | refine rn_blk_e ?_ | refine rn_scp_n ?_ | refine rn_scp_e ?_ | refine rn_scp_r ?_ | refine rk_sk ?_ | refine rn_blk_x (by decide) ?_ | ((first | apply rk_mv' | apply rk_p1 | apply rk_p2 | apply rk_r1 | apply rk_ln | apply rk_ls); · (first | (simp (disch := omega) only [evl, Nat.reduceEqDiff, Nat.reduceAdd, reduceIte, reduceCtorEq] <;> exact rfl) | exact rfl)) | ((first | apply rc_cond | apply rk_gd); (· (first | (simp (disch := omega) only [evl, Nat.reduceEqDiff, Nat.reduceAdd, reduceIte, reduceCtorEq] <;> exact rfl) | exact rfl)); all_goals (intro hb; try simp only [bvl, ne_eq, Bool.not_true, Bool.not_false, reduceCtorEq, not_true_eq_false] at hb)) | (refine rk_gd_u ?_ ?_; · (first | (simp (disch := omega) only [evl, Nat.reduceEqDiff, Nat.reduceAdd, reduceIte, reduceCtorEq] <;> exact rfl) | exact rfl))))
    refine rn_nil ?_; exact fq_nor (resV_0 _) hp
end Go.Proofs.Ytnkomaedmblemaa

set_option linter.unusedSimpArgs false
set_option linter.unusedVariables false
set_option maxRecDepth 100000
namespace Go.Proofs.Ytnkomaedmblemaa
open Go.Ev Exl

theorem Ap.blk {H : AH} {s : AV} {n e z N : Nat} {l : List AV} (h : Ap H s n l e z N) {j : Nat} (hj : j < N) : blkNe s j := by
  obtain ⟨_, ⟨rfl, _⟩ | ⟨i, rfl, _, hN, _⟩⟩ := h
  · exact blkNe_nil _
  · exact blkNe_sl (by omega)
theorem SlZ.lt {H : AH} {v : AV} {n z : Nat} {cs : List AV} (h : SlZ H v n z cs) {i o m c : Nat} {op : Bool} (hv : v = .sl i o m c op) : i < H.next := by
  subst hv
  rcases h.is with ⟨h, _⟩ | ⟨i', o', c', op', h, hi, _⟩
  · cases h
  · cases h; exact hi

end Go.Proofs.Ytnkomaedmblemaa
