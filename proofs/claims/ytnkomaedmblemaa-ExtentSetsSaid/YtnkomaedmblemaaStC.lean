import Derived.Test.YtnkomaedmblemaaStB
set_option linter.unusedSimpArgs false
set_option linter.unusedVariables false
set_option maxRecDepth 100000
namespace Go.Proofs.Ytnkomaedmblemaa
open Go.Ev Exl

/-! ### The stable sort -/
theorem insS_nil (H : AH) : FnE look 74 [.nilSl, .int .i64 0, .int .i64 0, .fn (.func 58) [] []] H fun r H' => H' = H := by
  refine fn_intro f74_eq (noext rfl) rfl ?_
  unfold f74c
  (repeat' (first | refine rc_reg ?_ | refine rc_seq ?_ | refine rk_done ?_ | refine rn_seq_n ?_ | refine rc_blk ?_ | refine rc_skip ?_ | refine rc_exit ?_ | refine rc_ret ?_ | refine rc_scp ?_ | refine rn_seq_e ?_ | refine rn_seq_r ?_ | refine rn_blk_n ?_ | refine rn_blk_r ?_ | refine rn_blk_e ?_ | refine rn_scp_n ?_ | refine rn_scp_e ?_ | refine rn_scp_r ?_ | refine rk_sk ?_ | refine rn_blk_x (by decide) ?_ | ((first | apply rk_mv' | apply rk_p1 | apply rk_p2 | apply rk_r1 | apply rk_ln | apply rk_ls); · (first | (simp (disch := omega) only [evl, Nat.reduceEqDiff, Nat.reduceAdd, reduceIte, reduceCtorEq] <;> exact rfl) | exact rfl)) | ((first | apply rc_cond | apply rk_gd); (· (first | (simp (disch := omega) only [evl, Nat.reduceEqDiff, Nat.reduceAdd, reduceIte, reduceCtorEq] <;> exact rfl) | exact rfl)); all_goals (intro hb; try simp only [bvl, ne_eq, Bool.not_true, Bool.not_false, reduceCtorEq, not_true_eq_false] at hb)) | (refine rk_gd_u ?_ ?_; · (first | (simp (disch := omega) only [evl, Nat.reduceEqDiff, Nat.reduceAdd, reduceIte, reduceCtorEq] <;> exact rfl) | exact rfl))))
  refine rc_loop (R := fun ex T' H' => ex = .exit 0 ∧ H' = H) ?_ ?_
  · refine lp_once f74l0_eq ?_
    unfold f74l0
    (repeat' (first | refine rc_reg ?_ | refine rc_seq ?_ | refine rk_done ?_ | refine rn_seq_n ?_ | refine rc_blk ?_ | refine rc_skip ?_ | refine rc_exit ?_ | refine rc_ret ?_ | refine rc_scp ?_ | refine rn_seq_e ?_ | refine rn_seq_r ?_ | refine rn_blk_n ?_ | refine rn_blk_r ?_ | refine rn_blk_e ?_ | refine rn_scp_n ?_ | refine rn_scp_e ?_ | refine rn_scp_r ?_ | refine rk_sk ?_ | refine rn_blk_x (by decide) ?_ | ((first | apply rk_mv' | apply rk_p1 | apply rk_p2 | apply rk_r1 | apply rk_ln | apply rk_ls); · (first | (simp (disch := omega) only [evl, Nat.reduceEqDiff, Nat.reduceAdd, reduceIte, reduceCtorEq] <;> exact rfl) | exact rfl)) | ((first | apply rc_cond | apply rk_gd); (· (first | (simp (disch := omega) only [evl, Nat.reduceEqDiff, Nat.reduceAdd, reduceIte, reduceCtorEq] <;> exact rfl) | exact rfl)); all_goals (intro hb; try simp only [bvl, ne_eq, Bool.not_true, Bool.not_false, reduceCtorEq, not_true_eq_false] at hb)) | (refine rk_gd_u ?_ ?_; · (first | (simp (disch := omega) only [evl, Nat.reduceEqDiff, Nat.reduceAdd, reduceIte, reduceCtorEq] <;> exact rfl) | exact rfl))))
    refine rn_nil ?_; refine lpq_e ?_
    exact ⟨rfl, rfl⟩
  · rintro ex T' H' ⟨rfl, rfl⟩
    (repeat' (first | refine rc_reg ?_ | refine rc_seq ?_ | refine rk_done ?_ | refine rn_seq_n ?_ | refine rc_blk ?_ | refine rc_skip ?_ | refine rc_exit ?_ | refine rc_ret ?_ | refine rc_scp ?_ | refine rn_seq_e ?_ | refine rn_seq_r ?_ | refine rn_blk_n ?_ | refine rn_blk_r ?_ | refine rn_blk_e ?_ | refine rn_scp_n ?_ | refine rn_scp_e ?_ | refine rn_scp_r ?_ | refine rk_sk ?_ | refine rn_blk_x (by decide) ?_ | ((first | apply rk_mv' | apply rk_p1 | apply rk_p2 | apply rk_r1 | apply rk_ln | apply rk_ls); · (first | (simp (disch := omega) only [evl, Nat.reduceEqDiff, Nat.reduceAdd, reduceIte, reduceCtorEq] <;> exact rfl) | exact rfl)) | ((first | apply rc_cond | apply rk_gd); (· (first | (simp (disch := omega) only [evl, Nat.reduceEqDiff, Nat.reduceAdd, reduceIte, reduceCtorEq] <;> exact rfl) | exact rfl)); all_goals (intro hb; try simp only [bvl, ne_eq, Bool.not_true, Bool.not_false, reduceCtorEq, not_true_eq_false] at hb)) | (refine rk_gd_u ?_ ?_; · (first | (simp (disch := omega) only [evl, Nat.reduceEqDiff, Nat.reduceAdd, reduceIte, reduceCtorEq] <;> exact rfl) | exact rfl))))
    refine rn_nil ?_; exact fq_nor (resV_0 _) rfl
theorem stable_nil (H : AH) : FnE look 62 [.nilSl, .int .i64 0, .fn (.func 58) [] []] H fun r H' => H' = H := by
  refine fn_intro f62_eq (noext rfl) rfl ?_
  unfold f62c
  (repeat' (first | refine rc_reg ?_ | refine rc_seq ?_ | refine rk_done ?_ | refine rn_seq_n ?_ | refine rc_blk ?_ | refine rc_skip ?_ | refine rc_exit ?_ | refine rc_ret ?_ | refine rc_scp ?_ | refine rn_seq_e ?_ | refine rn_seq_r ?_ | refine rn_blk_n ?_ | refine rn_blk_r ?_ | refine rn_blk_e ?_ | refine rn_scp_n ?_ | refine rn_scp_e ?_ | refine rn_scp_r ?_ | refine rk_sk ?_ | refine rn_blk_x (by decide) ?_ | ((first | apply rk_mv' | apply rk_p1 | apply rk_p2 | apply rk_r1 | apply rk_ln | apply rk_ls); · (first | (simp (disch := omega) only [evl, Nat.reduceEqDiff, Nat.reduceAdd, reduceIte, reduceCtorEq] <;> exact rfl) | exact rfl)) | ((first | apply rc_cond | apply rk_gd); (· (first | (simp (disch := omega) only [evl, Nat.reduceEqDiff, Nat.reduceAdd, reduceIte, reduceCtorEq] <;> exact rfl) | exact rfl)); all_goals (intro hb; try simp only [bvl, ne_eq, Bool.not_true, Bool.not_false, reduceCtorEq, not_true_eq_false] at hb)) | (refine rk_gd_u ?_ ?_; · (first | (simp (disch := omega) only [evl, Nat.reduceEqDiff, Nat.reduceAdd, reduceIte, reduceCtorEq] <;> exact rfl) | exact rfl))))
  refine rc_loop (R := fun ex T' H' => ex = .exit 0 ∧ H' = H ∧ gT T' 0 = .nilSl ∧ gT T' 1 = .int .i64 0 ∧ gT T' 2 = .fn (.func 58) [] [] ∧ gT T' 6 = .int .i64 20 ∧ gT T' 7 = .int .i64 0) ?_ ?_
  · refine lp_once f62l0_eq ?_
    unfold f62l0
    (repeat' (first | refine rc_reg ?_ | refine rc_seq ?_ | refine rk_done ?_ | refine rn_seq_n ?_ | refine rc_blk ?_ | refine rc_skip ?_ | refine rc_exit ?_ | refine rc_ret ?_ | refine rc_scp ?_ | refine rn_seq_e ?_ | refine rn_seq_r ?_ | refine rn_blk_n ?_ | refine rn_blk_r ?_ | refine rn_blk_e ?_ | refine rn_scp_n ?_ | refine rn_scp_e ?_ | refine rn_scp_r ?_ | refine rk_sk ?_ | refine rn_blk_x (by decide) ?_ | ((first | apply rk_mv' | apply rk_p1 | apply rk_p2 | apply rk_r1 | apply rk_ln | apply rk_ls); · (first | (simp (disch := omega) only [evl, Nat.reduceEqDiff, Nat.reduceAdd, reduceIte, reduceCtorEq] <;> exact rfl) | exact rfl)) | ((first | apply rc_cond | apply rk_gd); (· (first | (simp (disch := omega) only [evl, Nat.reduceEqDiff, Nat.reduceAdd, reduceIte, reduceCtorEq] <;> exact rfl) | exact rfl)); all_goals (intro hb; try simp only [bvl, ne_eq, Bool.not_true, Bool.not_false, reduceCtorEq, not_true_eq_false] at hb)) | (refine rk_gd_u ?_ ?_; · (first | (simp (disch := omega) only [evl, Nat.reduceEqDiff, Nat.reduceAdd, reduceIte, reduceCtorEq] <;> exact rfl) | exact rfl))))
    refine rn_nil ?_; refine lpq_e ?_
    exact ⟨rfl, rfl, (by (first | (simp (disch := omega) only [evl, Nat.reduceEqDiff, Nat.reduceAdd, reduceIte, reduceCtorEq] <;> exact rfl) | exact rfl)), (by (first | (simp (disch := omega) only [evl, Nat.reduceEqDiff, Nat.reduceAdd, reduceIte, reduceCtorEq] <;> exact rfl) | exact rfl)), (by (first | (simp (disch := omega) only [evl, Nat.reduceEqDiff, Nat.reduceAdd, reduceIte, reduceCtorEq] <;> exact rfl) | exact rfl)), (by (first | (simp (disch := omega) only [evl, Nat.reduceEqDiff, Nat.reduceAdd, reduceIte, reduceCtorEq] <;> exact rfl) | exact rfl)), (by (first | (simp (disch := omega) only [evl, Nat.reduceEqDiff, Nat.reduceAdd, reduceIte, reduceCtorEq] <;> exact rfl) | exact rfl))⟩
  · rintro ex T' H' ⟨rfl, rfl, h0, h1, h2, h6, h7⟩
    (repeat' (first | refine rc_reg ?_ | refine rc_seq ?_ | refine rk_done ?_ | refine rn_seq_n ?_ | refine rc_blk ?_ | refine rc_skip ?_ | refine rc_exit ?_ | refine rc_ret ?_ | refine rc_scp ?_ | refine rn_seq_e ?_ | refine rn_seq_r ?_ | refine rn_blk_n ?_ | refine rn_blk_r ?_ | refine rn_blk_e ?_ | refine rn_scp_n ?_ | refine rn_scp_e ?_ | refine rn_scp_r ?_ | refine rk_sk ?_ | refine rn_blk_x (by decide) ?_ | ((first | apply rk_mv' | apply rk_p1 | apply rk_p2 | apply rk_r1 | apply rk_ln | apply rk_ls); · (first | (simp (disch := omega) only [evl, Nat.reduceEqDiff, Nat.reduceAdd, reduceIte, reduceCtorEq, h0, h1, h2, h6, h7] <;> exact rfl) | exact rfl)) | ((first | apply rc_cond | apply rk_gd); (· (first | (simp (disch := omega) only [evl, Nat.reduceEqDiff, Nat.reduceAdd, reduceIte, reduceCtorEq, h0, h1, h2, h6, h7] <;> exact rfl) | exact rfl)); all_goals (intro hb; try simp only [bvl, ne_eq, Bool.not_true, Bool.not_false, reduceCtorEq, not_true_eq_false] at hb)) | (refine rk_gd_u ?_ ?_; · (first | (simp (disch := omega) only [evl, Nat.reduceEqDiff, Nat.reduceAdd, reduceIte, reduceCtorEq, h0, h1, h2, h6, h7] <;> exact rfl) | exact rfl))))
    refine rk_cl (by (simp (disch := omega) only [evl, Nat.reduceEqDiff, Nat.reduceAdd, reduceIte, reduceCtorEq, h0, h1, h2, h6, h7]); exact insS_nil H') ?_
    rintro r H1 rfl
    simp only [hOut_f]
    (repeat' (first | refine rc_reg ?_ | refine rc_seq ?_ | refine rk_done ?_ | refine rn_seq_n ?_ | refine rc_blk ?_ | refine rc_skip ?_ | refine rc_exit ?_ | refine rc_ret ?_ | refine rc_scp ?_ | refine rn_seq_e ?_ | refine rn_seq_r ?_ | refine rn_blk_n ?_ | refine rn_blk_r ?_ | refine rn_blk_e ?_ | refine rn_scp_n ?_ | refine rn_scp_e ?_ | refine rn_scp_r ?_ | refine rk_sk ?_ | refine rn_blk_x (by decide) ?_ | ((first | apply rk_mv' | apply rk_p1 | apply rk_p2 | apply rk_r1 | apply rk_ln | apply rk_ls); · (first | (simp (disch := omega) only [evl, Nat.reduceEqDiff, Nat.reduceAdd, reduceIte, reduceCtorEq] <;> exact rfl) | exact rfl)) | ((first | apply rc_cond | apply rk_gd); (· (first | (simp (disch := omega) only [evl, Nat.reduceEqDiff, Nat.reduceAdd, reduceIte, reduceCtorEq] <;> exact rfl) | exact rfl)); all_goals (intro hb; try simp only [bvl, ne_eq, Bool.not_true, Bool.not_false, reduceCtorEq, not_true_eq_false] at hb)) | (refine rk_gd_u ?_ ?_; · (first | (simp (disch := omega) only [evl, Nat.reduceEqDiff, Nat.reduceAdd, reduceIte, reduceCtorEq] <;> exact rfl) | exact rfl))))
    refine rc_loop (R := fun ex T' H' => ex = .exit 2 ∧ H' = H1) ?_ ?_
    · refine lp_once f62l1_eq ?_
      unfold f62l1
      (repeat' (first | refine rc_reg ?_ | refine rc_seq ?_ | refine rk_done ?_ | refine rn_seq_n ?_ | refine rc_blk ?_ | refine rc_skip ?_ | refine rc_exit ?_ | refine rc_ret ?_ | refine rc_scp ?_ | refine rn_seq_e ?_ | refine rn_seq_r ?_ | refine rn_blk_n ?_ | refine rn_blk_r ?_ | refine rn_blk_e ?_ | refine rn_scp_n ?_ | refine rn_scp_e ?_ | refine rn_scp_r ?_ | refine rk_sk ?_ | refine rn_blk_x (by decide) ?_ | ((first | apply rk_mv' | apply rk_p1 | apply rk_p2 | apply rk_r1 | apply rk_ln | apply rk_ls); · (first | (simp (disch := omega) only [evl, Nat.reduceEqDiff, Nat.reduceAdd, reduceIte, reduceCtorEq, h0, h1, h2, h6, h7] <;> exact rfl) | exact rfl)) | ((first | apply rc_cond | apply rk_gd); (· (first | (simp (disch := omega) only [evl, Nat.reduceEqDiff, Nat.reduceAdd, reduceIte, reduceCtorEq, h0, h1, h2, h6, h7] <;> exact rfl) | exact rfl)); all_goals (intro hb; try simp only [bvl, ne_eq, Bool.not_true, Bool.not_false, reduceCtorEq, not_true_eq_false] at hb)) | (refine rk_gd_u ?_ ?_; · (first | (simp (disch := omega) only [evl, Nat.reduceEqDiff, Nat.reduceAdd, reduceIte, reduceCtorEq, h0, h1, h2, h6, h7] <;> exact rfl) | exact rfl))))
      refine rn_nil ?_; refine lpq_e ?_
      exact ⟨rfl, rfl⟩
    · rintro ex T'' H'' ⟨rfl, rfl⟩
      (repeat' (first | refine rc_reg ?_ | refine rc_seq ?_ | refine rk_done ?_ | refine rn_seq_n ?_ | refine rc_blk ?_ | refine rc_skip ?_ | refine rc_exit ?_ | refine rc_ret ?_ | refine rc_scp ?_ | refine rn_seq_e ?_ | refine rn_seq_r ?_ | refine rn_blk_n ?_ | refine rn_blk_r ?_ | refine rn_blk_e ?_ | refine rn_scp_n ?_ | refine rn_scp_e ?_ | refine rn_scp_r ?_ | refine rk_sk ?_ | refine rn_blk_x (by decide) ?_ | ((first | apply rk_mv' | apply rk_p1 | apply rk_p2 | apply rk_r1 | apply rk_ln | apply rk_ls); · (first | (simp (disch := omega) only [evl, Nat.reduceEqDiff, Nat.reduceAdd, reduceIte, reduceCtorEq] <;> exact rfl) | exact rfl)) | ((first | apply rc_cond | apply rk_gd); (· (first | (simp (disch := omega) only [evl, Nat.reduceEqDiff, Nat.reduceAdd, reduceIte, reduceCtorEq] <;> exact rfl) | exact rfl)); all_goals (intro hb; try simp only [bvl, ne_eq, Bool.not_true, Bool.not_false, reduceCtorEq, not_true_eq_false] at hb)) | (refine rk_gd_u ?_ ?_; · (first | (simp (disch := omega) only [evl, Nat.reduceEqDiff, Nat.reduceAdd, reduceIte, reduceCtorEq] <;> exact rfl) | exact rfl))))
      refine rn_nil ?_; exact fq_nor (resV_0 _) rfl

/-- Blocks of w are sorted. -/
def bsrt (xs : List Ed) (w n : Nat) : Prop := ∀ q, srt xs (q * w) (min (q * w + w) n)

structure St2 (T : Tr AV) (i n c : Nat) (op : Bool) : Prop where
  t0 : gT T 0 = .sl i 0 n c op
  t1 : gT T 1 = .int .i64 n
  t2 : gT T 2 = .fn (.func 58) [] []

set_option maxHeartbeats 8000000 in
theorem sloop0_ok (T : Tr AV) (H : AH) (xs : List Ed) (i c : Nat) (op op' : Bool) (hT : St2 T i xs.length c op) (h6 : gT T 6 = .int .i64 20) (h7 : gT T 7 = .int .i64 0) (h8 : gT T 8 = .int .i64 20)
    (hr : Row H i false op' 66 2 (edC xs)) (hi : i < H.next) (hlo : H.lo ≤ i) (hh : H.hide = []) (hl : xs.length ≤ 1000000) (hbd : Bd xs) :
    LpE look f62b0 T H fun ex T' H' => ex = .exit 0 ∧ St2 T' i xs.length c op ∧ gT T' 6 = .int .i64 20 ∧ HP (· ≠ i) H H' ∧ ∃ (q : Nat) (ys : List Ed), gT T' 7 = .int .i64 (q * 20 : Nat) ∧ q * 20 ≤ xs.length ∧ xs.length < q * 20 + 20 ∧ Row H' i false op' 66 2 (edC ys) ∧ Kp xs ys 0 xs.length ∧ ∀ p, p < q → srt ys (p * 20) (p * 20 + 20) := by
  refine lp_ind f62l0_eq (fun k T H' => ∃ (q : Nat) (ys : List Ed), k = xs.length - q * 20 ∧ q * 20 ≤ xs.length ∧ St2 T i xs.length c op ∧ gT T 6 = .int .i64 20 ∧ gT T 7 = .int .i64 (q * 20 : Nat) ∧ gT T 8 = .int .i64 (q * 20 + 20 : Nat) ∧ HP (· ≠ i) H H' ∧ Row H' i false op' 66 2 (edC ys) ∧ Kp xs ys 0 xs.length ∧ ∀ p, p < q → srt ys (p * 20) (p * 20 + 20)) _ ?_ xs.length _ _ ?_
  · intro k T H1 hI
    obtain ⟨q, ys, hk, hq, ⟨h0, h1, h2⟩, h6, h7, h8, hp, hrow, hkp, hst⟩ := hI
    unfold f62l0
    have hyl := hkp.len
    have Hst := Hd.mk hst
    clear hst
    obtain ⟨a, ha⟩ : ∃ a : Nat, a = q * 20 := ⟨_, rfl⟩
    obtain ⟨b, hbb⟩ : ∃ b : Nat, b = q * 20 + 20 := ⟨_, rfl⟩
    rw [← ha] at h7 hk hq
    rw [← hbb] at h8
    by_cases hlt : b ≤ xs.length
    · (repeat' (first | refine rc_reg ?_ | refine rc_seq ?_ | refine rk_done ?_ | refine rn_seq_n ?_ | refine rc_blk ?_ | refine rc_skip ?_ | refine rc_exit ?_ | refine rc_ret ?_ | refine rc_scp ?_ | refine rn_seq_e ?_ | refine rn_seq_r ?_ | refine rn_blk_n ?_ | refine rn_blk_r ?_ | refine rn_blk_e ?_ | refine rn_scp_n ?_ | refine rn_scp_e ?_ | refine rn_scp_r ?_ | refine rk_sk ?_ | refine rn_blk_x (by decide) ?_ | ((first | apply rk_mv' | apply rk_p1 | apply rk_p2 | apply rk_r1 | apply rk_ln | apply rk_ls); · (first | (simp (disch := omega) only [evl, Nat.reduceEqDiff, Nat.reduceAdd, reduceIte, reduceCtorEq, h0, h1, h2, h6, h7, h8] <;> exact rfl) | exact rfl)) | ((first | apply rc_cond | apply rk_gd); (· (first | (simp (disch := omega) only [evl, Nat.reduceEqDiff, Nat.reduceAdd, reduceIte, reduceCtorEq, h0, h1, h2, h6, h7, h8] <;> exact rfl) | exact rfl)); all_goals (intro hb; try simp only [bvl, ne_eq, Bool.not_true, Bool.not_false, reduceCtorEq, not_true_eq_false] at hb)) | (refine rk_gd_u ?_ ?_; · (first | (simp (disch := omega) only [evl, Nat.reduceEqDiff, Nat.reduceAdd, reduceIte, reduceCtorEq, h0, h1, h2, h6, h7, h8] <;> exact rfl) | exact rfl))))
      refine rk_cl (by (simp (disch := omega) only [evl, Nat.reduceEqDiff, Nat.reduceAdd, reduceIte, reduceCtorEq, h0, h1, h2, h6, h7, h8]); rw [← hyl]; exact insS_ok H1 ys i c a b op op' hrow (by have := hp.next; omega) (by rw [hp.lo]; exact hlo) (hp.hide.trans hh) (by omega) (by omega) (by omega) (hbd.kp hkp)) ?_
      rintro r H2 ⟨hp2, zs, hr2, hk2, hs2⟩
      simp only [hOut_f]
      (repeat' (first | refine rc_reg ?_ | refine rc_seq ?_ | refine rk_done ?_ | refine rn_seq_n ?_ | refine rc_blk ?_ | refine rc_skip ?_ | refine rc_exit ?_ | refine rc_ret ?_ | refine rc_scp ?_ | refine rn_seq_e ?_ | refine rn_seq_r ?_ | refine rn_blk_n ?_ | refine rn_blk_r ?_ | refine rn_blk_e ?_ | refine rn_scp_n ?_ | refine rn_scp_e ?_ | refine rn_scp_r ?_ | refine rk_sk ?_ | refine rn_blk_x (by decide) ?_ | ((first | apply rk_mv' | apply rk_p1 | apply rk_p2 | apply rk_r1 | apply rk_ln | apply rk_ls); · (first | (simp (disch := omega) only [evl, Nat.reduceEqDiff, Nat.reduceAdd, reduceIte, reduceCtorEq, h6, h8] <;> exact rfl) | exact rfl)) | ((first | apply rc_cond | apply rk_gd); (· (first | (simp (disch := omega) only [evl, Nat.reduceEqDiff, Nat.reduceAdd, reduceIte, reduceCtorEq, h6, h8] <;> exact rfl) | exact rfl)); all_goals (intro hb; try simp only [bvl, ne_eq, Bool.not_true, Bool.not_false, reduceCtorEq, not_true_eq_false] at hb)) | (refine rk_gd_u ?_ ?_; · (first | (simp (disch := omega) only [evl, Nat.reduceEqDiff, Nat.reduceAdd, reduceIte, reduceCtorEq, h6, h8] <;> exact rfl) | exact rfl))))
      refine rn_nil ?_; refine lpq_n (xs.length - b) (by omega) ?_
      refine ⟨q + 1, zs, by omega, by omega, ⟨(by (first | (simp (disch := omega) only [evl, Nat.reduceEqDiff, Nat.reduceAdd, reduceIte, reduceCtorEq, h0] <;> exact rfl) | exact rfl)), (by (first | (simp (disch := omega) only [evl, Nat.reduceEqDiff, Nat.reduceAdd, reduceIte, reduceCtorEq, h1] <;> exact rfl) | exact rfl)), (by (first | (simp (disch := omega) only [evl, Nat.reduceEqDiff, Nat.reduceAdd, reduceIte, reduceCtorEq, h2] <;> exact rfl) | exact rfl))⟩, (by (first | (simp (disch := omega) only [evl, Nat.reduceEqDiff, Nat.reduceAdd, reduceIte, reduceCtorEq, h6] <;> exact rfl) | exact rfl)), ?_, ?_, hp.trans hp2 (r := (· ≠ i)) fun i hi h => ⟨h, h⟩, hr2, hkp.trans hk2 (Nat.le_refl _) (Nat.le_refl _) (by omega) (by omega), fun p hp => ?_⟩
      · rw [show (q + 1) * 20 = b from by omega]; (simp (disch := omega) only [evl, Nat.reduceEqDiff, Nat.reduceAdd, reduceIte, reduceCtorEq, h8])
      · rw [show (q + 1) * 20 + 20 = b + 20 from by omega]; (simp (disch := omega) only [evl, Nat.reduceEqDiff, Nat.reduceAdd, reduceIte, reduceCtorEq, h8]); rw [Int.natCast_add]; rfl
      · by_cases hpq : p = q
        · subst hpq; rw [← ha, show a + 20 = b from by omega]; exact hs2
        · exact srt_kp (Hst.out p (by omega)) hk2 (.inl (by omega))
    · (repeat' (first | refine rc_reg ?_ | refine rc_seq ?_ | refine rk_done ?_ | refine rn_seq_n ?_ | refine rc_blk ?_ | refine rc_skip ?_ | refine rc_exit ?_ | refine rc_ret ?_ | refine rc_scp ?_ | refine rn_seq_e ?_ | refine rn_seq_r ?_ | refine rn_blk_n ?_ | refine rn_blk_r ?_ | refine rn_blk_e ?_ | refine rn_scp_n ?_ | refine rn_scp_e ?_ | refine rn_scp_r ?_ | refine rk_sk ?_ | refine rn_blk_x (by decide) ?_ | ((first | apply rk_mv' | apply rk_p1 | apply rk_p2 | apply rk_r1 | apply rk_ln | apply rk_ls); · (first | (simp (disch := omega) only [evl, Nat.reduceEqDiff, Nat.reduceAdd, reduceIte, reduceCtorEq, h0, h1, h2, h6, h7, h8] <;> exact rfl) | exact rfl)) | ((first | apply rc_cond | apply rk_gd); (· (first | (simp (disch := omega) only [evl, Nat.reduceEqDiff, Nat.reduceAdd, reduceIte, reduceCtorEq, h0, h1, h2, h6, h7, h8] <;> exact rfl) | exact rfl)); all_goals (intro hb; try simp only [bvl, ne_eq, Bool.not_true, Bool.not_false, reduceCtorEq, not_true_eq_false] at hb)) | (refine rk_gd_u ?_ ?_; · (first | (simp (disch := omega) only [evl, Nat.reduceEqDiff, Nat.reduceAdd, reduceIte, reduceCtorEq, h0, h1, h2, h6, h7, h8] <;> exact rfl) | exact rfl))))
      refine rn_nil ?_; refine lpq_e ?_
      exact ⟨rfl, ⟨(by (first | (simp (disch := omega) only [evl, Nat.reduceEqDiff, Nat.reduceAdd, reduceIte, reduceCtorEq, h0] <;> exact rfl) | exact rfl)), (by (first | (simp (disch := omega) only [evl, Nat.reduceEqDiff, Nat.reduceAdd, reduceIte, reduceCtorEq, h1] <;> exact rfl) | exact rfl)), (by (first | (simp (disch := omega) only [evl, Nat.reduceEqDiff, Nat.reduceAdd, reduceIte, reduceCtorEq, h2] <;> exact rfl) | exact rfl))⟩, (by (first | (simp (disch := omega) only [evl, Nat.reduceEqDiff, Nat.reduceAdd, reduceIte, reduceCtorEq, h6] <;> exact rfl) | exact rfl)), hp, q, ys, by rw [← ha]; (first | (simp (disch := omega) only [evl, Nat.reduceEqDiff, Nat.reduceAdd, reduceIte, reduceCtorEq, h7] <;> exact rfl) | exact rfl), by omega, by omega, hrow, hkp, Hst.out⟩
  · exact ⟨0, xs, by omega, by omega, hT, h6, h7, h8, HP.refl _ _, hr, Kp.refl _ _ _, fun p hp => by omega⟩

set_option maxHeartbeats 8000000 in
theorem sloop2_ok (T : Tr AV) (H : AH) (xs : List Ed) (i c w : Nat) (op op' : Bool) (hT : St2 T i xs.length c op) (h6 : gT T 6 = .int .i64 w) (h7 : gT T 7 = .int .i64 0) (h8 : gT T 8 = .int .i64 (2 * w : Nat))
    (hr : Row H i false op' 66 2 (edC xs)) (hi : i < H.next) (hlo : H.lo ≤ i) (hh : H.hide = []) (hl : xs.length ≤ 1000000) (hbd : Bd xs) (hw : 1 ≤ w) (hwn : w < xs.length) (hbs : bsrt xs w xs.length) :
    LpE look f62b2 T H fun ex T' H' => ex = .exit 4 ∧ St2 T' i xs.length c op ∧ gT T' 6 = .int .i64 w ∧ HP (· ≠ i) H H' ∧ ∃ (q : Nat) (ys : List Ed), gT T' 7 = .int .i64 (q * (2 * w) : Nat) ∧ q * (2 * w) ≤ xs.length ∧ xs.length < q * (2 * w) + 2 * w ∧ Row H' i false op' 66 2 (edC ys) ∧ Kp xs ys 0 xs.length ∧ (∀ p, p < q → srt ys (p * (2 * w)) (p * (2 * w) + 2 * w)) ∧ ∀ p, 2 * q ≤ p → srt ys (p * w) (min (p * w + w) xs.length) := by
  refine lp_ind f62l2_eq (fun k T H' => ∃ (q : Nat) (ys : List Ed), k = xs.length - q * (2 * w) ∧ q * (2 * w) ≤ xs.length ∧ St2 T i xs.length c op ∧ gT T 6 = .int .i64 w ∧ gT T 7 = .int .i64 (q * (2 * w) : Nat) ∧ gT T 8 = .int .i64 (q * (2 * w) + 2 * w : Nat) ∧ HP (· ≠ i) H H' ∧ Row H' i false op' 66 2 (edC ys) ∧ Kp xs ys 0 xs.length ∧ (∀ p, p < q → srt ys (p * (2 * w)) (p * (2 * w) + 2 * w)) ∧ ∀ p, 2 * q ≤ p → srt ys (p * w) (min (p * w + w) xs.length)) _ ?_ xs.length _ _ ?_
  · intro k T H1 hI
    obtain ⟨q, ys, hk, hq, ⟨h0, h1, h2⟩, h6, h7, h8, hp, hrow, hkp, hst, hst2⟩ := hI
    unfold f62l2
    have hyl := hkp.len
    have Hst := Hd.mk hst
    have Hst2 := Hd.mk hst2
    clear hst hst2
    have e1 : (2 * q) * w = q * (2 * w) := by rw [Nat.mul_comm 2 q, Nat.mul_assoc]
    have e2 : (2 * q + 1) * w = q * (2 * w) + w := by rw [Nat.add_mul, e1, Nat.one_mul]
    have e3 : (q + 1) * (2 * w) = q * (2 * w) + 2 * w := by rw [Nat.add_mul, Nat.one_mul]
    have e4 : ∀ p, p < q → p * (2 * w) + 2 * w ≤ q * (2 * w) := fun p hp => by
      have := Nat.mul_le_mul_right (2 * w) (show p + 1 ≤ q from hp)
      rw [Nat.add_mul, Nat.one_mul] at this; exact this
    have e5 : ∀ p, 2 * (q + 1) ≤ p → q * (2 * w) + 2 * w ≤ p * w := fun p hp => by
      have := Nat.mul_le_mul_right w hp
      rw [Nat.mul_add, Nat.add_mul, e1] at this
      omega
    have H4 := Hd.mk e4
    have H5 := Hd.mk e5
    clear e4 e5
    by_cases hlt : q * (2 * w) + 2 * w ≤ xs.length
    · have s1 := Hst2.out (2 * q) (Nat.le_refl _)
      have s2 := Hst2.out (2 * q + 1) (by omega)
      have HK := Hd.mk (show (q + 1) * (2 * w) = q * (2 * w) + 2 * w from e3)
      rw [e1] at s1
      rw [e2] at s2
      clear e1 e2 e3
      generalize q * (2 * w) = a at *
      obtain ⟨m, hm⟩ : ∃ m : Nat, m = a + w := ⟨_, rfl⟩
      obtain ⟨b, hbb⟩ : ∃ b : Nat, b = a + 2 * w := ⟨_, rfl⟩
      rw [← hbb] at h8
      rw [show min (a + w) xs.length = m from by omega] at s1
      rw [← hm, show min (m + w) xs.length = b from by omega] at s2
      have hmi : (a : Int) + w = (m : Int) := by omega
      (repeat' (first | refine rc_reg ?_ | refine rc_seq ?_ | refine rk_done ?_ | refine rn_seq_n ?_ | refine rc_blk ?_ | refine rc_skip ?_ | refine rc_exit ?_ | refine rc_ret ?_ | refine rc_scp ?_ | refine rn_seq_e ?_ | refine rn_seq_r ?_ | refine rn_blk_n ?_ | refine rn_blk_r ?_ | refine rn_blk_e ?_ | refine rn_scp_n ?_ | refine rn_scp_e ?_ | refine rn_scp_r ?_ | refine rk_sk ?_ | refine rn_blk_x (by decide) ?_ | ((first | apply rk_mv' | apply rk_p1 | apply rk_p2 | apply rk_r1 | apply rk_ln | apply rk_ls); · (first | (simp (disch := omega) only [evl, Nat.reduceEqDiff, Nat.reduceAdd, reduceIte, reduceCtorEq, h0, h1, h2, h6, h7, h8, hmi] <;> exact rfl) | exact rfl)) | ((first | apply rc_cond | apply rk_gd); (· (first | (simp (disch := omega) only [evl, Nat.reduceEqDiff, Nat.reduceAdd, reduceIte, reduceCtorEq, h0, h1, h2, h6, h7, h8, hmi] <;> exact rfl) | exact rfl)); all_goals (intro hb; try simp only [bvl, ne_eq, Bool.not_true, Bool.not_false, reduceCtorEq, not_true_eq_false] at hb)) | (refine rk_gd_u ?_ ?_; · (first | (simp (disch := omega) only [evl, Nat.reduceEqDiff, Nat.reduceAdd, reduceIte, reduceCtorEq, h0, h1, h2, h6, h7, h8, hmi] <;> exact rfl) | exact rfl))))
      refine rk_cl (by (simp (disch := omega) only [evl, Nat.reduceEqDiff, Nat.reduceAdd, reduceIte, reduceCtorEq, h0, h1, h2, h6, h7, h8, hmi]); rw [← hyl]; exact symM_ok (b - a) H1 ys i c a m b op op' hrow (by have := hp.next; omega) (by rw [hp.lo]; exact hlo) (hp.hide.trans hh) (Nat.le_refl _) (by omega) (by omega) (by omega) (by omega) (hbd.kp hkp) s1 s2) ?_
      rintro r H2 ⟨hp2, zs, hr2, hk2, hs2⟩
      simp only [hOut_f]
      (repeat' (first | refine rc_reg ?_ | refine rc_seq ?_ | refine rk_done ?_ | refine rn_seq_n ?_ | refine rc_blk ?_ | refine rc_skip ?_ | refine rc_exit ?_ | refine rc_ret ?_ | refine rc_scp ?_ | refine rn_seq_e ?_ | refine rn_seq_r ?_ | refine rn_blk_n ?_ | refine rn_blk_r ?_ | refine rn_blk_e ?_ | refine rn_scp_n ?_ | refine rn_scp_e ?_ | refine rn_scp_r ?_ | refine rk_sk ?_ | refine rn_blk_x (by decide) ?_ | ((first | apply rk_mv' | apply rk_p1 | apply rk_p2 | apply rk_r1 | apply rk_ln | apply rk_ls); · (first | (simp (disch := omega) only [evl, Nat.reduceEqDiff, Nat.reduceAdd, reduceIte, reduceCtorEq, h6, h8] <;> exact rfl) | exact rfl)) | ((first | apply rc_cond | apply rk_gd); (· (first | (simp (disch := omega) only [evl, Nat.reduceEqDiff, Nat.reduceAdd, reduceIte, reduceCtorEq, h6, h8] <;> exact rfl) | exact rfl)); all_goals (intro hb; try simp only [bvl, ne_eq, Bool.not_true, Bool.not_false, reduceCtorEq, not_true_eq_false] at hb)) | (refine rk_gd_u ?_ ?_; · (first | (simp (disch := omega) only [evl, Nat.reduceEqDiff, Nat.reduceAdd, reduceIte, reduceCtorEq, h6, h8] <;> exact rfl) | exact rfl))))
      refine rn_nil ?_; refine lpq_n (xs.length - b) (by omega) ?_
      refine ⟨q + 1, zs, by rw [HK.out, ← hbb], by rw [HK.out, ← hbb]; omega, ⟨(by (first | (simp (disch := omega) only [evl, Nat.reduceEqDiff, Nat.reduceAdd, reduceIte, reduceCtorEq, h0] <;> exact rfl) | exact rfl)), (by (first | (simp (disch := omega) only [evl, Nat.reduceEqDiff, Nat.reduceAdd, reduceIte, reduceCtorEq, h1] <;> exact rfl) | exact rfl)), (by (first | (simp (disch := omega) only [evl, Nat.reduceEqDiff, Nat.reduceAdd, reduceIte, reduceCtorEq, h2] <;> exact rfl) | exact rfl))⟩, (by (first | (simp (disch := omega) only [evl, Nat.reduceEqDiff, Nat.reduceAdd, reduceIte, reduceCtorEq, h6] <;> exact rfl) | exact rfl)), ?_, ?_, hp.trans hp2 (r := (· ≠ i)) fun i hi h => ⟨h, h⟩, hr2, hkp.trans hk2 (Nat.le_refl _) (Nat.le_refl _) (by omega) (by omega), fun p hp => ?_, fun p hp => ?_⟩
      · rw [HK.out, ← hbb]; (simp (disch := omega) only [evl, Nat.reduceEqDiff, Nat.reduceAdd, reduceIte, reduceCtorEq, h8])
      · rw [HK.out, ← hbb]; (simp (disch := omega) only [evl, Nat.reduceEqDiff, Nat.reduceAdd, reduceIte, reduceCtorEq, h8]); rw [Int.natCast_add, Int.natCast_mul]; rfl
      · by_cases hpq : p = q
        · subst hpq
          have hx := HK.out
          rw [Nat.add_mul, Nat.one_mul] at hx
          rw [show p * (2 * w) = a from by omega, ← hbb]; exact hs2
        · exact srt_kp (Hst.out p (by omega)) hk2 (.inl (H4.out p (by omega)))
      · exact srt_kp (Hst2.out p (by omega)) hk2 (.inr (by have := H5.out p hp; omega))
    · generalize hA : q * (2 * w) = a at *
      obtain ⟨b, hbb⟩ : ∃ b : Nat, b = a + 2 * w := ⟨_, rfl⟩
      rw [← hbb] at h8
      (repeat' (first | refine rc_reg ?_ | refine rc_seq ?_ | refine rk_done ?_ | refine rn_seq_n ?_ | refine rc_blk ?_ | refine rc_skip ?_ | refine rc_exit ?_ | refine rc_ret ?_ | refine rc_scp ?_ | refine rn_seq_e ?_ | refine rn_seq_r ?_ | refine rn_blk_n ?_ | refine rn_blk_r ?_ | refine rn_blk_e ?_ | refine rn_scp_n ?_ | refine rn_scp_e ?_ | refine rn_scp_r ?_ | refine rk_sk ?_ | refine rn_blk_x (by decide) ?_ | ((first | apply rk_mv' | apply rk_p1 | apply rk_p2 | apply rk_r1 | apply rk_ln | apply rk_ls); · (first | (simp (disch := omega) only [evl, Nat.reduceEqDiff, Nat.reduceAdd, reduceIte, reduceCtorEq, h0, h1, h2, h6, h7, h8] <;> exact rfl) | exact rfl)) | ((first | apply rc_cond | apply rk_gd); (· (first | (simp (disch := omega) only [evl, Nat.reduceEqDiff, Nat.reduceAdd, reduceIte, reduceCtorEq, h0, h1, h2, h6, h7, h8] <;> exact rfl) | exact rfl)); all_goals (intro hb; try simp only [bvl, ne_eq, Bool.not_true, Bool.not_false, reduceCtorEq, not_true_eq_false] at hb)) | (refine rk_gd_u ?_ ?_; · (first | (simp (disch := omega) only [evl, Nat.reduceEqDiff, Nat.reduceAdd, reduceIte, reduceCtorEq, h0, h1, h2, h6, h7, h8] <;> exact rfl) | exact rfl))))
      refine rn_nil ?_; refine lpq_e ?_
      exact ⟨rfl, ⟨(by (first | (simp (disch := omega) only [evl, Nat.reduceEqDiff, Nat.reduceAdd, reduceIte, reduceCtorEq, h0] <;> exact rfl) | exact rfl)), (by (first | (simp (disch := omega) only [evl, Nat.reduceEqDiff, Nat.reduceAdd, reduceIte, reduceCtorEq, h1] <;> exact rfl) | exact rfl)), (by (first | (simp (disch := omega) only [evl, Nat.reduceEqDiff, Nat.reduceAdd, reduceIte, reduceCtorEq, h2] <;> exact rfl) | exact rfl))⟩, (by (first | (simp (disch := omega) only [evl, Nat.reduceEqDiff, Nat.reduceAdd, reduceIte, reduceCtorEq, h6] <;> exact rfl) | exact rfl)), hp, q, ys, by rw [hA]; (first | (simp (disch := omega) only [evl, Nat.reduceEqDiff, Nat.reduceAdd, reduceIte, reduceCtorEq, h7] <;> exact rfl) | exact rfl), by omega, by omega, hrow, hkp, Hst.out, Hst2.out⟩
  · refine ⟨0, xs, by omega, by omega, hT, h6, by rw [Nat.zero_mul]; exact h7, by rw [Nat.zero_mul, Nat.zero_add]; exact h8, HP.refl _ _, hr, Kp.refl _ _ _, fun p hp => by omega, fun p _ => hbs p⟩
end Go.Proofs.Ytnkomaedmblemaa

set_option linter.unusedSimpArgs false
set_option linter.unusedVariables false
set_option maxRecDepth 100000
namespace Go.Proofs.Ytnkomaedmblemaa
open Go.Ev Exl

set_option maxHeartbeats 8000000 in
theorem sloop1_ok (T : Tr AV) (H : AH) (xs : List Ed) (i c : Nat) (op op' : Bool) (hT : St2 T i xs.length c op) (h6 : gT T 6 = .int .i64 20)
    (hr : Row H i false op' 66 2 (edC xs)) (hi : i < H.next) (hlo : H.lo ≤ i) (hh : H.hide = []) (hl : xs.length ≤ 1000000) (hbd : Bd xs) (hbs : bsrt xs 20 xs.length) :
    LpE look f62b1 T H fun ex T' H' => ex = .exit 2 ∧ HP (· ≠ i) H H' ∧ ∃ ys, Row H' i false op' 66 2 (edC ys) ∧ Kp xs ys 0 xs.length ∧ srt ys 0 xs.length := by
  refine lp_ind f62l1_eq (fun k T H' => ∃ (w : Nat) (ys : List Ed), k = xs.length - w ∧ 1 ≤ w ∧ St2 T i xs.length c op ∧ gT T 6 = .int .i64 w ∧ HP (· ≠ i) H H' ∧ Row H' i false op' 66 2 (edC ys) ∧ Kp xs ys 0 xs.length ∧ bsrt ys w xs.length) _ ?_ (xs.length - 20) _ _ ?_
  · intro k T H1 hI
    obtain ⟨w, ys, hk, hw, ⟨h0, h1, h2⟩, h6, hp, hrow, hkp, hbs⟩ := hI
    unfold f62l1
    have hyl := hkp.len
    by_cases hlt : w < xs.length
    · have h2w : (2 : Int) * w = ((2 * w : Nat) : Int) := by omega
      (repeat' (first | refine rc_reg ?_ | refine rc_seq ?_ | refine rk_done ?_ | refine rn_seq_n ?_ | refine rc_blk ?_ | refine rc_skip ?_ | refine rc_exit ?_ | refine rc_ret ?_ | refine rc_scp ?_ | refine rn_seq_e ?_ | refine rn_seq_r ?_ | refine rn_blk_n ?_ | refine rn_blk_r ?_ | refine rn_blk_e ?_ | refine rn_scp_n ?_ | refine rn_scp_e ?_ | refine rn_scp_r ?_ | refine rk_sk ?_ | refine rn_blk_x (by decide) ?_ | ((first | apply rk_mv' | apply rk_p1 | apply rk_p2 | apply rk_r1 | apply rk_ln | apply rk_ls); · (first | (simp (disch := omega) only [evl, Nat.reduceEqDiff, Nat.reduceAdd, reduceIte, reduceCtorEq, h0, h1, h2, h6, h2w] <;> exact rfl) | exact rfl)) | ((first | apply rc_cond | apply rk_gd); (· (first | (simp (disch := omega) only [evl, Nat.reduceEqDiff, Nat.reduceAdd, reduceIte, reduceCtorEq, h0, h1, h2, h6, h2w] <;> exact rfl) | exact rfl)); all_goals (intro hb; try simp only [bvl, ne_eq, Bool.not_true, Bool.not_false, reduceCtorEq, not_true_eq_false] at hb)) | (refine rk_gd_u ?_ ?_; · (first | (simp (disch := omega) only [evl, Nat.reduceEqDiff, Nat.reduceAdd, reduceIte, reduceCtorEq, h0, h1, h2, h6, h2w] <;> exact rfl) | exact rfl))))
      refine rc_loop (sloop2_ok _ H1 ys i c w op op' (by rw [hyl]; exact ⟨(by (first | (simp (disch := omega) only [evl, Nat.reduceEqDiff, Nat.reduceAdd, reduceIte, reduceCtorEq, h0] <;> exact rfl) | exact rfl)), (by (first | (simp (disch := omega) only [evl, Nat.reduceEqDiff, Nat.reduceAdd, reduceIte, reduceCtorEq, h1] <;> exact rfl) | exact rfl)), (by (first | (simp (disch := omega) only [evl, Nat.reduceEqDiff, Nat.reduceAdd, reduceIte, reduceCtorEq, h2] <;> exact rfl) | exact rfl))⟩) (by (first | (simp (disch := omega) only [evl, Nat.reduceEqDiff, Nat.reduceAdd, reduceIte, reduceCtorEq, h6] <;> exact rfl) | exact rfl)) (by (first | (simp (disch := omega) only [evl, Nat.reduceEqDiff, Nat.reduceAdd, reduceIte, reduceCtorEq] <;> exact rfl) | exact rfl)) (by (first | (simp (disch := omega) only [evl, Nat.reduceEqDiff, Nat.reduceAdd, reduceIte, reduceCtorEq] <;> exact rfl) | exact rfl)) hrow (by have := hp.next; omega) (by rw [hp.lo]; exact hlo) (hp.hide.trans hh) (by omega) (hbd.kp hkp) hw (by omega) (by rw [hyl]; exact hbs)) ?_
      rintro ex T' H2 ⟨rfl, ht, h6, hp2, q, zs, h7, hq1, hq2, hr2, hk2, hst, hst2⟩
      rw [hyl] at ht hq1 hq2 hst2 hk2
      obtain ⟨h0, h1, h2⟩ := ht
      have hzl := hk2.len.trans hyl
      have hpA := hp.trans hp2 (r := (· ≠ i)) fun i hi h => ⟨h, h⟩
      have hkA := hkp.trans hk2 (a := 0) (b := xs.length) (Nat.le_refl _) (Nat.le_refl _) (Nat.le_refl _) (Nat.le_refl _)
      have e1 : (2 * q) * w = q * (2 * w) := by rw [Nat.mul_comm 2 q, Nat.mul_assoc]
      have e2 : (2 * q + 1) * w = q * (2 * w) + w := by rw [Nat.add_mul, e1, Nat.one_mul]
      have H4 : Hd (∀ p, p < q → p * (2 * w) + 2 * w ≤ q * (2 * w)) := Hd.mk fun p hp => by
        have := Nat.mul_le_mul_right (2 * w) (show p + 1 ≤ q from hp)
        rw [Nat.add_mul, Nat.one_mul] at this; exact this
      have H5 : Hd (∀ p, q < p → q * (2 * w) + 2 * w ≤ p * (2 * w)) := Hd.mk fun p hp => by
        have := Nat.mul_le_mul_right (2 * w) (show q + 1 ≤ p from hp)
        rw [Nat.add_mul, Nat.one_mul] at this; exact this
      have s1 := hst2 (2 * q) (Nat.le_refl _)
      have s2 := hst2 (2 * q + 1) (by omega)
      rw [e1] at s1
      rw [e2] at s2
      have Hst := Hd.mk hst
      clear hst hst2 e1 e2
      have HA : Hd (∀ p, p * (2 * w) = p * (2 * w)) := Hd.mk fun _ => rfl
      obtain ⟨a, ha⟩ : ∃ a : Nat, a = q * (2 * w) := ⟨_, rfl⟩
      obtain ⟨m, hm⟩ : ∃ m : Nat, m = a + w := ⟨_, rfl⟩
      have Ha := Hd.mk ha
      rw [← ha] at h7 hq1 hq2 s1 s2
      rw [← hm] at s1 s2
      -- what comes of it
      have fin : ∀ us, Kp zs us a xs.length → srt us a xs.length → bsrt us (w * 2) xs.length := fun us hk hs p => by
        rw [Nat.mul_comm w 2]
        rcases Nat.lt_trichotomy p q with hpq | hpq | hpq
        · have h4 := H4.out p hpq
          rw [← Ha.out] at h4
          rw [show min (p * (2 * w) + 2 * w) xs.length = p * (2 * w) + 2 * w from by omega]
          exact srt_kp (Hst.out p hpq) hk (.inl h4)
        · subst hpq
          rw [← Ha.out, show min (a + 2 * w) xs.length = xs.length from by omega]
          exact hs
        · have h5 := H5.out p hpq
          rw [← Ha.out] at h5
          intro s t g1 g2 g3
          omega
      have Hfin := Hd.mk fin
      clear fin HA ha
      have hmi : (a : Int) + w = (m : Int) := by omega
      have hw2 : (w : Int) * 2 = ((w * 2 : Nat) : Int) := by omega
      by_cases hmn : m < xs.length
      · rw [show min m xs.length = m from by omega] at s1
        rw [show min (m + w) xs.length = xs.length from by omega] at s2
        (repeat' (first | refine rc_reg ?_ | refine rc_seq ?_ | refine rk_done ?_ | refine rn_seq_n ?_ | refine rc_blk ?_ | refine rc_skip ?_ | refine rc_exit ?_ | refine rc_ret ?_ | refine rc_scp ?_ | refine rn_seq_e ?_ | refine rn_seq_r ?_ | refine rn_blk_n ?_ | refine rn_blk_r ?_ | refine rn_blk_e ?_ | refine rn_scp_n ?_ | refine rn_scp_e ?_ | refine rn_scp_r ?_ | refine rk_sk ?_ | refine rn_blk_x (by decide) ?_ | ((first | apply rk_mv' | apply rk_p1 | apply rk_p2 | apply rk_r1 | apply rk_ln | apply rk_ls); · (first | (simp (disch := omega) only [evl, Nat.reduceEqDiff, Nat.reduceAdd, reduceIte, reduceCtorEq, h0, h1, h2, h6, h7, hmi] <;> exact rfl) | exact rfl)) | ((first | apply rc_cond | apply rk_gd); (· (first | (simp (disch := omega) only [evl, Nat.reduceEqDiff, Nat.reduceAdd, reduceIte, reduceCtorEq, h0, h1, h2, h6, h7, hmi] <;> exact rfl) | exact rfl)); all_goals (intro hb; try simp only [bvl, ne_eq, Bool.not_true, Bool.not_false, reduceCtorEq, not_true_eq_false] at hb)) | (refine rk_gd_u ?_ ?_; · (first | (simp (disch := omega) only [evl, Nat.reduceEqDiff, Nat.reduceAdd, reduceIte, reduceCtorEq, h0, h1, h2, h6, h7, hmi] <;> exact rfl) | exact rfl))))
        refine rk_cl (by (simp (disch := omega) only [evl, Nat.reduceEqDiff, Nat.reduceAdd, reduceIte, reduceCtorEq, h0, h1, h2, h6, h7, hmi]); rw [← hzl]; exact symM_ok (zs.length - a) H2 zs i c a m zs.length op op' hr2 (by have := hpA.next; omega) (by rw [hpA.lo]; exact hlo) (hpA.hide.trans hh) (Nat.le_refl _) (by omega) (by omega) (Nat.le_refl _) (by omega) (hbd.kp hkA) s1 (by rw [hzl]; exact s2)) ?_
        rintro r H3 ⟨hp3, us, hr3, hk3, hs3⟩
        rw [hzl] at hk3 hs3
        simp only [hOut_f]
        (repeat' (first | refine rc_reg ?_ | refine rc_seq ?_ | refine rk_done ?_ | refine rn_seq_n ?_ | refine rc_blk ?_ | refine rc_skip ?_ | refine rc_exit ?_ | refine rc_ret ?_ | refine rc_scp ?_ | refine rn_seq_e ?_ | refine rn_seq_r ?_ | refine rn_blk_n ?_ | refine rn_blk_r ?_ | refine rn_blk_e ?_ | refine rn_scp_n ?_ | refine rn_scp_e ?_ | refine rn_scp_r ?_ | refine rk_sk ?_ | refine rn_blk_x (by decide) ?_ | ((first | apply rk_mv' | apply rk_p1 | apply rk_p2 | apply rk_r1 | apply rk_ln | apply rk_ls); · (first | (simp (disch := omega) only [evl, Nat.reduceEqDiff, Nat.reduceAdd, reduceIte, reduceCtorEq, h6, hw2] <;> exact rfl) | exact rfl)) | ((first | apply rc_cond | apply rk_gd); (· (first | (simp (disch := omega) only [evl, Nat.reduceEqDiff, Nat.reduceAdd, reduceIte, reduceCtorEq, h6, hw2] <;> exact rfl) | exact rfl)); all_goals (intro hb; try simp only [bvl, ne_eq, Bool.not_true, Bool.not_false, reduceCtorEq, not_true_eq_false] at hb)) | (refine rk_gd_u ?_ ?_; · (first | (simp (disch := omega) only [evl, Nat.reduceEqDiff, Nat.reduceAdd, reduceIte, reduceCtorEq, h6, hw2] <;> exact rfl) | exact rfl))))
        refine rn_nil ?_; refine lpq_n (xs.length - w * 2) (by omega) ?_
        exact ⟨w * 2, us, rfl, by omega, ⟨(by (first | (simp (disch := omega) only [evl, Nat.reduceEqDiff, Nat.reduceAdd, reduceIte, reduceCtorEq, h0] <;> exact rfl) | exact rfl)), (by (first | (simp (disch := omega) only [evl, Nat.reduceEqDiff, Nat.reduceAdd, reduceIte, reduceCtorEq, h1] <;> exact rfl) | exact rfl)), (by (first | (simp (disch := omega) only [evl, Nat.reduceEqDiff, Nat.reduceAdd, reduceIte, reduceCtorEq, h2] <;> exact rfl) | exact rfl))⟩, (by (first | (simp (disch := omega) only [evl, Nat.reduceEqDiff, Nat.reduceAdd, reduceIte, reduceCtorEq] <;> exact rfl) | exact rfl)), hpA.trans hp3 (r := (· ≠ i)) fun i hi h => ⟨h, h⟩, hr3, hkA.trans hk3 (Nat.le_refl _) (Nat.le_refl _) (Nat.zero_le _) (Nat.le_refl _), Hfin.out us hk3 hs3⟩
      · rw [show min m xs.length = xs.length from by omega] at s1
        (repeat' (first | refine rc_reg ?_ | refine rc_seq ?_ | refine rk_done ?_ | refine rn_seq_n ?_ | refine rc_blk ?_ | refine rc_skip ?_ | refine rc_exit ?_ | refine rc_ret ?_ | refine rc_scp ?_ | refine rn_seq_e ?_ | refine rn_seq_r ?_ | refine rn_blk_n ?_ | refine rn_blk_r ?_ | refine rn_blk_e ?_ | refine rn_scp_n ?_ | refine rn_scp_e ?_ | refine rn_scp_r ?_ | refine rk_sk ?_ | refine rn_blk_x (by decide) ?_ | ((first | apply rk_mv' | apply rk_p1 | apply rk_p2 | apply rk_r1 | apply rk_ln | apply rk_ls); · (first | (simp (disch := omega) only [evl, Nat.reduceEqDiff, Nat.reduceAdd, reduceIte, reduceCtorEq, h0, h1, h2, h6, h7, hmi, hw2] <;> exact rfl) | exact rfl)) | ((first | apply rc_cond | apply rk_gd); (· (first | (simp (disch := omega) only [evl, Nat.reduceEqDiff, Nat.reduceAdd, reduceIte, reduceCtorEq, h0, h1, h2, h6, h7, hmi, hw2] <;> exact rfl) | exact rfl)); all_goals (intro hb; try simp only [bvl, ne_eq, Bool.not_true, Bool.not_false, reduceCtorEq, not_true_eq_false] at hb)) | (refine rk_gd_u ?_ ?_; · (first | (simp (disch := omega) only [evl, Nat.reduceEqDiff, Nat.reduceAdd, reduceIte, reduceCtorEq, h0, h1, h2, h6, h7, hmi, hw2] <;> exact rfl) | exact rfl))))
        refine rn_nil ?_; refine lpq_n (xs.length - w * 2) (by omega) ?_
        exact ⟨w * 2, zs, rfl, by omega, ⟨(by (first | (simp (disch := omega) only [evl, Nat.reduceEqDiff, Nat.reduceAdd, reduceIte, reduceCtorEq, h0] <;> exact rfl) | exact rfl)), (by (first | (simp (disch := omega) only [evl, Nat.reduceEqDiff, Nat.reduceAdd, reduceIte, reduceCtorEq, h1] <;> exact rfl) | exact rfl)), (by (first | (simp (disch := omega) only [evl, Nat.reduceEqDiff, Nat.reduceAdd, reduceIte, reduceCtorEq, h2] <;> exact rfl) | exact rfl))⟩, (by (first | (simp (disch := omega) only [evl, Nat.reduceEqDiff, Nat.reduceAdd, reduceIte, reduceCtorEq] <;> exact rfl) | exact rfl)), hpA, hr2, hkA, Hfin.out zs (Kp.refl _ _ _) s1⟩
    · (repeat' (first | refine rc_reg ?_ | refine rc_seq ?_ | refine rk_done ?_ | refine rn_seq_n ?_ | refine rc_blk ?_ | refine rc_skip ?_ | refine rc_exit ?_ | refine rc_ret ?_ | refine rc_scp ?_ | refine rn_seq_e ?_ | refine rn_seq_r ?_ | refine rn_blk_n ?_ | refine rn_blk_r ?_ | refine rn_blk_e ?_ | refine rn_scp_n ?_ | refine rn_scp_e ?_ | refine rn_scp_r ?_ | refine rk_sk ?_ | refine rn_blk_x (by decide) ?_ | ((first | apply rk_mv' | apply rk_p1 | apply rk_p2 | apply rk_r1 | apply rk_ln | apply rk_ls); · (first | (simp (disch := omega) only [evl, Nat.reduceEqDiff, Nat.reduceAdd, reduceIte, reduceCtorEq, h0, h1, h2, h6] <;> exact rfl) | exact rfl)) | ((first | apply rc_cond | apply rk_gd); (· (first | (simp (disch := omega) only [evl, Nat.reduceEqDiff, Nat.reduceAdd, reduceIte, reduceCtorEq, h0, h1, h2, h6] <;> exact rfl) | exact rfl)); all_goals (intro hb; try simp only [bvl, ne_eq, Bool.not_true, Bool.not_false, reduceCtorEq, not_true_eq_false] at hb)) | (refine rk_gd_u ?_ ?_; · (first | (simp (disch := omega) only [evl, Nat.reduceEqDiff, Nat.reduceAdd, reduceIte, reduceCtorEq, h0, h1, h2, h6] <;> exact rfl) | exact rfl))))
      refine rn_nil ?_; refine lpq_e ?_
      refine ⟨rfl, hp, ys, hrow, hkp, ?_⟩
      have := hbs 0
      rw [Nat.zero_mul, Nat.zero_add, show min w xs.length = xs.length from by omega] at this
      exact this
  · exact ⟨20, xs, rfl, by omega, hT, h6, HP.refl _ _, hr, Kp.refl _ _ _, hbs⟩

set_option maxHeartbeats 8000000 in
theorem stable_ok (H : AH) (xs : List Ed) (i c : Nat) (op op' : Bool)
    (hr : Row H i false op' 66 2 (edC xs)) (hi : i < H.next) (hlo : H.lo ≤ i) (hh : H.hide = []) (hl : xs.length ≤ 1000000) (hbd : Bd xs) :
    FnE look 62 [.sl i 0 xs.length c op, .int .i64 xs.length, .fn (.func 58) [] []] H fun r H' => HP (· ≠ i) H H' ∧ ∃ ys, Row H' i false op' 66 2 (edC ys) ∧ Kp xs ys 0 xs.length ∧ srt ys 0 xs.length := by
  refine fn_intro f62_eq (noext rfl) rfl ?_
  unfold f62c
  (repeat' (first | refine rc_reg ?_ | refine rc_seq ?_ | refine rk_done ?_ | refine rn_seq_n ?_ | refine rc_blk ?_ | refine rc_skip ?_ | refine rc_exit ?_ | refine rc_ret ?_ | refine rc_scp ?_ | refine rn_seq_e ?_ | refine rn_seq_r ?_ | refine rn_blk_n ?_ | refine rn_blk_r ?_ | refine rn_blk_e ?_ | refine rn_scp_n ?_ | refine rn_scp_e ?_ | refine rn_scp_r ?_ | refine rk_sk ?_ | refine rn_blk_x (by decide) ?_ | ((first | apply rk_mv' | apply rk_p1 | apply rk_p2 | apply rk_r1 | apply rk_ln | apply rk_ls); · (first | (simp (disch := omega) only [evl, Nat.reduceEqDiff, Nat.reduceAdd, reduceIte, reduceCtorEq] <;> exact rfl) | exact rfl)) | ((first | apply rc_cond | apply rk_gd); (· (first | (simp (disch := omega) only [evl, Nat.reduceEqDiff, Nat.reduceAdd, reduceIte, reduceCtorEq] <;> exact rfl) | exact rfl)); all_goals (intro hb; try simp only [bvl, ne_eq, Bool.not_true, Bool.not_false, reduceCtorEq, not_true_eq_false] at hb)) | (refine rk_gd_u ?_ ?_; · (first | (simp (disch := omega) only [evl, Nat.reduceEqDiff, Nat.reduceAdd, reduceIte, reduceCtorEq] <;> exact rfl) | exact rfl))))
  refine rc_loop (sloop0_ok _ H xs i c op op' ⟨(by (first | (simp (disch := omega) only [evl, Nat.reduceEqDiff, Nat.reduceAdd, reduceIte, reduceCtorEq] <;> exact rfl) | exact rfl)), (by (first | (simp (disch := omega) only [evl, Nat.reduceEqDiff, Nat.reduceAdd, reduceIte, reduceCtorEq] <;> exact rfl) | exact rfl)), (by (first | (simp (disch := omega) only [evl, Nat.reduceEqDiff, Nat.reduceAdd, reduceIte, reduceCtorEq] <;> exact rfl) | exact rfl))⟩ (by (first | (simp (disch := omega) only [evl, Nat.reduceEqDiff, Nat.reduceAdd, reduceIte, reduceCtorEq] <;> exact rfl) | exact rfl)) (by (first | (simp (disch := omega) only [evl, Nat.reduceEqDiff, Nat.reduceAdd, reduceIte, reduceCtorEq] <;> exact rfl) | exact rfl)) (by (first | (simp (disch := omega) only [evl, Nat.reduceEqDiff, Nat.reduceAdd, reduceIte, reduceCtorEq] <;> exact rfl) | exact rfl)) hr hi hlo hh hl hbd) ?_
  rintro ex T' H1 ⟨rfl, ⟨h0, h1, h2⟩, h6, hp, q, ys, h7, hq1, hq2, hrow, hkp, hst⟩
  have hyl := hkp.len
  have Hst := Hd.mk hst
  clear hst
  obtain ⟨a, ha⟩ : ∃ a : Nat, a = q * 20 := ⟨_, rfl⟩
  rw [← ha] at h7 hq1 hq2
  (repeat' (first | refine rc_reg ?_ | refine rc_seq ?_ | refine rk_done ?_ | refine rn_seq_n ?_ | refine rc_blk ?_ | refine rc_skip ?_ | refine rc_exit ?_ | refine rc_ret ?_ | refine rc_scp ?_ | refine rn_seq_e ?_ | refine rn_seq_r ?_ | refine rn_blk_n ?_ | refine rn_blk_r ?_ | refine rn_blk_e ?_ | refine rn_scp_n ?_ | refine rn_scp_e ?_ | refine rn_scp_r ?_ | refine rk_sk ?_ | refine rn_blk_x (by decide) ?_ | ((first | apply rk_mv' | apply rk_p1 | apply rk_p2 | apply rk_r1 | apply rk_ln | apply rk_ls); · (first | (simp (disch := omega) only [evl, Nat.reduceEqDiff, Nat.reduceAdd, reduceIte, reduceCtorEq, h0, h1, h2, h6, h7] <;> exact rfl) | exact rfl)) | ((first | apply rc_cond | apply rk_gd); (· (first | (simp (disch := omega) only [evl, Nat.reduceEqDiff, Nat.reduceAdd, reduceIte, reduceCtorEq, h0, h1, h2, h6, h7] <;> exact rfl) | exact rfl)); all_goals (intro hb; try simp only [bvl, ne_eq, Bool.not_true, Bool.not_false, reduceCtorEq, not_true_eq_false] at hb)) | (refine rk_gd_u ?_ ?_; · (first | (simp (disch := omega) only [evl, Nat.reduceEqDiff, Nat.reduceAdd, reduceIte, reduceCtorEq, h0, h1, h2, h6, h7] <;> exact rfl) | exact rfl))))
  refine rk_cl (by (simp (disch := omega) only [evl, Nat.reduceEqDiff, Nat.reduceAdd, reduceIte, reduceCtorEq, h0, h1, h2, h6, h7]); rw [← hyl]; exact insS_ok H1 ys i c a ys.length op op' hrow (by have := hp.next; omega) (by rw [hp.lo]; exact hlo) (hp.hide.trans hh) (by omega) (Nat.le_refl _) (by omega) (hbd.kp hkp)) ?_
  rintro r H2 ⟨hp2, zs, hr2, hk2, hs2⟩
  rw [hyl] at hk2 hs2
  have hzl := hk2.len.trans hyl
  simp only [hOut_f]
  have hpA := hp.trans hp2 (r := (· ≠ i)) fun i hi h => ⟨h, h⟩
  have hkA := hkp.trans hk2 (a := 0) (b := xs.length) (Nat.le_refl _) (Nat.le_refl _) (Nat.zero_le _) (Nat.le_refl _)
  (repeat' (first | refine rc_reg ?_ | refine rc_seq ?_ | refine rk_done ?_ | refine rn_seq_n ?_ | refine rc_blk ?_ | refine rc_skip ?_ | refine rc_exit ?_ | refine rc_ret ?_ | refine rc_scp ?_ | refine rn_seq_e ?_ | refine rn_seq_r ?_ | refine rn_blk_n ?_ | refine rn_blk_r ?_ | refine rn_blk_e ?_ | refine rn_scp_n ?_ | refine rn_scp_e ?_ | refine rn_scp_r ?_ | refine rk_sk ?_ | refine rn_blk_x (by decide) ?_ | ((first | apply rk_mv' | apply rk_p1 | apply rk_p2 | apply rk_r1 | apply rk_ln | apply rk_ls); · (first | (simp (disch := omega) only [evl, Nat.reduceEqDiff, Nat.reduceAdd, reduceIte, reduceCtorEq] <;> exact rfl) | exact rfl)) | ((first | apply rc_cond | apply rk_gd); (· (first | (simp (disch := omega) only [evl, Nat.reduceEqDiff, Nat.reduceAdd, reduceIte, reduceCtorEq] <;> exact rfl) | exact rfl)); all_goals (intro hb; try simp only [bvl, ne_eq, Bool.not_true, Bool.not_false, reduceCtorEq, not_true_eq_false] at hb)) | (refine rk_gd_u ?_ ?_; · (first | (simp (disch := omega) only [evl, Nat.reduceEqDiff, Nat.reduceAdd, reduceIte, reduceCtorEq] <;> exact rfl) | exact rfl))))
  refine rc_loop (sloop1_ok _ H2 zs i c op op' (by rw [hkA.len]; exact ⟨(by (first | (simp (disch := omega) only [evl, Nat.reduceEqDiff, Nat.reduceAdd, reduceIte, reduceCtorEq, h0] <;> exact rfl) | exact rfl)), (by (first | (simp (disch := omega) only [evl, Nat.reduceEqDiff, Nat.reduceAdd, reduceIte, reduceCtorEq, h1] <;> exact rfl) | exact rfl)), (by (first | (simp (disch := omega) only [evl, Nat.reduceEqDiff, Nat.reduceAdd, reduceIte, reduceCtorEq, h2] <;> exact rfl) | exact rfl))⟩) (by (first | (simp (disch := omega) only [evl, Nat.reduceEqDiff, Nat.reduceAdd, reduceIte, reduceCtorEq, h6] <;> exact rfl) | exact rfl)) hr2 (by have := hpA.next; omega) (by rw [hpA.lo]; exact hlo) (hpA.hide.trans hh) (by rw [hkA.len]; exact hl) (hbd.kp hkA) ?_) ?_
  · rw [hkA.len]
    intro p s t g1 g2 g3
    by_cases hpq : p < q
    · exact srt_kp (Hst.out p hpq) hk2 (.inl (by omega)) s t g1 g2 (by omega)
    · exact hs2 s t (by omega) g2 (by omega)
  · rintro ex T'' H3 ⟨rfl, hp3, us, hr3, hk3, hs3⟩
    rw [hkA.len] at hk3 hs3
    (repeat' (first | refine rc_reg ?_ | refine rc_seq ?_ | refine rk_done ?_ | refine rn_seq_n ?_ | refine rc_blk ?_ | refine rc_skip ?_ | refine rc_exit ?_ | refine rc_ret ?_ | refine rc_scp ?_ | refine rn_seq_e ?_ | refine rn_seq_r ?_ | refine rn_blk_n ?_ | refine rn_blk_r ?_ | refine rn_blk_e ?_ | refine rn_scp_n ?_ | refine rn_scp_e ?_ | refine rn_scp_r ?_ | refine rk_sk ?_ | refine rn_blk_x (by decide) ?_ | ((first | apply rk_mv' | apply rk_p1 | apply rk_p2 | apply rk_r1 | apply rk_ln | apply rk_ls); · (first | (simp (disch := omega) only [evl, Nat.reduceEqDiff, Nat.reduceAdd, reduceIte, reduceCtorEq] <;> exact rfl) | exact rfl)) | ((first | apply rc_cond | apply rk_gd); (· (first | (simp (disch := omega) only [evl, Nat.reduceEqDiff, Nat.reduceAdd, reduceIte, reduceCtorEq] <;> exact rfl) | exact rfl)); all_goals (intro hb; try simp only [bvl, ne_eq, Bool.not_true, Bool.not_false, reduceCtorEq, not_true_eq_false] at hb)) | (refine rk_gd_u ?_ ?_; · (first | (simp (disch := omega) only [evl, Nat.reduceEqDiff, Nat.reduceAdd, reduceIte, reduceCtorEq] <;> exact rfl) | exact rfl))))
    refine rn_nil ?_; exact fq_nor (resV_0 _) ⟨hpA.trans hp3 (r := (· ≠ i)) fun i hi h => ⟨h, h⟩, us, hr3, hkA.trans hk3 (Nat.le_refl _) (Nat.le_refl _) (Nat.le_refl _) (Nat.le_refl _), hs3⟩

/-- slices.SortStableFunc of edges. -/
theorem sortS_ok (H : AH) (v : AV) (xs : List Ed) (N : Nat) (hap : Ap H v xs.length (edC xs) 66 2 N) (hlo : H.lo ≤ N) (hh : H.hide = []) (hl : xs.length ≤ 1000000) (hbd : Bd xs) :
    FnE look 57 [v, .fn (.func 58) [] []] H fun r H' => HP (fun j => j < N) H H' ∧ ∃ ys, Ap H' v xs.length (edC ys) 66 2 N ∧ ys.Perm xs ∧ srt ys 0 xs.length := by
  refine fn_intro f57_eq (noext rfl) rfl ?_
  unfold f57c
  have hlens : ∀ H', fstO (builtinF .len look [63] [v] H') = some (.int .i64 xs.length) := fun H' => len_el u63 hap.isSl
  have hlen := hap.1
  rcases hap.2 with ⟨rfl, h0⟩ | ⟨i, rfl, hrow, hNi, hin⟩
  · rw [h0] at hlens
    (repeat' (first | refine rc_reg ?_ | refine rc_seq ?_ | refine rk_done ?_ | refine rn_seq_n ?_ | refine rc_blk ?_ | refine rc_skip ?_ | refine rc_exit ?_ | refine rc_ret ?_ | refine rc_scp ?_ | refine rn_seq_e ?_ | refine rn_seq_r ?_ | refine rn_blk_n ?_ | refine rn_blk_r ?_ | refine rn_blk_e ?_ | refine rn_scp_n ?_ | refine rn_scp_e ?_ | refine rn_scp_r ?_ | refine rk_sk ?_ | refine rn_blk_x (by decide) ?_ | ((first | apply rk_mv' | apply rk_p1 | apply rk_p2 | apply rk_r1 | apply rk_ln | apply rk_ls); · (first | (simp (disch := omega) only [evl, Nat.reduceEqDiff, Nat.reduceAdd, reduceIte, reduceCtorEq, hlens] <;> exact rfl) | exact rfl)) | ((first | apply rc_cond | apply rk_gd); (· (first | (simp (disch := omega) only [evl, Nat.reduceEqDiff, Nat.reduceAdd, reduceIte, reduceCtorEq, hlens] <;> exact rfl) | exact rfl)); all_goals (intro hb; try simp only [bvl, ne_eq, Bool.not_true, Bool.not_false, reduceCtorEq, not_true_eq_false] at hb)) | (refine rk_gd_u ?_ ?_; · (first | (simp (disch := omega) only [evl, Nat.reduceEqDiff, Nat.reduceAdd, reduceIte, reduceCtorEq, hlens] <;> exact rfl) | exact rfl))))
    refine rk_cl (by (simp (disch := omega) only [evl, Nat.reduceEqDiff, Nat.reduceAdd, reduceIte, reduceCtorEq]); exact stable_nil H) ?_
    rintro r H1 rfl
    simp only [hOut_f]
    (repeat' (first | refine rc_reg ?_ | refine rc_seq ?_ | refine rk_done ?_ | refine rn_seq_n ?_ | refine rc_blk ?_ | refine rc_skip ?_ | refine rc_exit ?_ | refine rc_ret ?_ | refine rc_scp ?_ | refine rn_seq_e ?_ | refine rn_seq_r ?_ | refine rn_blk_n ?_ | refine rn_blk_r ?_ | refine rn_blk_e ?_ | refine rn_scp_n ?_ | refine rn_scp_e ?_ | refine rn_scp_r ?_ | refine rk_sk ?_ | refine rn_blk_x (by decide) ?_ | ((first | apply rk_mv' | apply rk_p1 | apply rk_p2 | apply rk_r1 | apply rk_ln | apply rk_ls); · (first | (simp (disch := omega) only [evl, Nat.reduceEqDiff, Nat.reduceAdd, reduceIte, reduceCtorEq] <;> exact rfl) | exact rfl)) | ((first | apply rc_cond | apply rk_gd); (· (first | (simp (disch := omega) only [evl, Nat.reduceEqDiff, Nat.reduceAdd, reduceIte, reduceCtorEq] <;> exact rfl) | exact rfl)); all_goals (intro hb; try simp only [bvl, ne_eq, Bool.not_true, Bool.not_false, reduceCtorEq, not_true_eq_false] at hb)) | (refine rk_gd_u ?_ ?_; · (first | (simp (disch := omega) only [evl, Nat.reduceEqDiff, Nat.reduceAdd, reduceIte, reduceCtorEq] <;> exact rfl) | exact rfl))))
    refine rn_nil ?_; exact fq_nor (resV_0 _) ⟨HP.refl _ _, xs, hap, List.Perm.refl _, fun s t _ _ h => by omega⟩
  · (repeat' (first | refine rc_reg ?_ | refine rc_seq ?_ | refine rk_done ?_ | refine rn_seq_n ?_ | refine rc_blk ?_ | refine rc_skip ?_ | refine rc_exit ?_ | refine rc_ret ?_ | refine rc_scp ?_ | refine rn_seq_e ?_ | refine rn_seq_r ?_ | refine rn_blk_n ?_ | refine rn_blk_r ?_ | refine rn_blk_e ?_ | refine rn_scp_n ?_ | refine rn_scp_e ?_ | refine rn_scp_r ?_ | refine rk_sk ?_ | refine rn_blk_x (by decide) ?_ | ((first | apply rk_mv' | apply rk_p1 | apply rk_p2 | apply rk_r1 | apply rk_ln | apply rk_ls); · (first | (simp (disch := omega) only [evl, Nat.reduceEqDiff, Nat.reduceAdd, reduceIte, reduceCtorEq, hlens] <;> exact rfl) | exact rfl)) | ((first | apply rc_cond | apply rk_gd); (· (first | (simp (disch := omega) only [evl, Nat.reduceEqDiff, Nat.reduceAdd, reduceIte, reduceCtorEq, hlens] <;> exact rfl) | exact rfl)); all_goals (intro hb; try simp only [bvl, ne_eq, Bool.not_true, Bool.not_false, reduceCtorEq, not_true_eq_false] at hb)) | (refine rk_gd_u ?_ ?_; · (first | (simp (disch := omega) only [evl, Nat.reduceEqDiff, Nat.reduceAdd, reduceIte, reduceCtorEq, hlens] <;> exact rfl) | exact rfl))))
    refine rk_cl (by (simp (disch := omega) only [evl, Nat.reduceEqDiff, Nat.reduceAdd, reduceIte, reduceCtorEq]); exact stable_ok H xs i _ _ _ hrow hin (by omega) hh hl hbd) ?_
    rintro r H1 ⟨hp, ys, hr1, hkp, hs⟩
    simp only [hOut_f]
    (repeat' (first | refine rc_reg ?_ | refine rc_seq ?_ | refine rk_done ?_ | refine rn_seq_n ?_ | refine rc_blk ?_ | refine rc_skip ?_ | refine rc_exit ?_ | refine rc_ret ?_ | refine rc_scp ?_ | refine rn_seq_e ?_ | refine rn_seq_r ?_ | refine rn_blk_n ?_ | refine rn_blk_r ?_ | refine rn_blk_e ?_ | refine rn_scp_n ?_ | refine rn_scp_e ?_ | refine rn_scp_r ?_ | refine rk_sk ?_ | refine rn_blk_x (by decide) ?_ | ((first | apply rk_mv' | apply rk_p1 | apply rk_p2 | apply rk_r1 | apply rk_ln | apply rk_ls); · (first | (simp (disch := omega) only [evl, Nat.reduceEqDiff, Nat.reduceAdd, reduceIte, reduceCtorEq] <;> exact rfl) | exact rfl)) | ((first | apply rc_cond | apply rk_gd); (· (first | (simp (disch := omega) only [evl, Nat.reduceEqDiff, Nat.reduceAdd, reduceIte, reduceCtorEq] <;> exact rfl) | exact rfl)); all_goals (intro hb; try simp only [bvl, ne_eq, Bool.not_true, Bool.not_false, reduceCtorEq, not_true_eq_false] at hb)) | (refine rk_gd_u ?_ ?_; · (first | (simp (disch := omega) only [evl, Nat.reduceEqDiff, Nat.reduceAdd, reduceIte, reduceCtorEq] <;> exact rfl) | exact rfl))))
    have := hp.next
    refine rn_nil ?_; exact fq_nor (resV_0 _) ⟨hp.mono fun j _ hj => by omega, ys, ⟨by rw [edC_len, hkp.len], .inr ⟨i, rfl, hr1, hNi, by omega⟩⟩, hkp.perm, hs⟩
end Go.Proofs.Ytnkomaedmblemaa

set_option linter.unusedSimpArgs false
set_option linter.unusedVariables false
set_option maxRecDepth 100000
namespace Go.Proofs.Ytnkomaedmblemaa
open Go.Ev Exl

/-! ### The edges of two lists -/
def edL (b : Bool) : List P → List Ed
  | [] => []
  | p :: l => (p.1, b) :: (p.1 + p.2, b) :: edL b l
theorem edL_app (b : Bool) (l m : List P) : edL b (l ++ m) = edL b l ++ edL b m := by
  induction l with
  | nil => rfl
  | cons p l ih => simp [edL, ih]
theorem edL_len (b : Bool) (l : List P) : (edL b l).length = 2 * l.length := by
  induction l with
  | nil => rfl
  | cons p l ih => simp [edL, ih]; omega
theorem build66 (a : Int) (b : Bool) : evBuild look 66 (zipF [0, 1] [.int .i64 a, .bool b]) = some (edV (a, b)) := by kernel_rfl
theorem bs_two {H : AH} (hh : H.hide = []) (p q : Ed) :
    ∃ H', bsF 2 2 (.agg [.int .i64 0, .bool false]) 66 (zipF [0, 1] [edV p, edV q]) H = some (.sl H.next 0 2 2 false, H') ∧ HX H H' ∧ H'.next = H.next + 1 ∧ Row H' H.next false false 66 2 (edC [p, q]) := by
  have hf : fillL (fun i => some (Nat.mul i 2, 2)) (zipF [0, 1] [edV p, edV q]) (rep (AV.cells (.agg [.int .i64 0, .bool false])) 2) = some (edC [p, q]) := rfl
  refine ⟨H.new (.cells (Ce.of (edC [p, q])) 66 2 false false), ?_, HX.new _ _, rfl, ?_⟩
  · unfold bsF
    rw [hf]
    exact hNew_eq (.cells (Ce.of (edC [p, q])) 66 2 false false) (fun m H' => some (.sl m 0 2 2 false, H')) H
  · have := Row.new hh (Ce.of (edC [p, q])) 66 2 false false
    rwa [Ce.of_l] at this
/-- Two edges put behind. -/
theorem app_two {H : AH} {s : AV} {xs : List Ed} {N : Nat} (p q : Ed) (hap : Ap H s xs.length (edC xs) 66 2 N) (hh : H.hide = []) (hlo : H.lo ≤ N) (hN : N ≤ H.next) (hl : xs.length ≤ 1000000) :
    ∃ H1 s' H2, bsF 2 2 (.agg [.int .i64 0, .bool false]) 66 (zipF [0, 1] [edV p, edV q]) H = some (.sl H.next 0 2 2 false, H1) ∧ appX 66 2 16 [s, .sl H.next 0 2 2 false] H1 = some (s', H2) ∧ Ap H2 s' (xs ++ [p, q]).length (edC (xs ++ [p, q])) 66 2 N ∧ HP (· < N) H H2 := by
  obtain ⟨H1, hb1, hx1, hn1, hr1⟩ := bs_two hh p q
  obtain ⟨new, hsrc, hnl⟩ := srcRow (z := 2) (n := 2) (c := 2) (op := false) hr1 rfl
  obtain ⟨s', H2, happ, hap2, hp2, hn2, hne2⟩ := (hap.hx hx1).app (b := 16) (x := .sl H.next 0 2 2 false) (m := 2) rfl hsrc (one_of_l (by rw [hnl]; rfl)) (by rw [hnl]; rfl) (by omega) (by omega) (by omega) (hx1.hide.trans hh) (by rw [hx1.lo]; exact hlo) (by omega)
  refine ⟨H1, s', H2, hb1, happ, ?_, ?_⟩
  · rw [hnl, ← edC_app] at hap2
    simpa using hap2
  · refine (hx1.hp fun _ => True).trans hp2 fun j hj hjN => ⟨trivial, ?_⟩
    obtain ⟨_, ⟨rfl, _⟩ | ⟨i', rfl, _, hN, _⟩⟩ := hap
    · exact blkNe_nil _
    · exact blkNe_sl (by omega)

set_option maxHeartbeats 8000000 in
theorem eloop0_ok (T : Tr AV) (H : AH) (v u : AV) (l : List (Int × Int)) (hs : SlX H v l) (hh : H.hide = []) (hlo : H.lo ≤ H.next) (hok : Ok 0 l) (hl : l.length ≤ 5000)
    (t1 : gT T 1 = u) (t10 : gT T 10 = v) (t11 : gT T 11 = .int .i64 l.length) (t5 : gT T 5 = .nilSl) (t12 : gT T 12 = .int .i64 0) :
    LpE look f52b0 T H fun ex T' H' => ex = .exit 0 ∧ HP (· < H.next) H H' ∧ gT T' 1 = u ∧ ∃ s, gT T' 5 = s ∧ Ap H' s (edL false l).length (edC (edL false l)) 66 2 H.next := by
  refine lp_ind f52l0_eq (fun k T H' => ∃ (i : Nat) (s : AV), k = l.length - i ∧ i ≤ l.length ∧ gT T 1 = u ∧ gT T 10 = v ∧ gT T 11 = .int .i64 l.length ∧ gT T 5 = s ∧ gT T 12 = .int .i64 i ∧ HP (· < H.next) H H' ∧ Ap H' s (edL false (l.take i)).length (edC (edL false (l.take i))) 66 2 H.next) _ ?_ l.length _ _ ?_
  · intro k T H1 hI
    obtain ⟨i, s, hk, hi, h1, h10, h11, h5, h12, hp, hap⟩ := hI
    unfold f52l0
    by_cases hlt : i < l.length
    · have hsx : SlX H1 v l := hs.hx (hp.hx fun _ h => h)
      have hix := @ix_el _ _ _ hsx.is
      have hrd := SlX.rdN hsx hlt
      have hat := Ok.at hok hlt (Int.le_refl _)
      have hnx := hp.next
      have hlen := edL_len false (l.take i)
      have hlen2 : (l.take i).length = i := by simp; omega
      rw [hlen2] at hlen
      (repeat' (first | refine rc_reg ?_ | refine rc_seq ?_ | refine rk_done ?_ | refine rn_seq_n ?_ | refine rc_blk ?_ | refine rc_skip ?_ | refine rc_exit ?_ | refine rc_ret ?_ | refine rc_scp ?_ | refine rn_seq_e ?_ | refine rn_seq_r ?_ | refine rn_blk_n ?_ | refine rn_blk_r ?_ | refine rn_blk_e ?_ | refine rn_scp_n ?_ | refine rn_scp_e ?_ | refine rn_scp_r ?_ | refine rk_sk ?_ | refine rn_blk_x (by decide) ?_ | ((first | apply rk_mv' | apply rk_p1 | apply rk_p2 | apply rk_r1 | apply rk_ln | apply rk_ls); · (first | (simp (disch := omega) only [evl, Nat.reduceEqDiff, Nat.reduceAdd, reduceIte, reduceCtorEq, h10, h11, h12, hix, hrd] <;> exact rfl) | exact rfl)) | ((first | apply rc_cond | apply rk_gd); (· (first | (simp (disch := omega) only [evl, Nat.reduceEqDiff, Nat.reduceAdd, reduceIte, reduceCtorEq, h10, h11, h12, hix, hrd] <;> exact rfl) | exact rfl)); all_goals (intro hb; try simp only [bvl, ne_eq, Bool.not_true, Bool.not_false, reduceCtorEq, not_true_eq_false] at hb)) | (refine rk_gd_u ?_ ?_; · (first | (simp (disch := omega) only [evl, Nat.reduceEqDiff, Nat.reduceAdd, reduceIte, reduceCtorEq, h10, h11, h12, hix, hrd] <;> exact rfl) | exact rfl))))
      obtain ⟨H2, H3, hal, hst, hx3, hn3, hr3⟩ := boxN look (e := 43) (s := 2) (z := AV.toC (.agg [.int .i64 0, .int .i64 0])) (v := exV (exG l i)) (hp.hide.trans hh) (by rw [hp.lo]; omega) (by rw [toC_l]; rfl) rfl rfl
      apply rk_al
      · (simp (disch := omega) only [evl, Nat.reduceEqDiff, Nat.reduceAdd, reduceIte, reduceCtorEq])
        exact hal
      simp only [hOut_f]
      apply rk_st
      · (simp (disch := omega) only [evl, Nat.reduceEqDiff, Nat.reduceAdd, reduceIte, reduceCtorEq])
        exact hst
      simp only [hOut_f]
      have hA := hr3.rd (k := 0) rfl
      have hB := hr3.rd (k := 1) rfl
      have hts := take_snoc l hlt
      have hxp : HP (· < H.next) H H3 := hp.trans (hx3.hp fun _ => True) fun j hj h => ⟨h, trivial⟩
      obtain ⟨H4, s', H5, hb4, happ, hap5, hp5⟩ := app_two ((exG l i).1, false) ((exG l i).1 + (exG l i).2, false) (hap.hx hx3) (hxp.hide.trans hh) (by rw [hxp.lo]; exact hlo) (by omega) (by omega)
      have Hts := Hd.mk hts
      clear hts hal hst hr3 hrd
      have hb66 := build66
      have He : Hd (edL false (l.take i) ++ [((exG l i).1, false), ((exG l i).1 + (exG l i).2, false)] = edL false (l.take (i + 1))) := Hd.mk (by rw [Hts.out, edL_app]; rfl)
      generalize (exG l i).1 = a at *
      generalize (exG l i).2 = b at *
      (repeat' (first | refine rc_reg ?_ | refine rc_seq ?_ | refine rk_done ?_ | refine rn_seq_n ?_ | refine rc_blk ?_ | refine rc_skip ?_ | refine rc_exit ?_ | refine rc_ret ?_ | refine rc_scp ?_ | refine rn_seq_e ?_ | refine rn_seq_r ?_ | refine rn_blk_n ?_ | refine rn_blk_r ?_ | refine rn_blk_e ?_ | refine rn_scp_n ?_ | refine rn_scp_e ?_ | refine rn_scp_r ?_ | refine rk_sk ?_ | refine rn_blk_x (by decide) ?_ | ((first | apply rk_mv' | apply rk_p1 | apply rk_p2 | apply rk_r1 | apply rk_ln | apply rk_ls); · (first | (simp (disch := omega) only [evl, Nat.reduceEqDiff, Nat.reduceAdd, reduceIte, reduceCtorEq, h5, hA, hB, hb66] <;> exact rfl) | exact rfl)) | ((first | apply rc_cond | apply rk_gd); (· (first | (simp (disch := omega) only [evl, Nat.reduceEqDiff, Nat.reduceAdd, reduceIte, reduceCtorEq, h5, hA, hB, hb66] <;> exact rfl) | exact rfl)); all_goals (intro hb; try simp only [bvl, ne_eq, Bool.not_true, Bool.not_false, reduceCtorEq, not_true_eq_false] at hb)) | (refine rk_gd_u ?_ ?_; · (first | (simp (disch := omega) only [evl, Nat.reduceEqDiff, Nat.reduceAdd, reduceIte, reduceCtorEq, h5, hA, hB, hb66] <;> exact rfl) | exact rfl))))
      apply rk_hn
      · (simp (disch := omega) only [evl, Nat.reduceEqDiff, Nat.reduceAdd, reduceIte, reduceCtorEq])
        exact hb4
      simp only [hOut_f]
      (repeat' (first | refine rc_reg ?_ | refine rc_seq ?_ | refine rk_done ?_ | refine rn_seq_n ?_ | refine rc_blk ?_ | refine rc_skip ?_ | refine rc_exit ?_ | refine rc_ret ?_ | refine rc_scp ?_ | refine rn_seq_e ?_ | refine rn_seq_r ?_ | refine rn_blk_n ?_ | refine rn_blk_r ?_ | refine rn_blk_e ?_ | refine rn_scp_n ?_ | refine rn_scp_e ?_ | refine rn_scp_r ?_ | refine rk_sk ?_ | refine rn_blk_x (by decide) ?_ | ((first | apply rk_mv' | apply rk_p1 | apply rk_p2 | apply rk_r1 | apply rk_ln | apply rk_ls); · (first | (simp (disch := omega) only [evl, Nat.reduceEqDiff, Nat.reduceAdd, reduceIte, reduceCtorEq, h5] <;> exact rfl) | exact rfl)) | ((first | apply rc_cond | apply rk_gd); (· (first | (simp (disch := omega) only [evl, Nat.reduceEqDiff, Nat.reduceAdd, reduceIte, reduceCtorEq, h5] <;> exact rfl) | exact rfl)); all_goals (intro hb; try simp only [bvl, ne_eq, Bool.not_true, Bool.not_false, reduceCtorEq, not_true_eq_false] at hb)) | (refine rk_gd_u ?_ ?_; · (first | (simp (disch := omega) only [evl, Nat.reduceEqDiff, Nat.reduceAdd, reduceIte, reduceCtorEq, h5] <;> exact rfl) | exact rfl))))
      apply rk_hn
      · (simp (disch := omega) only [evl, Nat.reduceEqDiff, Nat.reduceAdd, reduceIte, reduceCtorEq, h5])
        exact happ
      simp only [hOut_f]
      (repeat' (first | refine rc_reg ?_ | refine rc_seq ?_ | refine rk_done ?_ | refine rn_seq_n ?_ | refine rc_blk ?_ | refine rc_skip ?_ | refine rc_exit ?_ | refine rc_ret ?_ | refine rc_scp ?_ | refine rn_seq_e ?_ | refine rn_seq_r ?_ | refine rn_blk_n ?_ | refine rn_blk_r ?_ | refine rn_blk_e ?_ | refine rn_scp_n ?_ | refine rn_scp_e ?_ | refine rn_scp_r ?_ | refine rk_sk ?_ | refine rn_blk_x (by decide) ?_ | ((first | apply rk_mv' | apply rk_p1 | apply rk_p2 | apply rk_r1 | apply rk_ln | apply rk_ls); · (first | (simp (disch := omega) only [evl, Nat.reduceEqDiff, Nat.reduceAdd, reduceIte, reduceCtorEq, h12] <;> exact rfl) | exact rfl)) | ((first | apply rc_cond | apply rk_gd); (· (first | (simp (disch := omega) only [evl, Nat.reduceEqDiff, Nat.reduceAdd, reduceIte, reduceCtorEq, h12] <;> exact rfl) | exact rfl)); all_goals (intro hb; try simp only [bvl, ne_eq, Bool.not_true, Bool.not_false, reduceCtorEq, not_true_eq_false] at hb)) | (refine rk_gd_u ?_ ?_; · (first | (simp (disch := omega) only [evl, Nat.reduceEqDiff, Nat.reduceAdd, reduceIte, reduceCtorEq, h12] <;> exact rfl) | exact rfl))))
      refine rn_nil ?_; refine lpq_n (l.length - (i + 1)) (by omega) ?_
      refine ⟨i + 1, s', rfl, by omega, (by (first | (simp (disch := omega) only [evl, Nat.reduceEqDiff, Nat.reduceAdd, reduceIte, reduceCtorEq, h1] <;> exact rfl) | exact rfl)), (by (first | (simp (disch := omega) only [evl, Nat.reduceEqDiff, Nat.reduceAdd, reduceIte, reduceCtorEq, h10] <;> exact rfl) | exact rfl)), (by (first | (simp (disch := omega) only [evl, Nat.reduceEqDiff, Nat.reduceAdd, reduceIte, reduceCtorEq, h11] <;> exact rfl) | exact rfl)), (by (first | (simp (disch := omega) only [evl, Nat.reduceEqDiff, Nat.reduceAdd, reduceIte, reduceCtorEq] <;> exact rfl) | exact rfl)), (by (first | (simp (disch := omega) only [evl, Nat.reduceEqDiff, Nat.reduceAdd, reduceIte, reduceCtorEq, h12] <;> exact rfl) | exact rfl)), hxp.trans hp5 fun j hj h => ⟨h, h⟩, ?_⟩
      rw [← He.out]
      exact hap5
    · (repeat' (first | refine rc_reg ?_ | refine rc_seq ?_ | refine rk_done ?_ | refine rn_seq_n ?_ | refine rc_blk ?_ | refine rc_skip ?_ | refine rc_exit ?_ | refine rc_ret ?_ | refine rc_scp ?_ | refine rn_seq_e ?_ | refine rn_seq_r ?_ | refine rn_blk_n ?_ | refine rn_blk_r ?_ | refine rn_blk_e ?_ | refine rn_scp_n ?_ | refine rn_scp_e ?_ | refine rn_scp_r ?_ | refine rk_sk ?_ | refine rn_blk_x (by decide) ?_ | ((first | apply rk_mv' | apply rk_p1 | apply rk_p2 | apply rk_r1 | apply rk_ln | apply rk_ls); · (first | (simp (disch := omega) only [evl, Nat.reduceEqDiff, Nat.reduceAdd, reduceIte, reduceCtorEq, h11, h12] <;> exact rfl) | exact rfl)) | ((first | apply rc_cond | apply rk_gd); (· (first | (simp (disch := omega) only [evl, Nat.reduceEqDiff, Nat.reduceAdd, reduceIte, reduceCtorEq, h11, h12] <;> exact rfl) | exact rfl)); all_goals (intro hb; try simp only [bvl, ne_eq, Bool.not_true, Bool.not_false, reduceCtorEq, not_true_eq_false] at hb)) | (refine rk_gd_u ?_ ?_; · (first | (simp (disch := omega) only [evl, Nat.reduceEqDiff, Nat.reduceAdd, reduceIte, reduceCtorEq, h11, h12] <;> exact rfl) | exact rfl))))
      refine rn_nil ?_; refine lpq_e ?_
      obtain rfl : i = l.length := by omega
      rw [List.take_length] at hap
      exact ⟨rfl, hp, (by (first | (simp (disch := omega) only [evl, Nat.reduceEqDiff, Nat.reduceAdd, reduceIte, reduceCtorEq, h1] <;> exact rfl) | exact rfl)), s, (by (first | (simp (disch := omega) only [evl, Nat.reduceEqDiff, Nat.reduceAdd, reduceIte, reduceCtorEq, h5] <;> exact rfl) | exact rfl)), hap⟩
  · exact ⟨0, .nilSl, by omega, by omega, t1, t10, t11, t5, t12, HP.refl _ _, Ap.nil _ _ _ _⟩

set_option maxHeartbeats 8000000 in
theorem eloop1_ok (T : Tr AV) (H : AH) (v w : AV) (l : List (Int × Int)) (xs : List Ed) (N : Nat) (hs : SlX H v l) (hsN : ∀ i o n c op, v = .sl i o n c op → i < N) (hap : Ap H w xs.length (edC xs) 66 2 N) (hh : H.hide = []) (hlo : H.lo ≤ N) (hN : N ≤ H.next) (hok : Ok 0 l) (hl : l.length ≤ 5000) (hxl : xs.length ≤ 20000)
    (t29 : gT T 29 = v) (t30 : gT T 30 = .int .i64 l.length) (t5 : gT T 5 = w) (t31 : gT T 31 = .int .i64 0) :
    LpE look f52b1 T H fun ex T' H' => ex = .exit 2 ∧ HP (· < N) H H' ∧ ∃ s, gT T' 5 = s ∧ Ap H' s (xs ++ edL true l).length (edC (xs ++ edL true l)) 66 2 N := by
  refine lp_ind f52l1_eq (fun k T H' => ∃ (i : Nat) (s : AV), k = l.length - i ∧ i ≤ l.length ∧ gT T 29 = v ∧ gT T 30 = .int .i64 l.length ∧ gT T 5 = s ∧ gT T 31 = .int .i64 i ∧ HP (· < N) H H' ∧ Ap H' s (xs ++ edL true (l.take i)).length (edC (xs ++ edL true (l.take i))) 66 2 N) _ ?_ l.length _ _ ?_
  · intro k T H1 hI
    obtain ⟨i, s, hk, hi, h29, h30, h5, h31, hp, hap⟩ := hI
    unfold f52l1
    by_cases hlt : i < l.length
    · have hsx : SlX H1 v l := hs.hp hp fun i o c op hv => hsN i o _ c op hv
      have hix := @ix_el _ _ _ hsx.is
      have hrd := SlX.rdN hsx hlt
      have hat := Ok.at hok hlt (Int.le_refl _)
      have hnx := hp.next
      have hlen := edL_len true (l.take i)
      have hlen2 : (l.take i).length = i := by simp; omega
      rw [hlen2] at hlen
      (repeat' (first | refine rc_reg ?_ | refine rc_seq ?_ | refine rk_done ?_ | refine rn_seq_n ?_ | refine rc_blk ?_ | refine rc_skip ?_ | refine rc_exit ?_ | refine rc_ret ?_ | refine rc_scp ?_ | refine rn_seq_e ?_ | refine rn_seq_r ?_ | refine rn_blk_n ?_ | refine rn_blk_r ?_ | refine rn_blk_e ?_ | refine rn_scp_n ?_ | refine rn_scp_e ?_ | refine rn_scp_r ?_ | refine rk_sk ?_ | refine rn_blk_x (by decide) ?_ | ((first | apply rk_mv' | apply rk_p1 | apply rk_p2 | apply rk_r1 | apply rk_ln | apply rk_ls); · (first | (simp (disch := omega) only [evl, Nat.reduceEqDiff, Nat.reduceAdd, reduceIte, reduceCtorEq, h29, h30, h31, hix, hrd] <;> exact rfl) | exact rfl)) | ((first | apply rc_cond | apply rk_gd); (· (first | (simp (disch := omega) only [evl, Nat.reduceEqDiff, Nat.reduceAdd, reduceIte, reduceCtorEq, h29, h30, h31, hix, hrd] <;> exact rfl) | exact rfl)); all_goals (intro hb; try simp only [bvl, ne_eq, Bool.not_true, Bool.not_false, reduceCtorEq, not_true_eq_false] at hb)) | (refine rk_gd_u ?_ ?_; · (first | (simp (disch := omega) only [evl, Nat.reduceEqDiff, Nat.reduceAdd, reduceIte, reduceCtorEq, h29, h30, h31, hix, hrd] <;> exact rfl) | exact rfl))))
      obtain ⟨H2, H3, hal, hst, hx3, hn3, hr3⟩ := boxN look (e := 43) (s := 2) (z := AV.toC (.agg [.int .i64 0, .int .i64 0])) (v := exV (exG l i)) (hp.hide.trans hh) (by rw [hp.lo]; omega) (by rw [toC_l]; rfl) rfl rfl
      apply rk_al
      · (simp (disch := omega) only [evl, Nat.reduceEqDiff, Nat.reduceAdd, reduceIte, reduceCtorEq])
        exact hal
      simp only [hOut_f]
      apply rk_st
      · (simp (disch := omega) only [evl, Nat.reduceEqDiff, Nat.reduceAdd, reduceIte, reduceCtorEq])
        exact hst
      simp only [hOut_f]
      have hA := hr3.rd (k := 0) rfl
      have hB := hr3.rd (k := 1) rfl
      have hts := take_snoc l hlt
      have hxp : HP (· < N) H H3 := hp.trans (hx3.hp fun _ => True) fun j hj h => ⟨h, trivial⟩
      obtain ⟨H4, s', H5, hb4, happ, hap5, hp5⟩ := app_two ((exG l i).1, true) ((exG l i).1 + (exG l i).2, true) (hap.hx hx3) (hxp.hide.trans hh) (by rw [hxp.lo]; exact hlo) (by omega) (by rw [List.length_append]; omega)
      have Hts := Hd.mk hts
      clear hts hal hst hr3 hrd
      have hb66 := build66
      have He : Hd (xs ++ edL true (l.take i) ++ [((exG l i).1, true), ((exG l i).1 + (exG l i).2, true)] = xs ++ edL true (l.take (i + 1))) := Hd.mk (by rw [Hts.out, edL_app, List.append_assoc]; rfl)
      generalize (exG l i).1 = a at *
      generalize (exG l i).2 = b at *
      (repeat' (first | refine rc_reg ?_ | refine rc_seq ?_ | refine rk_done ?_ | refine rn_seq_n ?_ | refine rc_blk ?_ | refine rc_skip ?_ | refine rc_exit ?_ | refine rc_ret ?_ | refine rc_scp ?_ | refine rn_seq_e ?_ | refine rn_seq_r ?_ | refine rn_blk_n ?_ | refine rn_blk_r ?_ | refine rn_blk_e ?_ | refine rn_scp_n ?_ | refine rn_scp_e ?_ | refine rn_scp_r ?_ | refine rk_sk ?_ | refine rn_blk_x (by decide) ?_ | ((first | apply rk_mv' | apply rk_p1 | apply rk_p2 | apply rk_r1 | apply rk_ln | apply rk_ls); · (first | (simp (disch := omega) only [evl, Nat.reduceEqDiff, Nat.reduceAdd, reduceIte, reduceCtorEq, h5, hA, hB, hb66] <;> exact rfl) | exact rfl)) | ((first | apply rc_cond | apply rk_gd); (· (first | (simp (disch := omega) only [evl, Nat.reduceEqDiff, Nat.reduceAdd, reduceIte, reduceCtorEq, h5, hA, hB, hb66] <;> exact rfl) | exact rfl)); all_goals (intro hb; try simp only [bvl, ne_eq, Bool.not_true, Bool.not_false, reduceCtorEq, not_true_eq_false] at hb)) | (refine rk_gd_u ?_ ?_; · (first | (simp (disch := omega) only [evl, Nat.reduceEqDiff, Nat.reduceAdd, reduceIte, reduceCtorEq, h5, hA, hB, hb66] <;> exact rfl) | exact rfl))))
      apply rk_hn
      · (simp (disch := omega) only [evl, Nat.reduceEqDiff, Nat.reduceAdd, reduceIte, reduceCtorEq])
        exact hb4
      simp only [hOut_f]
      (repeat' (first | refine rc_reg ?_ | refine rc_seq ?_ | refine rk_done ?_ | refine rn_seq_n ?_ | refine rc_blk ?_ | refine rc_skip ?_ | refine rc_exit ?_ | refine rc_ret ?_ | refine rc_scp ?_ | refine rn_seq_e ?_ | refine rn_seq_r ?_ | refine rn_blk_n ?_ | refine rn_blk_r ?_ | refine rn_blk_e ?_ | refine rn_scp_n ?_ | refine rn_scp_e ?_ | refine rn_scp_r ?_ | refine rk_sk ?_ | refine rn_blk_x (by decide) ?_ | ((first | apply rk_mv' | apply rk_p1 | apply rk_p2 | apply rk_r1 | apply rk_ln | apply rk_ls); · (first | (simp (disch := omega) only [evl, Nat.reduceEqDiff, Nat.reduceAdd, reduceIte, reduceCtorEq, h5] <;> exact rfl) | exact rfl)) | ((first | apply rc_cond | apply rk_gd); (· (first | (simp (disch := omega) only [evl, Nat.reduceEqDiff, Nat.reduceAdd, reduceIte, reduceCtorEq, h5] <;> exact rfl) | exact rfl)); all_goals (intro hb; try simp only [bvl, ne_eq, Bool.not_true, Bool.not_false, reduceCtorEq, not_true_eq_false] at hb)) | (refine rk_gd_u ?_ ?_; · (first | (simp (disch := omega) only [evl, Nat.reduceEqDiff, Nat.reduceAdd, reduceIte, reduceCtorEq, h5] <;> exact rfl) | exact rfl))))
      apply rk_hn
      · (simp (disch := omega) only [evl, Nat.reduceEqDiff, Nat.reduceAdd, reduceIte, reduceCtorEq, h5])
        exact happ
      simp only [hOut_f]
      (repeat' (first | refine rc_reg ?_ | refine rc_seq ?_ | refine rk_done ?_ | refine rn_seq_n ?_ | refine rc_blk ?_ | refine rc_skip ?_ | refine rc_exit ?_ | refine rc_ret ?_ | refine rc_scp ?_ | refine rn_seq_e ?_ | refine rn_seq_r ?_ | refine rn_blk_n ?_ | refine rn_blk_r ?_ | refine rn_blk_e ?_ | refine rn_scp_n ?_ | refine rn_scp_e ?_ | refine rn_scp_r ?_ | refine rk_sk ?_ | refine rn_blk_x (by decide) ?_ | ((first | apply rk_mv' | apply rk_p1 | apply rk_p2 | apply rk_r1 | apply rk_ln | apply rk_ls); · (first | (simp (disch := omega) only [evl, Nat.reduceEqDiff, Nat.reduceAdd, reduceIte, reduceCtorEq, h31] <;> exact rfl) | exact rfl)) | ((first | apply rc_cond | apply rk_gd); (· (first | (simp (disch := omega) only [evl, Nat.reduceEqDiff, Nat.reduceAdd, reduceIte, reduceCtorEq, h31] <;> exact rfl) | exact rfl)); all_goals (intro hb; try simp only [bvl, ne_eq, Bool.not_true, Bool.not_false, reduceCtorEq, not_true_eq_false] at hb)) | (refine rk_gd_u ?_ ?_; · (first | (simp (disch := omega) only [evl, Nat.reduceEqDiff, Nat.reduceAdd, reduceIte, reduceCtorEq, h31] <;> exact rfl) | exact rfl))))
      refine rn_nil ?_; refine lpq_n (l.length - (i + 1)) (by omega) ?_
      refine ⟨i + 1, s', rfl, by omega, (by (first | (simp (disch := omega) only [evl, Nat.reduceEqDiff, Nat.reduceAdd, reduceIte, reduceCtorEq, h29] <;> exact rfl) | exact rfl)), (by (first | (simp (disch := omega) only [evl, Nat.reduceEqDiff, Nat.reduceAdd, reduceIte, reduceCtorEq, h30] <;> exact rfl) | exact rfl)), (by (first | (simp (disch := omega) only [evl, Nat.reduceEqDiff, Nat.reduceAdd, reduceIte, reduceCtorEq] <;> exact rfl) | exact rfl)), (by (first | (simp (disch := omega) only [evl, Nat.reduceEqDiff, Nat.reduceAdd, reduceIte, reduceCtorEq, h31] <;> exact rfl) | exact rfl)), hxp.trans hp5 fun j hj h => ⟨h, h⟩, ?_⟩
      rw [← He.out]
      exact hap5
    · (repeat' (first | refine rc_reg ?_ | refine rc_seq ?_ | refine rk_done ?_ | refine rn_seq_n ?_ | refine rc_blk ?_ | refine rc_skip ?_ | refine rc_exit ?_ | refine rc_ret ?_ | refine rc_scp ?_ | refine rn_seq_e ?_ | refine rn_seq_r ?_ | refine rn_blk_n ?_ | refine rn_blk_r ?_ | refine rn_blk_e ?_ | refine rn_scp_n ?_ | refine rn_scp_e ?_ | refine rn_scp_r ?_ | refine rk_sk ?_ | refine rn_blk_x (by decide) ?_ | ((first | apply rk_mv' | apply rk_p1 | apply rk_p2 | apply rk_r1 | apply rk_ln | apply rk_ls); · (first | (simp (disch := omega) only [evl, Nat.reduceEqDiff, Nat.reduceAdd, reduceIte, reduceCtorEq, h30, h31] <;> exact rfl) | exact rfl)) | ((first | apply rc_cond | apply rk_gd); (· (first | (simp (disch := omega) only [evl, Nat.reduceEqDiff, Nat.reduceAdd, reduceIte, reduceCtorEq, h30, h31] <;> exact rfl) | exact rfl)); all_goals (intro hb; try simp only [bvl, ne_eq, Bool.not_true, Bool.not_false, reduceCtorEq, not_true_eq_false] at hb)) | (refine rk_gd_u ?_ ?_; · (first | (simp (disch := omega) only [evl, Nat.reduceEqDiff, Nat.reduceAdd, reduceIte, reduceCtorEq, h30, h31] <;> exact rfl) | exact rfl))))
      refine rn_nil ?_; refine lpq_e ?_
      obtain rfl : i = l.length := by omega
      rw [List.take_length] at hap
      exact ⟨rfl, hp, s, (by (first | (simp (disch := omega) only [evl, Nat.reduceEqDiff, Nat.reduceAdd, reduceIte, reduceCtorEq, h5] <;> exact rfl) | exact rfl)), hap⟩
  · exact ⟨0, w, by omega, by omega, t29, t30, t5, t31, HP.refl _ _, by rw [List.take_zero]; show Ap H w (xs ++ []).length (edC (xs ++ [])) 66 2 N; rw [List.append_nil]; exact hap⟩

theorem edL_bd (b : Bool) {l : List P} : ∀ {fr : Int}, Ok fr l → 0 ≤ fr → ∀ e ∈ edL b l, 0 ≤ e.1 ∧ e.1 ≤ 4096 := by
  induction l with
  | nil => intro fr _ _ e he; cases he
  | cons p l ih =>
    intro fr h hfr e he
    obtain ⟨h1, h2, h3, h4, h5⟩ := h
    rcases List.mem_cons.1 he with rfl | he
    · simp only; omega
    · rcases List.mem_cons.1 he with rfl | he
      · simp only; omega
      · exact ih h5 (by omega) e he
theorem Ok.len {l : List P} : ∀ {fr : Int}, Ok fr l → fr ≤ 4097 → (l.length : Int) ≤ 4097 - fr := by
  induction l with
  | nil => intro fr _ h; simp; omega
  | cons p l ih =>
    intro fr h hfr
    obtain ⟨h1, h2, h3, h4, h5⟩ := h
    have := ih h5 (by omega)
    rw [List.length_cons, Int.natCast_add]; omega

set_option maxHeartbeats 8000000 in
theorem edges_ok (H : AH) (v u : AV) (l m : List (Int × Int)) (hs : SlX H v l) (hu : SlX H u m) (hh : H.hide = []) (hlo : H.lo ≤ H.next) (hok : Ok 0 l) (hom : Ok 0 m) :
    FnE look 52 [v, u] H fun r H' => HX H H' ∧ ∃ ys, Ap H' r ys.length (edC ys) 66 2 H.next ∧ ys.Perm (edL false l ++ edL true m) ∧ srt ys 0 ys.length := by
  refine fn_intro f52_eq (noext rfl) rfl ?_
  unfold f52c
  have hlen := fun H' => len_el (H' := H') u22 hs.is
  have hlen2 := fun H' => len_el (H' := H') u22 hu.is
  have hll := Ok.len hok (by omega)
  have hml := Ok.len hom (by omega)
  (repeat' (first | refine rc_reg ?_ | refine rc_seq ?_ | refine rk_done ?_ | refine rn_seq_n ?_ | refine rc_blk ?_ | refine rc_skip ?_ | refine rc_exit ?_ | refine rc_ret ?_ | refine rc_scp ?_ | refine rn_seq_e ?_ | refine rn_seq_r ?_ | refine rn_blk_n ?_ | refine rn_blk_r ?_ | refine rn_blk_e ?_ | refine rn_scp_n ?_ | refine rn_scp_e ?_ | refine rn_scp_r ?_ | refine rk_sk ?_ | refine rn_blk_x (by decide) ?_ | ((first | apply rk_mv' | apply rk_p1 | apply rk_p2 | apply rk_r1 | apply rk_ln | apply rk_ls); · (first | (simp (disch := omega) only [evl, Nat.reduceEqDiff, Nat.reduceAdd, reduceIte, reduceCtorEq, hlen] <;> exact rfl) | exact rfl)) | ((first | apply rc_cond | apply rk_gd); (· (first | (simp (disch := omega) only [evl, Nat.reduceEqDiff, Nat.reduceAdd, reduceIte, reduceCtorEq, hlen] <;> exact rfl) | exact rfl)); all_goals (intro hb; try simp only [bvl, ne_eq, Bool.not_true, Bool.not_false, reduceCtorEq, not_true_eq_false] at hb)) | (refine rk_gd_u ?_ ?_; · (first | (simp (disch := omega) only [evl, Nat.reduceEqDiff, Nat.reduceAdd, reduceIte, reduceCtorEq, hlen] <;> exact rfl) | exact rfl))))
  refine rc_loop (eloop0_ok _ H v u l hs hh hlo hok (by omega) (by (first | (simp (disch := omega) only [evl, Nat.reduceEqDiff, Nat.reduceAdd, reduceIte, reduceCtorEq] <;> exact rfl) | exact rfl)) (by (first | (simp (disch := omega) only [evl, Nat.reduceEqDiff, Nat.reduceAdd, reduceIte, reduceCtorEq] <;> exact rfl) | exact rfl)) (by (first | (simp (disch := omega) only [evl, Nat.reduceEqDiff, Nat.reduceAdd, reduceIte, reduceCtorEq] <;> exact rfl) | exact rfl)) (by (first | (simp (disch := omega) only [evl, Nat.reduceEqDiff, Nat.reduceAdd, reduceIte, reduceCtorEq] <;> exact rfl) | exact rfl)) (by (first | (simp (disch := omega) only [evl, Nat.reduceEqDiff, Nat.reduceAdd, reduceIte, reduceCtorEq] <;> exact rfl) | exact rfl))) ?_
  rintro ex T1 H1 ⟨rfl, hp1, h1, s, h5, hap⟩
  have hnx := hp1.next
  (repeat' (first | refine rc_reg ?_ | refine rc_seq ?_ | refine rk_done ?_ | refine rn_seq_n ?_ | refine rc_blk ?_ | refine rc_skip ?_ | refine rc_exit ?_ | refine rc_ret ?_ | refine rc_scp ?_ | refine rn_seq_e ?_ | refine rn_seq_r ?_ | refine rn_blk_n ?_ | refine rn_blk_r ?_ | refine rn_blk_e ?_ | refine rn_scp_n ?_ | refine rn_scp_e ?_ | refine rn_scp_r ?_ | refine rk_sk ?_ | refine rn_blk_x (by decide) ?_ | ((first | apply rk_mv' | apply rk_p1 | apply rk_p2 | apply rk_r1 | apply rk_ln | apply rk_ls); · (first | (simp (disch := omega) only [evl, Nat.reduceEqDiff, Nat.reduceAdd, reduceIte, reduceCtorEq, h1, h5, hlen2] <;> exact rfl) | exact rfl)) | ((first | apply rc_cond | apply rk_gd); (· (first | (simp (disch := omega) only [evl, Nat.reduceEqDiff, Nat.reduceAdd, reduceIte, reduceCtorEq, h1, h5, hlen2] <;> exact rfl) | exact rfl)); all_goals (intro hb; try simp only [bvl, ne_eq, Bool.not_true, Bool.not_false, reduceCtorEq, not_true_eq_false] at hb)) | (refine rk_gd_u ?_ ?_; · (first | (simp (disch := omega) only [evl, Nat.reduceEqDiff, Nat.reduceAdd, reduceIte, reduceCtorEq, h1, h5, hlen2] <;> exact rfl) | exact rfl))))
  have hlt : ∀ i o n c op, u = .sl i o n c op → i < H.next := fun i o n c op hv => by
    rcases hu.hv with ⟨rfl, _⟩ | ⟨i', o', c', op', ro, op'', e, z', ll, h1, h2, _⟩
    · cases hv
    · rw [h1] at hv; cases hv; exact h2
  have hxl := edL_len false l
  refine rc_loop (eloop1_ok _ H1 u s m (edL false l) H.next (hu.hx (hp1.hx fun _ h => h)) hlt hap (hp1.hide.trans hh) (by rw [hp1.lo]; exact hlo) hnx hom (by omega) (by omega) (by (first | (simp (disch := omega) only [evl, Nat.reduceEqDiff, Nat.reduceAdd, reduceIte, reduceCtorEq, h1] <;> exact rfl) | exact rfl)) (by (first | (simp (disch := omega) only [evl, Nat.reduceEqDiff, Nat.reduceAdd, reduceIte, reduceCtorEq, hlen2] <;> exact rfl) | exact rfl)) (by (first | (simp (disch := omega) only [evl, Nat.reduceEqDiff, Nat.reduceAdd, reduceIte, reduceCtorEq, h5] <;> exact rfl) | exact rfl)) (by (first | (simp (disch := omega) only [evl, Nat.reduceEqDiff, Nat.reduceAdd, reduceIte, reduceCtorEq] <;> exact rfl) | exact rfl))) ?_
  rintro ex T2 H2 ⟨rfl, hp2, s2, h5', hap2⟩
  have hpA : HP (· < H.next) H H2 := hp1.trans hp2 fun j hj h => ⟨h, h⟩
  have hlm := edL_len true m
  have hbd : Bd (edL false l ++ edL true m) := fun e he => by
    rcases List.mem_append.1 he with he | he
    · have := edL_bd false hok (Int.le_refl _) e he; omega
    · have := edL_bd true hom (Int.le_refl _) e he; omega
  (repeat' (first | refine rc_reg ?_ | refine rc_seq ?_ | refine rk_done ?_ | refine rn_seq_n ?_ | refine rc_blk ?_ | refine rc_skip ?_ | refine rc_exit ?_ | refine rc_ret ?_ | refine rc_scp ?_ | refine rn_seq_e ?_ | refine rn_seq_r ?_ | refine rn_blk_n ?_ | refine rn_blk_r ?_ | refine rn_blk_e ?_ | refine rn_scp_n ?_ | refine rn_scp_e ?_ | refine rn_scp_r ?_ | refine rk_sk ?_ | refine rn_blk_x (by decide) ?_ | ((first | apply rk_mv' | apply rk_p1 | apply rk_p2 | apply rk_r1 | apply rk_ln | apply rk_ls); · (first | (simp (disch := omega) only [evl, Nat.reduceEqDiff, Nat.reduceAdd, reduceIte, reduceCtorEq, h5'] <;> exact rfl) | exact rfl)) | ((first | apply rc_cond | apply rk_gd); (· (first | (simp (disch := omega) only [evl, Nat.reduceEqDiff, Nat.reduceAdd, reduceIte, reduceCtorEq, h5'] <;> exact rfl) | exact rfl)); all_goals (intro hb; try simp only [bvl, ne_eq, Bool.not_true, Bool.not_false, reduceCtorEq, not_true_eq_false] at hb)) | (refine rk_gd_u ?_ ?_; · (first | (simp (disch := omega) only [evl, Nat.reduceEqDiff, Nat.reduceAdd, reduceIte, reduceCtorEq, h5'] <;> exact rfl) | exact rfl))))
  refine rk_cl (by (simp (disch := omega) only [evl, Nat.reduceEqDiff, Nat.reduceAdd, reduceIte, reduceCtorEq, h5']); exact sortS_ok H2 s2 (edL false l ++ edL true m) H.next hap2 (by rw [hpA.lo]; exact hlo) (hpA.hide.trans hh) (by rw [List.length_append]; omega) hbd) ?_
  rintro r H3 ⟨hp3, ys, hap3, hperm, hsrt⟩
  simp only [hOut_f]
  rw [← hperm.length_eq] at hap3 hsrt
  (repeat' (first | refine rc_reg ?_ | refine rc_seq ?_ | refine rk_done ?_ | refine rn_seq_n ?_ | refine rc_blk ?_ | refine rc_skip ?_ | refine rc_exit ?_ | refine rc_ret ?_ | refine rc_scp ?_ | refine rn_seq_e ?_ | refine rn_seq_r ?_ | refine rn_blk_n ?_ | refine rn_blk_r ?_ | refine rn_blk_e ?_ | refine rn_scp_n ?_ | refine rn_scp_e ?_ | refine rn_scp_r ?_ | refine rk_sk ?_ | refine rn_blk_x (by decide) ?_ | ((first | apply rk_mv' | apply rk_p1 | apply rk_p2 | apply rk_r1 | apply rk_ln | apply rk_ls); · (first | (simp (disch := omega) only [evl, Nat.reduceEqDiff, Nat.reduceAdd, reduceIte, reduceCtorEq, h5'] <;> exact rfl) | exact rfl)) | ((first | apply rc_cond | apply rk_gd); (· (first | (simp (disch := omega) only [evl, Nat.reduceEqDiff, Nat.reduceAdd, reduceIte, reduceCtorEq, h5'] <;> exact rfl) | exact rfl)); all_goals (intro hb; try simp only [bvl, ne_eq, Bool.not_true, Bool.not_false, reduceCtorEq, not_true_eq_false] at hb)) | (refine rk_gd_u ?_ ?_; · (first | (simp (disch := omega) only [evl, Nat.reduceEqDiff, Nat.reduceAdd, reduceIte, reduceCtorEq, h5'] <;> exact rfl) | exact rfl))))
  refine rn_nil ?_; refine fq_ret (resV_1 _ _) ⟨(hpA.trans hp3 (r := (· < H.next)) fun j hj h => ⟨h, h⟩).hx fun _ h => h, ys, ?_, hperm, hsrt⟩
  (simp (disch := omega) only [evl, Nat.reduceEqDiff, Nat.reduceAdd, reduceIte, reduceCtorEq, h5'])
  exact hap3
end Go.Proofs.Ytnkomaedmblemaa

set_option linter.unusedSimpArgs false
set_option linter.unusedVariables false
set_option maxRecDepth 100000
namespace Go.Proofs.Ytnkomaedmblemaa
open Go.Ev Exl

/-! ### Plain law of the sweep -/
/-- How often a side's edges are at most x: odd? -/
def pr (b : Bool) (x : Int) : List Ed → Bool
  | [] => false
  | e :: l => xor (e.2 == b && decide (e.1 ≤ x)) (pr b x l)
def pre (b : Bool) : List Ed → Bool
  | [] => false
  | e :: l => xor (e.2 == b) (pre b l)
theorem pr_app (b : Bool) (x : Int) (l m : List Ed) : pr b x (l ++ m) = xor (pr b x l) (pr b x m) := by
  induction l with
  | nil => simp [pr]
  | cons e l ih => simp only [List.cons_append, pr, ih, Bool.xor_assoc]
theorem pre_app (b : Bool) (l m : List Ed) : pre b (l ++ m) = xor (pre b l) (pre b m) := by
  induction l with
  | nil => simp [pre]
  | cons e l ih => simp only [List.cons_append, pre, ih, Bool.xor_assoc]
theorem pr_perm {b : Bool} {x : Int} {l m : List Ed} (h : l.Perm m) : pr b x l = pr b x m := by
  induction h with
  | nil => rfl
  | cons e _ ih => simp only [pr, ih]
  | swap e f l => simp only [pr]; rw [Bool.xor_left_comm]
  | trans _ _ ih1 ih2 => exact ih1.trans ih2
theorem pr_le {b : Bool} {x : Int} {l : List Ed} (h : ∀ e ∈ l, e.1 ≤ x) : pr b x l = pre b l := by
  induction l with
  | nil => rfl
  | cons e l ih =>
    simp only [pr, pre, ih (fun f hf => h f (List.mem_cons_of_mem _ hf)), decide_eq_true (h e (List.mem_cons_self ..)), Bool.and_true]
theorem pr_gt {b : Bool} {x : Int} {l : List Ed} (h : ∀ e ∈ l, x < e.1) : pr b x l = false := by
  induction l with
  | nil => rfl
  | cons e l ih =>
    have := h e (List.mem_cons_self ..)
    simp only [pr, ih (fun f hf => h f (List.mem_cons_of_mem _ hf)), decide_eq_false (show ¬ e.1 ≤ x by omega), Bool.and_false, Bool.xor_false]
def hasB (l : List P) (x : Int) : Bool := l.any fun p => decide (p.1 ≤ x) && decide (x < p.1 + p.2)
theorem hasB_iff (l : List P) (x : Int) : hasB l x = true ↔ Has l x := by
  unfold hasB Has
  rw [List.any_eq_true]
  simp only [Bool.and_eq_true, decide_eq_true_eq]
theorem hasB_cons (p : P) (l : List P) (x : Int) : hasB (p :: l) x = (decide (p.1 ≤ x) && decide (x < p.1 + p.2) || hasB l x) := rfl
theorem pr_own (b : Bool) (x : Int) {l : List P} : ∀ {fr : Int}, Ok fr l → pr b x (edL b l) = hasB l x := by
  induction l with
  | nil => intro fr _; rfl
  | cons p l ih =>
    intro fr h
    obtain ⟨h1, h2, h3, h4, h5⟩ := h
    have ih := ih h5
    have hh := fun g => Ok.has h5 x ((hasB_iff l x).1 g)
    rw [hasB_cons]
    show xor (b == b && decide (p.1 ≤ x)) (xor (b == b && decide (p.1 + p.2 ≤ x)) (pr b x (edL b l))) = _
    rw [ih, beq_self_eq_true, Bool.true_and, Bool.true_and]
    cases hb : hasB l x with
    | true =>
      have := hh hb
      rw [decide_eq_true (show p.1 ≤ x by omega), decide_eq_true (show p.1 + p.2 ≤ x by omega)]
      simp
    | false =>
      by_cases g1 : p.1 ≤ x
      · by_cases g2 : p.1 + p.2 ≤ x
        · rw [decide_eq_true g1, decide_eq_true g2, decide_eq_false (show ¬ x < p.1 + p.2 by omega)]; rfl
        · rw [decide_eq_true g1, decide_eq_false g2, decide_eq_true (show x < p.1 + p.2 by omega)]; rfl
      · rw [decide_eq_false g1, decide_eq_false (show ¬ p.1 + p.2 ≤ x by omega)]; rfl
theorem pr_other {b c : Bool} (hbc : (c == b) = false) (x : Int) (l : List P) : pr b x (edL c l) = false := by
  induction l with
  | nil => rfl
  | cons p l ih =>
    show xor (c == b && _) (xor (c == b && _) (pr b x (edL c l))) = _
    rw [ih, hbc]; rfl
theorem pr_l {l m : List P} {ys : List Ed} (hl : Ok 0 l) (h : ys.Perm (edL false l ++ edL true m)) (x : Int) : pr false x ys = hasB l x := by
  rw [pr_perm h, pr_app, pr_own false x hl, pr_other rfl x m, Bool.xor_false]
theorem pr_m {l m : List P} {ys : List Ed} (hm : Ok 0 m) (h : ys.Perm (edL false l ++ edL true m)) (x : Int) : pr true x ys = hasB m x := by
  rw [pr_perm h, pr_app, pr_own true x hm, pr_other rfl x l, Bool.false_xor]

/-- Where the next run may begin. -/
def endq : Int → List P → Int
  | fr, [] => fr
  | _, p :: l => endq (p.1 + p.2 + 1) l
theorem Ok_snoc {l : List P} {p : P} : ∀ {fr : Int}, Ok fr (l ++ [p]) ↔ Ok fr l ∧ endq fr l ≤ p.1 ∧ p.1 < 4096 ∧ 1 ≤ p.2 ∧ p.2 ≤ 4096 - p.1 := by
  induction l with
  | nil =>
    intro fr
    show (fr ≤ p.1 ∧ p.1 < 4096 ∧ 1 ≤ p.2 ∧ p.2 ≤ 4096 - p.1 ∧ True) ↔ True ∧ fr ≤ p.1 ∧ p.1 < 4096 ∧ 1 ≤ p.2 ∧ p.2 ≤ 4096 - p.1
    simp only [and_true, true_and]
  | cons q l ih =>
    intro fr
    show (fr ≤ q.1 ∧ q.1 < 4096 ∧ 1 ≤ q.2 ∧ q.2 ≤ 4096 - q.1 ∧ Ok (q.1 + q.2 + 1) (l ++ [p])) ↔ (fr ≤ q.1 ∧ q.1 < 4096 ∧ 1 ≤ q.2 ∧ q.2 ≤ 4096 - q.1 ∧ Ok (q.1 + q.2 + 1) l) ∧ endq (q.1 + q.2 + 1) l ≤ p.1 ∧ _
    rw [ih]
    simp only [and_assoc]
theorem endq_snoc {l : List P} {p : P} : ∀ {fr : Int}, endq fr (l ++ [p]) = p.1 + p.2 + 1 := by
  induction l with
  | nil => intro fr; rfl
  | cons q l ih => intro fr; exact ih
theorem Has_app (l : List P) (p : P) (x : Int) : Has (l ++ [p]) x ↔ Has l x ∨ (p.1 ≤ x ∧ x < p.1 + p.2) := by
  unfold Has
  constructor
  · rintro ⟨q, hq, h⟩
    rcases List.mem_append.1 hq with hq | hq
    · exact .inl ⟨q, hq, h⟩
    · rw [List.mem_singleton] at hq; subst hq; exact .inr h
  · rintro (⟨q, hq, h⟩ | h)
    · exact ⟨q, List.mem_append_left _ hq, h⟩
    · exact ⟨p, List.mem_append_right _ (List.mem_singleton.2 rfl), h⟩
theorem put_law {out : List P} {a s : Int} (h : Ok 0 out) (he : endq 0 out ≤ a + 1) (ha : 0 ≤ a) (hs : 1 ≤ s) (hu : a + s ≤ 4096) :
    Ok 0 (put out a s) ∧ endq 0 (put out a s) = a + s + 1 ∧ ∀ x, Has (put out a s) x ↔ Has out x ∨ (a ≤ x ∧ x < a + s) := by
  by_cases hn : out = []
  · subst hn
    rw [put_new (.inl rfl)]
    exact ⟨Ok_snoc.2 ⟨trivial, ha, by omega, hs, by omega⟩, endq_snoc, fun x => Has_app _ _ x⟩
  · obtain ⟨d, p, rfl⟩ : ∃ d p, out = d ++ [p] := ⟨out.dropLast, out.getLast hn, (List.dropLast_concat_getLast hn).symm⟩
    have e1 : exG (d ++ [p]) ((d ++ [p]).length - 1) = p := by simp [exG]
    rw [endq_snoc] at he
    by_cases hj : p.1 + p.2 = a
    · have e2 : put (d ++ [p]) a s = d ++ [(p.1, p.2 + s)] := by
        unfold put
        rw [e1, if_pos ⟨hn, hj⟩]
        simp
      rw [e2]
      obtain ⟨g1, g2, g3, g4, g5⟩ := Ok_snoc.1 h
      refine ⟨Ok_snoc.2 ⟨g1, g2, g3, by simp only; omega, by simp only; omega⟩, by rw [endq_snoc]; simp only; omega, fun x => ?_⟩
      rw [Has_app, Has_app]
      simp only
      constructor
      · rintro (h | h)
        · exact .inl (.inl h)
        · by_cases hx : x < p.1 + p.2
          · exact .inl (.inr ⟨h.1, hx⟩)
          · exact .inr (by omega)
      · rintro ((h | h) | h)
        · exact .inl h
        · exact .inr (by omega)
        · exact .inr (by omega)
    · have hle : lastE (d ++ [p]) < a := by unfold lastE; rw [e1]; omega
      rw [put_new (.inr hle)]
      exact ⟨Ok_snoc.2 ⟨h, by rw [endq_snoc]; simp only; omega, by simp only; omega, hs, by simp only; omega⟩, endq_snoc, fun x => Has_app _ _ x⟩
theorem edG_mem {l : List Ed} {k : Nat} (h : k < l.length) : edG l k ∈ l := by
  rw [edG_el h]; exact List.getElem_mem h
theorem ed_take (l : List Ed) {i : Nat} (h : i < l.length) : l.take (i + 1) = l.take i ++ [edG l i] := by
  rw [List.take_add_one, List.getElem?_eq_getElem h, edG_el h]; rfl
theorem ed_in_take {l : List Ed} {i : Nat} {e : Ed} (h : e ∈ l.take i) : ∃ j, j < i ∧ j < l.length ∧ edG l j = e := by
  obtain ⟨j, hj⟩ := List.mem_iff_getElem?.1 h
  have hjl := (List.getElem?_eq_some_iff.1 hj).1
  rw [List.length_take] at hjl
  rw [List.getElem?_take_of_lt (by omega), edG_get (by omega)] at hj
  exact ⟨j, by omega, by omega, Option.some.inj hj⟩
theorem ed_in_drop {l : List Ed} {i : Nat} {e : Ed} (h : e ∈ l.drop i) : ∃ j, i ≤ j ∧ j < l.length ∧ edG l j = e := by
  obtain ⟨j, hj⟩ := List.mem_iff_getElem?.1 h
  have hjl := (List.getElem?_eq_some_iff.1 hj).1
  rw [List.length_drop] at hjl
  rw [List.getElem?_drop, edG_get (by omega)] at hj
  exact ⟨i + j, by omega, by omega, Option.some.inj hj⟩

/-- What is so ahead of the i-th edge. -/
structure Swp (f : Bool → Bool → Bool) (ys : List Ed) (i : Nat) (at' : Int) (a b : Bool) (out : List P) : Prop where
  ok : Ok 0 out
  en : endq 0 out ≤ at' + 1
  lo : 0 ≤ at'
  hi : at' ≤ 4096
  le : ∀ j, j < i → key ys j ≤ at'
  ge : ∀ j, i ≤ j → j < ys.length → at' ≤ key ys j
  pa : a = pre false (ys.take i)
  pb : b = pre true (ys.take i)
  has : ∀ x, Has out x ↔ 0 ≤ x ∧ x < at' ∧ f (pr false x ys) (pr true x ys) = true
theorem Swp.init (f : Bool → Bool → Bool) {ys : List Ed} (hb : ∀ e ∈ ys, 0 ≤ e.1 ∧ e.1 ≤ 4096) : Swp f ys 0 0 false false [] :=
  ⟨trivial, by show (0 : Int) ≤ 1; decide, Int.le_refl _, by decide, fun j hj => by omega, fun j _ hj => (hb _ (edG_mem hj)).1, rfl, rfl, fun x => ⟨fun h => absurd h (Has_nil x), fun h => by omega⟩⟩
theorem pr_at {b : Bool} {x : Int} {ys : List Ed} {i : Nat} (h1 : ∀ j, j < i → key ys j ≤ x) (h2 : ∀ j, i ≤ j → j < ys.length → x < key ys j) : pr b x ys = pre b (ys.take i) := by
  have e : ys = ys.take i ++ ys.drop i := (List.take_append_drop i ys).symm
  rw [show pr b x ys = pr b x (ys.take i ++ ys.drop i) from by rw [← e], pr_app, pr_le (l := ys.take i), pr_gt (l := ys.drop i), Bool.xor_false]
  · intro e he
    obtain ⟨j, g1, g2, rfl⟩ := ed_in_drop he
    exact h2 j g1 g2
  · intro e he
    obtain ⟨j, g1, g2, rfl⟩ := ed_in_take he
    exact h1 j g1
theorem Swp.step {f : Bool → Bool → Bool} {ys : List Ed} {i : Nat} {at' : Int} {a b : Bool} {out : List P} (h : Swp f ys i at' a b out) (hi : i < ys.length) (hs : srt ys 0 ys.length) (hb : ∀ e ∈ ys, 0 ≤ e.1 ∧ e.1 ≤ 4096) :
    Swp f ys (i + 1) (edG ys i).1 (xor ((edG ys i).2 == false) a) (xor ((edG ys i).2 == true) b) (if at' < (edG ys i).1 ∧ f a b = true then put out at' ((edG ys i).1 - at') else out) := by
  have hge : at' ≤ (edG ys i).1 := h.ge i (Nat.le_refl _) hi
  have hbb := hb _ (edG_mem hi)
  have hgj : ∀ j, i ≤ j → j < ys.length → (edG ys i).1 ≤ key ys j := fun j hj hjl => by
    by_cases hji : j = i
    · subst hji; exact Int.le_refl _
    · exact hs i j (Nat.zero_le _) (by omega) hjl
  have hF : ∀ x, at' ≤ x → x < (edG ys i).1 → f (pr false x ys) (pr true x ys) = f a b := fun x hx1 hx2 => by
    rw [h.pa, h.pb, pr_at (i := i) (fun j hj => by have := h.le j hj; omega) (fun j hj hjl => by have := hgj j hj hjl; omega), pr_at (i := i) (fun j hj => by have := h.le j hj; omega) (fun j hj hjl => by have := hgj j hj hjl; omega)]
  have hle' : ∀ j, j < i + 1 → key ys j ≤ (edG ys i).1 := fun j hj => by
    by_cases hji : j = i
    · subst hji; exact Int.le_refl _
    · have := h.le j (by omega); omega
  have hpa : xor ((edG ys i).2 == false) a = pre false (ys.take (i + 1)) := by
    rw [ed_take ys hi, pre_app, ← h.pa]; show _ = xor a (xor _ false); rw [Bool.xor_false, Bool.xor_comm]
  have hpb : xor ((edG ys i).2 == true) b = pre true (ys.take (i + 1)) := by
    rw [ed_take ys hi, pre_app, ← h.pb]; show _ = xor b (xor _ false); rw [Bool.xor_false, Bool.xor_comm]
  by_cases hc : at' < (edG ys i).1 ∧ f a b = true
  · rw [if_pos hc]
    obtain ⟨p1, p2, p3⟩ := put_law (a := at') (s := (edG ys i).1 - at') h.ok h.en h.lo (by omega) (by omega)
    refine ⟨p1, by rw [p2]; omega, by omega, by omega, hle', fun j hj hjl => hgj j (by omega) hjl, hpa, hpb, fun x => ?_⟩
    rw [p3, h.has]
    constructor
    · rintro (⟨g1, g2, g3⟩ | ⟨g1, g2⟩)
      · exact ⟨g1, by omega, g3⟩
      · have := h.lo
        exact ⟨by omega, by omega, by rw [hF x g1 (by omega)]; exact hc.2⟩
    · rintro ⟨g1, g2, g3⟩
      by_cases hx : x < at'
      · exact .inl ⟨g1, hx, g3⟩
      · exact .inr ⟨by omega, by omega⟩
  · rw [if_neg hc]
    have := h.en
    have := h.lo
    refine ⟨h.ok, by omega, by omega, by omega, hle', fun j hj hjl => hgj j (by omega) hjl, hpa, hpb, fun x => ?_⟩
    rw [h.has]
    constructor
    · rintro ⟨g1, g2, g3⟩
      exact ⟨g1, by omega, g3⟩
    · rintro ⟨g1, g2, g3⟩
      by_cases hx : x < at'
      · exact ⟨g1, hx, g3⟩
      · rw [hF x (by omega) g2] at g3
        exact absurd ⟨by omega, g3⟩ hc
theorem Swp.fin {f : Bool → Bool → Bool} {l m : List P} {ys : List Ed} {at' : Int} {a b : Bool} {out : List P} (h : Swp f ys ys.length at' a b out) (hf : f false false = false) (hl : Ok 0 l) (hm : Ok 0 m) (hp : ys.Perm (edL false l ++ edL true m)) :
    Ok 0 out ∧ ∀ x, Has out x ↔ 0 ≤ x ∧ f (hasB l x) (hasB m x) = true := by
  have no : ∀ {q : List P}, Ok 0 q → ∀ x, 4096 ≤ x → hasB q x = false := fun {q} hq x hx => by
    cases hb : hasB q x with
    | false => rfl
    | true => have := Ok.has hq x ((hasB_iff q x).1 hb); omega
  refine ⟨h.ok, fun x => ?_⟩
  rw [h.has, pr_l hl hp, pr_m hm hp]
  constructor
  · rintro ⟨g1, _, g3⟩; exact ⟨g1, g3⟩
  · rintro ⟨g1, g3⟩
    refine ⟨g1, ?_, g3⟩
    by_cases hx : x < at'
    · exact hx
    · have hall : ∀ y, at' ≤ y → ∀ c, pr c y ys = pre c ys := fun y hy c => by
        have := pr_at (b := c) (x := y) (ys := ys) (i := ys.length) (fun j hj => by have := h.le j hj; omega) (fun j hj hjl => by omega)
        rw [List.take_length] at this; exact this
      have e1 := hall x (by omega) false
      have e2 := hall x (by omega) true
      have e3 := hall (max at' 4096) (by omega) false
      have e4 := hall (max at' 4096) (by omega) true
      rw [pr_l hl hp] at e1 e3
      rw [pr_m hm hp] at e2 e4
      rw [no hl _ (by omega)] at e3
      rw [no hm _ (by omega)] at e4
      rw [e1, e2, ← e3, ← e4, hf] at g3
      cases g3

/-! ### The list that is made of two -/
def mkS (f : Bool → Bool → Bool) (l m : List P) : List Bool := (List.range 4096).map fun i => f (hasB l (i : Nat)) (hasB m (i : Nat))
def mkX (f : Bool → Bool → Bool) (l m : List P) : List P := runsTo (mkS f l m) 4096
theorem mkS_get (f : Bool → Bool → Bool) (l m : List P) {i : Nat} (hi : i < 4096) : (mkS f l m).getD i false = f (hasB l (i : Nat)) (hasB m (i : Nat)) := by
  unfold mkS
  rw [List.getD_eq_getElem?_getD, List.getElem?_map, List.getElem?_range hi]; rfl
theorem mkX_eq {f : Bool → Bool → Bool} {l m out : List P} (h : Ok 0 out) (hx : ∀ x, Has out x ↔ 0 ≤ x ∧ f (hasB l x) (hasB m x) = true) : mkX f l m = out :=
  runs_eq h fun i hi => by rw [mkS_get f l m hi, hx]; exact ⟨fun h => ⟨by omega, h⟩, fun h => h.2⟩
end Go.Proofs.Ytnkomaedmblemaa
