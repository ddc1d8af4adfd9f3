import Derived.Test.YthnmcpkoplmggaaCtB
set_option linter.unusedSimpArgs false
set_option linter.unusedVariables false
namespace Go.Proofs.Ythnmcpkoplmggaa
open Go.Ev Plc

theorem lent_slI {H : AH} {i c : Nat} {op : Bool} {l : List Int} (h : Row H i false false 3 1 (lentCInts l (l.length + 3))) (hi : i < H.next) : SlI H (.sl i 0 l.length c op) l :=
  h.slR hi (Nat.zero_le _) fun k hk => by rw [Nat.zero_add, lentCInts_get _ _ _ (by omega), if_pos hk]
theorem lent_slB {H : AH} {i c : Nat} {op : Bool} {l : List Bool} (h : Row H i false false 4 1 (lentCBools l (l.length + 3))) (hi : i < H.next) : SlB H (.sl i 0 l.length c op) l :=
  h.slR hi (Nat.zero_le _) fun k hk => by rw [Nat.zero_add, lentCBools_get _ _ _ (by omega), if_pos hk]

set_option maxHeartbeats 4000000 in
theorem placeMany_law (H : AH) (v w : AV) (l : List Int) (m : List Bool) (c : Int) (hs : SlI H v l) (hw : SlB H w m) (hh : H.hide = []) (hlo : H.lo ≤ H.next) (hz : H.fz = false) (hl : l.length ≤ 9223372036854775807) (hm : m.length ≤ 9223372036854775807) :
    FnE look 4 [v, w, .int .i64 c] H fun r H' => r = .bool true ∧ H'.fz = false := by
  refine fn_intro f4_eq (noext rfl) rfl ?_
  unfold f4c
  have hlen := fun H' => len_el (H' := H') u22 hs.is
  have hlenw := fun H' => len_el (H' := H') u23 hw.is
  by_cases hsmall : l.length ≤ 12 ∧ m.length ≤ 12
  rotate_left
  · (repeat' (first | refine rc_reg ?_ | refine rc_seq ?_ | refine rk_done ?_ | refine rn_seq_n ?_ | refine rc_blk ?_ | refine rc_skip ?_ | refine rc_exit ?_ | refine rc_ret ?_ | refine rc_scp ?_ | refine rn_seq_e ?_ | refine rn_seq_r ?_ | refine rn_blk_n ?_ | refine rn_blk_r ?_ | refine rn_blk_e ?_ | refine rn_scp_n ?_ | refine rn_scp_e ?_ | refine rn_scp_r ?_ | refine rk_sk ?_ | refine rn_blk_x (by decide) ?_ | ((first | apply rk_mv' | apply rk_p1 | apply rk_p2 | apply rk_r1 | apply rk_ln | apply rk_ls); · (first | (simp (disch := omega) only [evl, Nat.reduceEqDiff, Nat.reduceAdd, reduceIte, reduceCtorEq, hlen, hlenw] <;> exact rfl) | exact rfl)) | ((first | apply rc_cond | apply rk_gd); (· (first | (simp (disch := omega) only [evl, Nat.reduceEqDiff, Nat.reduceAdd, reduceIte, reduceCtorEq, hlen, hlenw] <;> exact rfl) | exact rfl)); all_goals (intro hb; try simp only [bvl, ne_eq, Bool.not_true, Bool.not_false, reduceCtorEq] at hb)) | (refine rk_gd_u ?_ ?_; · (first | (simp (disch := omega) only [evl, Nat.reduceEqDiff, Nat.reduceAdd, reduceIte, reduceCtorEq, hlen, hlenw] <;> exact rfl) | exact rfl))))
    all_goals
      refine rk_cl (by (simp (disch := omega) only [evl, Nat.reduceEqDiff, Nat.reduceAdd, reduceIte, reduceCtorEq]); exact awake_ok H) ?_
      rintro r H1 ⟨rfl, rfl⟩
      simp only [hOut_f]
      (repeat' (first | refine rc_reg ?_ | refine rc_seq ?_ | refine rk_done ?_ | refine rn_seq_n ?_ | refine rc_blk ?_ | refine rc_skip ?_ | refine rc_exit ?_ | refine rc_ret ?_ | refine rc_scp ?_ | refine rn_seq_e ?_ | refine rn_seq_r ?_ | refine rn_blk_n ?_ | refine rn_blk_r ?_ | refine rn_blk_e ?_ | refine rn_scp_n ?_ | refine rn_scp_e ?_ | refine rn_scp_r ?_ | refine rk_sk ?_ | refine rn_blk_x (by decide) ?_ | ((first | apply rk_mv' | apply rk_p1 | apply rk_p2 | apply rk_r1 | apply rk_ln | apply rk_ls); · (first | (simp (disch := omega) only [evl, Nat.reduceEqDiff, Nat.reduceAdd, reduceIte, reduceCtorEq] <;> exact rfl) | exact rfl)) | ((first | apply rc_cond | apply rk_gd); (· (first | (simp (disch := omega) only [evl, Nat.reduceEqDiff, Nat.reduceAdd, reduceIte, reduceCtorEq] <;> exact rfl) | exact rfl)); all_goals (intro hb; try simp only [bvl, ne_eq, Bool.not_true, Bool.not_false, reduceCtorEq] at hb)) | (refine rk_gd_u ?_ ?_; · (first | (simp (disch := omega) only [evl, Nat.reduceEqDiff, Nat.reduceAdd, reduceIte, reduceCtorEq] <;> exact rfl) | exact rfl))))
      refine rn_nil ?_; refine fq_ret (resV_1 _ _) ⟨?_, hz⟩
      (simp (disch := omega) only [evl, Nat.reduceEqDiff, Nat.reduceAdd, reduceIte, reduceCtorEq])
  obtain ⟨hl12, hm12⟩ := hsmall
  (repeat' (first | refine rc_reg ?_ | refine rc_seq ?_ | refine rk_done ?_ | refine rn_seq_n ?_ | refine rc_blk ?_ | refine rc_skip ?_ | refine rc_exit ?_ | refine rc_ret ?_ | refine rc_scp ?_ | refine rn_seq_e ?_ | refine rn_seq_r ?_ | refine rn_blk_n ?_ | refine rn_blk_r ?_ | refine rn_blk_e ?_ | refine rn_scp_n ?_ | refine rn_scp_e ?_ | refine rn_scp_r ?_ | refine rk_sk ?_ | refine rn_blk_x (by decide) ?_ | ((first | apply rk_mv' | apply rk_p1 | apply rk_p2 | apply rk_r1 | apply rk_ln | apply rk_ls); · (first | (simp (disch := omega) only [evl, Nat.reduceEqDiff, Nat.reduceAdd, reduceIte, reduceCtorEq, hlen, hlenw] <;> exact rfl) | exact rfl)) | ((first | apply rc_cond | apply rk_gd); (· (first | (simp (disch := omega) only [evl, Nat.reduceEqDiff, Nat.reduceAdd, reduceIte, reduceCtorEq, hlen, hlenw] <;> exact rfl) | exact rfl)); all_goals (intro hb; try simp only [bvl, ne_eq, Bool.not_true, Bool.not_false, reduceCtorEq] at hb)) | (refine rk_gd_u ?_ ?_; · (first | (simp (disch := omega) only [evl, Nat.reduceEqDiff, Nat.reduceAdd, reduceIte, reduceCtorEq, hlen, hlenw] <;> exact rfl) | exact rfl))))
  refine rk_cl (by (simp (disch := omega) only [evl, Nat.reduceEqDiff, Nat.reduceAdd, reduceIte, reduceCtorEq]); exact lentInts_ok H v l hs hh hlo (by omega)) ?_
  rintro r H1 ⟨rfl, hx1, hn1, hr1⟩
  simp only [hOut_f]
  (repeat' (first | refine rc_reg ?_ | refine rc_seq ?_ | refine rk_done ?_ | refine rn_seq_n ?_ | refine rc_blk ?_ | refine rc_skip ?_ | refine rc_exit ?_ | refine rc_ret ?_ | refine rc_scp ?_ | refine rn_seq_e ?_ | refine rn_seq_r ?_ | refine rn_blk_n ?_ | refine rn_blk_r ?_ | refine rn_blk_e ?_ | refine rn_scp_n ?_ | refine rn_scp_e ?_ | refine rn_scp_r ?_ | refine rk_sk ?_ | refine rn_blk_x (by decide) ?_ | ((first | apply rk_mv' | apply rk_p1 | apply rk_p2 | apply rk_r1 | apply rk_ln | apply rk_ls); · (first | (simp (disch := omega) only [evl, Nat.reduceEqDiff, Nat.reduceAdd, reduceIte, reduceCtorEq] <;> exact rfl) | exact rfl)) | ((first | apply rc_cond | apply rk_gd); (· (first | (simp (disch := omega) only [evl, Nat.reduceEqDiff, Nat.reduceAdd, reduceIte, reduceCtorEq] <;> exact rfl) | exact rfl)); all_goals (intro hb; try simp only [bvl, ne_eq, Bool.not_true, Bool.not_false, reduceCtorEq] at hb)) | (refine rk_gd_u ?_ ?_; · (first | (simp (disch := omega) only [evl, Nat.reduceEqDiff, Nat.reduceAdd, reduceIte, reduceCtorEq] <;> exact rfl) | exact rfl))))
  have hlo1 : H1.lo ≤ H1.next := by rw [hx1.lo]; omega
  refine rk_cl (by (simp (disch := omega) only [evl, Nat.reduceEqDiff, Nat.reduceAdd, reduceIte, reduceCtorEq]); exact lentBools_ok H1 w m (hw.hx hx1) (hx1.hide.trans hh) hlo1 (by omega)) ?_
  rintro r H2 ⟨rfl, hx2, hn2, hr2⟩
  simp only [hOut_f]
  (repeat' (first | refine rc_reg ?_ | refine rc_seq ?_ | refine rk_done ?_ | refine rn_seq_n ?_ | refine rc_blk ?_ | refine rc_skip ?_ | refine rc_exit ?_ | refine rc_ret ?_ | refine rc_scp ?_ | refine rn_seq_e ?_ | refine rn_seq_r ?_ | refine rn_blk_n ?_ | refine rn_blk_r ?_ | refine rn_blk_e ?_ | refine rn_scp_n ?_ | refine rn_scp_e ?_ | refine rn_scp_r ?_ | refine rk_sk ?_ | refine rn_blk_x (by decide) ?_ | ((first | apply rk_mv' | apply rk_p1 | apply rk_p2 | apply rk_r1 | apply rk_ln | apply rk_ls); · (first | (simp (disch := omega) only [evl, Nat.reduceEqDiff, Nat.reduceAdd, reduceIte, reduceCtorEq] <;> exact rfl) | exact rfl)) | ((first | apply rc_cond | apply rk_gd); (· (first | (simp (disch := omega) only [evl, Nat.reduceEqDiff, Nat.reduceAdd, reduceIte, reduceCtorEq] <;> exact rfl) | exact rfl)); all_goals (intro hb; try simp only [bvl, ne_eq, Bool.not_true, Bool.not_false, reduceCtorEq] at hb)) | (refine rk_gd_u ?_ ?_; · (first | (simp (disch := omega) only [evl, Nat.reduceEqDiff, Nat.reduceAdd, reduceIte, reduceCtorEq] <;> exact rfl) | exact rfl))))
  have hx12 := hx1.trans hx2
  have hlo2 : H2.lo ≤ H2.next := by rw [hx12.lo]; omega
  have hr1' := hr1.hx hx2 (by omega)
  refine rk_cl (by (simp (disch := omega) only [evl, Nat.reduceEqDiff, Nat.reduceAdd, reduceIte, reduceCtorEq]); exact Many_ok H2 _ _ l m c (lent_slI hr1' (by omega)) (lent_slB hr2 (by omega)) (hx12.hide.trans hh) hlo2 (by omega) (by omega)) ?_
  rintro r H3 ⟨hx3, hres⟩
  simp only [hOut_f]
  have hx13 := hx12.trans hx3
  have hr1a := hr1'.hx hx3 (by omega)
  have hr2a := hr2.hx hx3 (by omega)
  have hlo3 : H3.lo ≤ H3.next := by rw [hx13.lo]; have := hx13.next; omega
  have hn3 := hx3.next
  have key : ∀ (a e : Int), (∃ H3', H3' = H3) → r = .tup [.int .i64 a, .int .i64 e] →
      (∀ (r' : AV) (H4 : AH), (HX H3 H4 ∧ ((¬ okRoom l m c ∧ r' = .tup [.int .i64 0, .int .i64 2]) ∨ (okRoom l m c ∧ ∃ n : Nat, ManyR m c l n ∧ (n : Int) ≤ sumL l ∧ r' = .tup [.int .i64 n, .int .i64 0]))) → r' = .tup [.int .i64 a, .int .i64 e]) := by
    rintro a e _ rfl r' H4 ⟨hx4, hres'⟩
    rcases hres with ⟨hno, he⟩ | ⟨hok, n, hmn, _, he⟩ <;> rcases hres' with ⟨hno', he'⟩ | ⟨hok', n', hmn', _, he'⟩
    · rw [he, he']
    · exact absurd hok' hno
    · exact absurd hok hno'
    · rw [he, he', hmn.uniq hmn']
  obtain ⟨a, e, hr⟩ : ∃ a e : Int, r = .tup [.int .i64 a, .int .i64 e] := by
    rcases hres with ⟨_, he⟩ | ⟨_, n, _, _, he⟩ <;> exact ⟨_, _, he⟩
  have key2 := key a e ⟨_, rfl⟩ hr
  clear key hres
  subst hr
  (repeat' (first | refine rc_reg ?_ | refine rc_seq ?_ | refine rk_done ?_ | refine rn_seq_n ?_ | refine rc_blk ?_ | refine rc_skip ?_ | refine rc_exit ?_ | refine rc_ret ?_ | refine rc_scp ?_ | refine rn_seq_e ?_ | refine rn_seq_r ?_ | refine rn_blk_n ?_ | refine rn_blk_r ?_ | refine rn_blk_e ?_ | refine rn_scp_n ?_ | refine rn_scp_e ?_ | refine rn_scp_r ?_ | refine rk_sk ?_ | refine rn_blk_x (by decide) ?_ | ((first | apply rk_mv' | apply rk_p1 | apply rk_p2 | apply rk_r1 | apply rk_ln | apply rk_ls); · (first | (simp (disch := omega) only [evl, Nat.reduceEqDiff, Nat.reduceAdd, reduceIte, reduceCtorEq] <;> exact rfl) | exact rfl)) | ((first | apply rc_cond | apply rk_gd); (· (first | (simp (disch := omega) only [evl, Nat.reduceEqDiff, Nat.reduceAdd, reduceIte, reduceCtorEq] <;> exact rfl) | exact rfl)); all_goals (intro hb; try simp only [bvl, ne_eq, Bool.not_true, Bool.not_false, reduceCtorEq] at hb)) | (refine rk_gd_u ?_ ?_; · (first | (simp (disch := omega) only [evl, Nat.reduceEqDiff, Nat.reduceAdd, reduceIte, reduceCtorEq] <;> exact rfl) | exact rfl))))
  refine rk_cl (by (simp (disch := omega) only [evl, Nat.reduceEqDiff, Nat.reduceAdd, reduceIte, reduceCtorEq]); exact refMany_ok H3 v w l m c (hs.hx hx13) (hw.hx hx13) (hx13.hide.trans hh) hlo3 (by omega) (by omega)) ?_
  intro r' H4 hR'
  have hr' := key2 r' H4 hR'
  obtain ⟨hx4, _⟩ := hR'
  subst hr'
  clear key2
  simp only [hOut_f]
  have hx14 := hx13.trans hx4
  have hn4 := hx4.next
  (repeat' (first | refine rc_reg ?_ | refine rc_seq ?_ | refine rk_done ?_ | refine rn_seq_n ?_ | refine rc_blk ?_ | refine rc_skip ?_ | refine rc_exit ?_ | refine rc_ret ?_ | refine rc_scp ?_ | refine rn_seq_e ?_ | refine rn_seq_r ?_ | refine rn_blk_n ?_ | refine rn_blk_r ?_ | refine rn_blk_e ?_ | refine rn_scp_n ?_ | refine rn_scp_e ?_ | refine rn_scp_r ?_ | refine rk_sk ?_ | refine rn_blk_x (by decide) ?_ | ((first | apply rk_mv' | apply rk_p1 | apply rk_p2 | apply rk_r1 | apply rk_ln | apply rk_ls); · (first | (simp (disch := omega) only [evl, Nat.reduceEqDiff, Nat.reduceAdd, reduceIte, reduceCtorEq] <;> exact rfl) | exact rfl)) | ((first | apply rc_cond | apply rk_gd); (· (first | (simp (disch := omega) only [evl, Nat.reduceEqDiff, Nat.reduceAdd, reduceIte, reduceCtorEq] <;> exact rfl) | exact rfl)); all_goals (intro hb; try simp only [bvl, ne_eq, Bool.not_true, Bool.not_false, reduceCtorEq] at hb)) | (refine rk_gd_u ?_ ?_; · (first | (simp (disch := omega) only [evl, Nat.reduceEqDiff, Nat.reduceAdd, reduceIte, reduceCtorEq] <;> exact rfl) | exact rfl))))
  refine rk_cl (by (simp (disch := omega) only [evl, Nat.reduceEqDiff, Nat.reduceAdd, reduceIte, reduceCtorEq]); exact keptInts_ok H4 v H.next l (hs.hx hx14) (hr1a.hx hx4 (by omega)) (by omega) (hx14.hide.trans hh) (by rw [hx14.lo]; omega) (by omega)) ?_
  rintro r H5 ⟨rfl, hx5⟩
  simp only [hOut_f]
  have hx15 := hx14.trans hx5
  have hn5 := hx5.next
  (repeat' (first | refine rc_reg ?_ | refine rc_seq ?_ | refine rk_done ?_ | refine rn_seq_n ?_ | refine rc_blk ?_ | refine rc_skip ?_ | refine rc_exit ?_ | refine rc_ret ?_ | refine rc_scp ?_ | refine rn_seq_e ?_ | refine rn_seq_r ?_ | refine rn_blk_n ?_ | refine rn_blk_r ?_ | refine rn_blk_e ?_ | refine rn_scp_n ?_ | refine rn_scp_e ?_ | refine rn_scp_r ?_ | refine rk_sk ?_ | refine rn_blk_x (by decide) ?_ | ((first | apply rk_mv' | apply rk_p1 | apply rk_p2 | apply rk_r1 | apply rk_ln | apply rk_ls); · (first | (simp (disch := omega) only [evl, Nat.reduceEqDiff, Nat.reduceAdd, reduceIte, reduceCtorEq] <;> exact rfl) | exact rfl)) | ((first | apply rc_cond | apply rk_gd); (· (first | (simp (disch := omega) only [evl, Nat.reduceEqDiff, Nat.reduceAdd, reduceIte, reduceCtorEq] <;> exact rfl) | exact rfl)); all_goals (intro hb; try simp only [bvl, ne_eq, Bool.not_true, Bool.not_false, reduceCtorEq] at hb)) | (refine rk_gd_u ?_ ?_; · (first | (simp (disch := omega) only [evl, Nat.reduceEqDiff, Nat.reduceAdd, reduceIte, reduceCtorEq] <;> exact rfl) | exact rfl))))
  refine rk_cl (by (simp (disch := omega) only [evl, Nat.reduceEqDiff, Nat.reduceAdd, reduceIte, reduceCtorEq]); exact keptBools_ok H5 w H1.next m (hw.hx hx15) ((hr2a.hx hx4 (by omega)).hx hx5 (by omega)) (by omega) (hx15.hide.trans hh) (by rw [hx15.lo]; omega) (by omega)) ?_
  rintro r H6 ⟨rfl, hx6⟩
  simp only [hOut_f]
  (repeat' (first | refine rc_reg ?_ | refine rc_seq ?_ | refine rk_done ?_ | refine rn_seq_n ?_ | refine rc_blk ?_ | refine rc_skip ?_ | refine rc_exit ?_ | refine rc_ret ?_ | refine rc_scp ?_ | refine rn_seq_e ?_ | refine rn_seq_r ?_ | refine rn_blk_n ?_ | refine rn_blk_r ?_ | refine rn_blk_e ?_ | refine rn_scp_n ?_ | refine rn_scp_e ?_ | refine rn_scp_r ?_ | refine rk_sk ?_ | refine rn_blk_x (by decide) ?_ | ((first | apply rk_mv' | apply rk_p1 | apply rk_p2 | apply rk_r1 | apply rk_ln | apply rk_ls); · (first | (simp (disch := omega) only [evl, Nat.reduceEqDiff, Nat.reduceAdd, reduceIte, reduceCtorEq] <;> exact rfl) | exact rfl)) | ((first | apply rc_cond | apply rk_gd); (· (first | (simp (disch := omega) only [evl, Nat.reduceEqDiff, Nat.reduceAdd, reduceIte, reduceCtorEq] <;> exact rfl) | exact rfl)); all_goals (intro hb; try simp only [bvl, ne_eq, Bool.not_true, Bool.not_false, reduceCtorEq] at hb)) | (refine rk_gd_u ?_ ?_; · (first | (simp (disch := omega) only [evl, Nat.reduceEqDiff, Nat.reduceAdd, reduceIte, reduceCtorEq] <;> exact rfl) | exact rfl))))
  refine rk_cl (by (simp (disch := omega) only [evl, Nat.reduceEqDiff, Nat.reduceAdd, reduceIte, reduceCtorEq]); exact awake_ok H6) ?_
  rintro r H7 ⟨rfl, rfl⟩
  simp only [hOut_f]
  (repeat' (first | refine rc_reg ?_ | refine rc_seq ?_ | refine rk_done ?_ | refine rn_seq_n ?_ | refine rc_blk ?_ | refine rc_skip ?_ | refine rc_exit ?_ | refine rc_ret ?_ | refine rc_scp ?_ | refine rn_seq_e ?_ | refine rn_seq_r ?_ | refine rn_blk_n ?_ | refine rn_blk_r ?_ | refine rn_blk_e ?_ | refine rn_scp_n ?_ | refine rn_scp_e ?_ | refine rn_scp_r ?_ | refine rk_sk ?_ | refine rn_blk_x (by decide) ?_ | ((first | apply rk_mv' | apply rk_p1 | apply rk_p2 | apply rk_r1 | apply rk_ln | apply rk_ls); · (first | (simp (disch := omega) only [evl, Nat.reduceEqDiff, Nat.reduceAdd, reduceIte, reduceCtorEq] <;> exact rfl) | exact rfl)) | ((first | apply rc_cond | apply rk_gd); (· (first | (simp (disch := omega) only [evl, Nat.reduceEqDiff, Nat.reduceAdd, reduceIte, reduceCtorEq] <;> exact rfl) | exact rfl)); all_goals (intro hb; try simp only [bvl, ne_eq, Bool.not_true, Bool.not_false, reduceCtorEq] at hb)) | (refine rk_gd_u ?_ ?_; · (first | (simp (disch := omega) only [evl, Nat.reduceEqDiff, Nat.reduceAdd, reduceIte, reduceCtorEq] <;> exact rfl) | exact rfl))))
  refine rn_nil ?_; refine fq_ret (resV_1 _ _) ⟨?_, (hx15.trans hx6).fz.trans hz⟩
  (simp (disch := omega) only [evl, Nat.reduceEqDiff, Nat.reduceAdd, reduceIte, reduceCtorEq])
end Go.Proofs.Ythnmcpkoplmggaa

set_option linter.unusedSimpArgs false
set_option linter.unusedVariables false
namespace Go.Proofs.Ythnmcpkoplmggaa
open Go.Ev Plc

noncomputable def chE (ok : Prop) (res : Option (List Int)) : Int := open Classical in if ok then (match res with | none => 15 | some _ => 0) else 2
noncomputable def chL (ok : Prop) (res : Option (List Int)) : List Int := open Classical in if ok then res.getD [] else []
theorem chR_view {H : AH} {ok : Prop} {res : Option (List Int)} {r : AV} {H' : AH} (h : ChR H ok res r H') :
    HX H H' ∧ ∃ s, r = .tup [s, .int .i64 (chE ok res)] ∧ SlI H' s (chL ok res) ∧ ((s = .nilSl ∧ chL ok res = []) ∨ ∃ i c op op' cells, s = .sl i 0 (chL ok res).length c op ∧ Row H' i false op' 3 1 cells ∧ (chL ok res).length ≤ cells.length ∧ H.next ≤ i ∧ i < H'.next) := by
  obtain ⟨hx, ⟨hno, rfl⟩ | ⟨hok, rfl, rfl⟩ | ⟨hok, out, i, c, op, op', cells, rfl, rfl, hr, hl, hc, h1, h2⟩⟩ := h
  · have e1 : chE ok res = 2 := if_neg hno
    have e2 : chL ok res = [] := if_neg hno
    rw [e1, e2]
    exact ⟨hx, _, rfl, ⟨.inl ⟨rfl, rfl⟩, fun k hk => by simp at hk⟩, .inl ⟨rfl, rfl⟩⟩
  · have e1 : chE ok none = 15 := if_pos hok
    have e2 : chL ok none = [] := if_pos hok
    rw [e1, e2]
    exact ⟨hx, _, rfl, ⟨.inl ⟨rfl, rfl⟩, fun k hk => by simp at hk⟩, .inl ⟨rfl, rfl⟩⟩
  · have e1 : chE ok (some out) = 0 := if_pos hok
    have e2 : chL ok (some out) = out := if_pos hok
    rw [e1, e2]
    exact ⟨hx, _, rfl, hr.slR h2 (Nat.zero_le _) (fun k hk => by rw [Nat.zero_add]; exact hc k hk), .inr ⟨i, c, op, op', cells, rfl, hr, hl, h1, h2⟩⟩
theorem chL_len {l : List Int} {m : List Bool} {c : Int} : (chL (okRoom l m c) (refChoose l m c)).length ≤ 3 := by
  unfold chL
  split
  · next hok =>
    cases h : refChoose l m c with
    | none => simp
    | some out =>
      obtain ⟨_, _, _, hw⟩ := chosen hok.2.2.1 hok.2.2.2.1 h
      have hwc : wantN m c ≤ 3 := by have := hok.2.2.2.2.1; unfold wantN; split <;> omega
      show out.length ≤ 3
      omega
  · simp

set_option maxHeartbeats 8000000 in
theorem placeChooses_law (H : AH) (v w : AV) (l : List Int) (m : List Bool) (c : Int) (hs : SlI H v l) (hw : SlB H w m) (hh : H.hide = []) (hlo : H.lo ≤ H.next) (hz : H.fz = false) (hl : l.length ≤ 9223372036854775807) (hm : m.length ≤ 9223372036854775807) :
    FnE look 3 [v, w, .int .i64 c] H fun r H' => r = .bool true ∧ H'.fz = false := by
  refine fn_intro f3_eq (noext rfl) rfl ?_
  unfold f3c
  have hlen := fun H' => len_el (H' := H') u22 hs.is
  have hlenw := fun H' => len_el (H' := H') u23 hw.is
  by_cases hsmall : l.length ≤ 12 ∧ m.length ≤ 12
  rotate_left
  · (repeat' (first | refine rc_reg ?_ | refine rc_seq ?_ | refine rk_done ?_ | refine rn_seq_n ?_ | refine rc_blk ?_ | refine rc_skip ?_ | refine rc_exit ?_ | refine rc_ret ?_ | refine rc_scp ?_ | refine rn_seq_e ?_ | refine rn_seq_r ?_ | refine rn_blk_n ?_ | refine rn_blk_r ?_ | refine rn_blk_e ?_ | refine rn_scp_n ?_ | refine rn_scp_e ?_ | refine rn_scp_r ?_ | refine rk_sk ?_ | refine rn_blk_x (by decide) ?_ | ((first | apply rk_mv' | apply rk_p1 | apply rk_p2 | apply rk_r1 | apply rk_ln | apply rk_ls); · (first | (simp (disch := omega) only [evl, Nat.reduceEqDiff, Nat.reduceAdd, reduceIte, reduceCtorEq, hlen, hlenw] <;> exact rfl) | exact rfl)) | ((first | apply rc_cond | apply rk_gd); (· (first | (simp (disch := omega) only [evl, Nat.reduceEqDiff, Nat.reduceAdd, reduceIte, reduceCtorEq, hlen, hlenw] <;> exact rfl) | exact rfl)); all_goals (intro hb; try simp only [bvl, ne_eq, Bool.not_true, Bool.not_false, reduceCtorEq] at hb)) | (refine rk_gd_u ?_ ?_; · (first | (simp (disch := omega) only [evl, Nat.reduceEqDiff, Nat.reduceAdd, reduceIte, reduceCtorEq, hlen, hlenw] <;> exact rfl) | exact rfl))))
    all_goals
      refine rk_cl (by (simp (disch := omega) only [evl, Nat.reduceEqDiff, Nat.reduceAdd, reduceIte, reduceCtorEq]); exact awake_ok H) ?_
      rintro r H1 ⟨rfl, rfl⟩
      simp only [hOut_f]
      (repeat' (first | refine rc_reg ?_ | refine rc_seq ?_ | refine rk_done ?_ | refine rn_seq_n ?_ | refine rc_blk ?_ | refine rc_skip ?_ | refine rc_exit ?_ | refine rc_ret ?_ | refine rc_scp ?_ | refine rn_seq_e ?_ | refine rn_seq_r ?_ | refine rn_blk_n ?_ | refine rn_blk_r ?_ | refine rn_blk_e ?_ | refine rn_scp_n ?_ | refine rn_scp_e ?_ | refine rn_scp_r ?_ | refine rk_sk ?_ | refine rn_blk_x (by decide) ?_ | ((first | apply rk_mv' | apply rk_p1 | apply rk_p2 | apply rk_r1 | apply rk_ln | apply rk_ls); · (first | (simp (disch := omega) only [evl, Nat.reduceEqDiff, Nat.reduceAdd, reduceIte, reduceCtorEq] <;> exact rfl) | exact rfl)) | ((first | apply rc_cond | apply rk_gd); (· (first | (simp (disch := omega) only [evl, Nat.reduceEqDiff, Nat.reduceAdd, reduceIte, reduceCtorEq] <;> exact rfl) | exact rfl)); all_goals (intro hb; try simp only [bvl, ne_eq, Bool.not_true, Bool.not_false, reduceCtorEq] at hb)) | (refine rk_gd_u ?_ ?_; · (first | (simp (disch := omega) only [evl, Nat.reduceEqDiff, Nat.reduceAdd, reduceIte, reduceCtorEq] <;> exact rfl) | exact rfl))))
      refine rn_nil ?_; refine fq_ret (resV_1 _ _) ⟨?_, hz⟩
      (simp (disch := omega) only [evl, Nat.reduceEqDiff, Nat.reduceAdd, reduceIte, reduceCtorEq])
  obtain ⟨hl12, hm12⟩ := hsmall
  (repeat' (first | refine rc_reg ?_ | refine rc_seq ?_ | refine rk_done ?_ | refine rn_seq_n ?_ | refine rc_blk ?_ | refine rc_skip ?_ | refine rc_exit ?_ | refine rc_ret ?_ | refine rc_scp ?_ | refine rn_seq_e ?_ | refine rn_seq_r ?_ | refine rn_blk_n ?_ | refine rn_blk_r ?_ | refine rn_blk_e ?_ | refine rn_scp_n ?_ | refine rn_scp_e ?_ | refine rn_scp_r ?_ | refine rk_sk ?_ | refine rn_blk_x (by decide) ?_ | ((first | apply rk_mv' | apply rk_p1 | apply rk_p2 | apply rk_r1 | apply rk_ln | apply rk_ls); · (first | (simp (disch := omega) only [evl, Nat.reduceEqDiff, Nat.reduceAdd, reduceIte, reduceCtorEq, hlen, hlenw] <;> exact rfl) | exact rfl)) | ((first | apply rc_cond | apply rk_gd); (· (first | (simp (disch := omega) only [evl, Nat.reduceEqDiff, Nat.reduceAdd, reduceIte, reduceCtorEq, hlen, hlenw] <;> exact rfl) | exact rfl)); all_goals (intro hb; try simp only [bvl, ne_eq, Bool.not_true, Bool.not_false, reduceCtorEq] at hb)) | (refine rk_gd_u ?_ ?_; · (first | (simp (disch := omega) only [evl, Nat.reduceEqDiff, Nat.reduceAdd, reduceIte, reduceCtorEq, hlen, hlenw] <;> exact rfl) | exact rfl))))
  refine rk_cl (by (simp (disch := omega) only [evl, Nat.reduceEqDiff, Nat.reduceAdd, reduceIte, reduceCtorEq]); exact lentInts_ok H v l hs hh hlo (by omega)) ?_
  rintro r H1 ⟨rfl, hx1, hn1, hr1⟩
  simp only [hOut_f]
  (repeat' (first | refine rc_reg ?_ | refine rc_seq ?_ | refine rk_done ?_ | refine rn_seq_n ?_ | refine rc_blk ?_ | refine rc_skip ?_ | refine rc_exit ?_ | refine rc_ret ?_ | refine rc_scp ?_ | refine rn_seq_e ?_ | refine rn_seq_r ?_ | refine rn_blk_n ?_ | refine rn_blk_r ?_ | refine rn_blk_e ?_ | refine rn_scp_n ?_ | refine rn_scp_e ?_ | refine rn_scp_r ?_ | refine rk_sk ?_ | refine rn_blk_x (by decide) ?_ | ((first | apply rk_mv' | apply rk_p1 | apply rk_p2 | apply rk_r1 | apply rk_ln | apply rk_ls); · (first | (simp (disch := omega) only [evl, Nat.reduceEqDiff, Nat.reduceAdd, reduceIte, reduceCtorEq] <;> exact rfl) | exact rfl)) | ((first | apply rc_cond | apply rk_gd); (· (first | (simp (disch := omega) only [evl, Nat.reduceEqDiff, Nat.reduceAdd, reduceIte, reduceCtorEq] <;> exact rfl) | exact rfl)); all_goals (intro hb; try simp only [bvl, ne_eq, Bool.not_true, Bool.not_false, reduceCtorEq] at hb)) | (refine rk_gd_u ?_ ?_; · (first | (simp (disch := omega) only [evl, Nat.reduceEqDiff, Nat.reduceAdd, reduceIte, reduceCtorEq] <;> exact rfl) | exact rfl))))
  have hlo1 : H1.lo ≤ H1.next := by rw [hx1.lo]; omega
  refine rk_cl (by (simp (disch := omega) only [evl, Nat.reduceEqDiff, Nat.reduceAdd, reduceIte, reduceCtorEq]); exact lentBools_ok H1 w m (hw.hx hx1) (hx1.hide.trans hh) hlo1 (by omega)) ?_
  rintro r H2 ⟨rfl, hx2, hn2, hr2⟩
  simp only [hOut_f]
  (repeat' (first | refine rc_reg ?_ | refine rc_seq ?_ | refine rk_done ?_ | refine rn_seq_n ?_ | refine rc_blk ?_ | refine rc_skip ?_ | refine rc_exit ?_ | refine rc_ret ?_ | refine rc_scp ?_ | refine rn_seq_e ?_ | refine rn_seq_r ?_ | refine rn_blk_n ?_ | refine rn_blk_r ?_ | refine rn_blk_e ?_ | refine rn_scp_n ?_ | refine rn_scp_e ?_ | refine rn_scp_r ?_ | refine rk_sk ?_ | refine rn_blk_x (by decide) ?_ | ((first | apply rk_mv' | apply rk_p1 | apply rk_p2 | apply rk_r1 | apply rk_ln | apply rk_ls); · (first | (simp (disch := omega) only [evl, Nat.reduceEqDiff, Nat.reduceAdd, reduceIte, reduceCtorEq] <;> exact rfl) | exact rfl)) | ((first | apply rc_cond | apply rk_gd); (· (first | (simp (disch := omega) only [evl, Nat.reduceEqDiff, Nat.reduceAdd, reduceIte, reduceCtorEq] <;> exact rfl) | exact rfl)); all_goals (intro hb; try simp only [bvl, ne_eq, Bool.not_true, Bool.not_false, reduceCtorEq] at hb)) | (refine rk_gd_u ?_ ?_; · (first | (simp (disch := omega) only [evl, Nat.reduceEqDiff, Nat.reduceAdd, reduceIte, reduceCtorEq] <;> exact rfl) | exact rfl))))
  have hx12 := hx1.trans hx2
  have hlo2 : H2.lo ≤ H2.next := by rw [hx12.lo]; omega
  have hr1' := hr1.hx hx2 (by omega)
  refine rk_cl (by (simp (disch := omega) only [evl, Nat.reduceEqDiff, Nat.reduceAdd, reduceIte, reduceCtorEq]); exact Choose_ok H2 _ _ l m c (lent_slI hr1' (by omega)) (lent_slB hr2 (by omega)) (hx12.hide.trans hh) hlo2 (by omega) (by omega)) ?_
  intro r H3 hR
  obtain ⟨hx3, sa, rfl, hsa, hwa⟩ := chR_view hR
  clear hR
  simp only [hOut_f]
  (repeat' (first | refine rc_reg ?_ | refine rc_seq ?_ | refine rk_done ?_ | refine rn_seq_n ?_ | refine rc_blk ?_ | refine rc_skip ?_ | refine rc_exit ?_ | refine rc_ret ?_ | refine rc_scp ?_ | refine rn_seq_e ?_ | refine rn_seq_r ?_ | refine rn_blk_n ?_ | refine rn_blk_r ?_ | refine rn_blk_e ?_ | refine rn_scp_n ?_ | refine rn_scp_e ?_ | refine rn_scp_r ?_ | refine rk_sk ?_ | refine rn_blk_x (by decide) ?_ | ((first | apply rk_mv' | apply rk_p1 | apply rk_p2 | apply rk_r1 | apply rk_ln | apply rk_ls); · (first | (simp (disch := omega) only [evl, Nat.reduceEqDiff, Nat.reduceAdd, reduceIte, reduceCtorEq] <;> exact rfl) | exact rfl)) | ((first | apply rc_cond | apply rk_gd); (· (first | (simp (disch := omega) only [evl, Nat.reduceEqDiff, Nat.reduceAdd, reduceIte, reduceCtorEq] <;> exact rfl) | exact rfl)); all_goals (intro hb; try simp only [bvl, ne_eq, Bool.not_true, Bool.not_false, reduceCtorEq] at hb)) | (refine rk_gd_u ?_ ?_; · (first | (simp (disch := omega) only [evl, Nat.reduceEqDiff, Nat.reduceAdd, reduceIte, reduceCtorEq] <;> exact rfl) | exact rfl))))
  have hx13 := hx12.trans hx3
  have hn3 := hx3.next
  have hlo3 : H3.lo ≤ H3.next := by rw [hx13.lo]; omega
  refine rk_cl (by (simp (disch := omega) only [evl, Nat.reduceEqDiff, Nat.reduceAdd, reduceIte, reduceCtorEq]); exact refChoose_ok H3 v w l m c (hs.hx hx13) (hw.hx hx13) (hx13.hide.trans hh) hlo3 (by omega) (by omega)) ?_
  intro r H4 hR
  obtain ⟨hx4, sb, rfl, hsb, _⟩ := chR_view hR
  clear hR
  have hLl := @chL_len l m c
  generalize chE (okRoom l m c) (refChoose l m c) = e at *
  generalize chL (okRoom l m c) (refChoose l m c) = out at *
  simp only [hOut_f]
  (repeat' (first | refine rc_reg ?_ | refine rc_seq ?_ | refine rk_done ?_ | refine rn_seq_n ?_ | refine rc_blk ?_ | refine rc_skip ?_ | refine rc_exit ?_ | refine rc_ret ?_ | refine rc_scp ?_ | refine rn_seq_e ?_ | refine rn_seq_r ?_ | refine rn_blk_n ?_ | refine rn_blk_r ?_ | refine rn_blk_e ?_ | refine rn_scp_n ?_ | refine rn_scp_e ?_ | refine rn_scp_r ?_ | refine rk_sk ?_ | refine rn_blk_x (by decide) ?_ | ((first | apply rk_mv' | apply rk_p1 | apply rk_p2 | apply rk_r1 | apply rk_ln | apply rk_ls); · (first | (simp (disch := omega) only [evl, Nat.reduceEqDiff, Nat.reduceAdd, reduceIte, reduceCtorEq] <;> exact rfl) | exact rfl)) | ((first | apply rc_cond | apply rk_gd); (· (first | (simp (disch := omega) only [evl, Nat.reduceEqDiff, Nat.reduceAdd, reduceIte, reduceCtorEq] <;> exact rfl) | exact rfl)); all_goals (intro hb; try simp only [bvl, ne_eq, Bool.not_true, Bool.not_false, reduceCtorEq] at hb)) | (refine rk_gd_u ?_ ?_; · (first | (simp (disch := omega) only [evl, Nat.reduceEqDiff, Nat.reduceAdd, reduceIte, reduceCtorEq] <;> exact rfl) | exact rfl))))
  have hx34 := hx4
  have hx14 := hx13.trans hx4
  have hn4 := hx4.next
  have hlo4 : H4.lo ≤ H4.next := by rw [hx14.lo]; omega
  refine rk_cl (by (simp (disch := omega) only [evl, Nat.reduceEqDiff, Nat.reduceAdd, reduceIte, reduceCtorEq]); exact sameInts_ok H4 sa sb out out (hsa.hx hx4) hsb (by omega) (by omega)) ?_
  rintro r H4' ⟨rfl, rfl⟩
  rw [decide_eq_true (rfl : out = out)]
  simp only [hOut_f]
  (repeat' (first | refine rc_reg ?_ | refine rc_seq ?_ | refine rk_done ?_ | refine rn_seq_n ?_ | refine rc_blk ?_ | refine rc_skip ?_ | refine rc_exit ?_ | refine rc_ret ?_ | refine rc_scp ?_ | refine rn_seq_e ?_ | refine rn_seq_r ?_ | refine rn_blk_n ?_ | refine rn_blk_r ?_ | refine rn_blk_e ?_ | refine rn_scp_n ?_ | refine rn_scp_e ?_ | refine rn_scp_r ?_ | refine rk_sk ?_ | refine rn_blk_x (by decide) ?_ | ((first | apply rk_mv' | apply rk_p1 | apply rk_p2 | apply rk_r1 | apply rk_ln | apply rk_ls); · (first | (simp (disch := omega) only [evl, Nat.reduceEqDiff, Nat.reduceAdd, reduceIte, reduceCtorEq] <;> exact rfl) | exact rfl)) | ((first | apply rc_cond | apply rk_gd); (· (first | (simp (disch := omega) only [evl, Nat.reduceEqDiff, Nat.reduceAdd, reduceIte, reduceCtorEq] <;> exact rfl) | exact rfl)); all_goals (intro hb; try simp only [bvl, ne_eq, Bool.not_true, Bool.not_false, reduceCtorEq] at hb)) | (refine rk_gd_u ?_ ?_; · (first | (simp (disch := omega) only [evl, Nat.reduceEqDiff, Nat.reduceAdd, reduceIte, reduceCtorEq] <;> exact rfl) | exact rfl))))
  have hr1a := hr1'.hx (hx3.trans hx4) (by omega)
  have hr2a := hr2.hx (hx3.trans hx4) (by omega)
  refine rk_cl (by (simp (disch := omega) only [evl, Nat.reduceEqDiff, Nat.reduceAdd, reduceIte, reduceCtorEq]); exact check_ok H4' _ _ l m c (lent_slI hr1a (by omega)) (lent_slB hr2a (by omega)) (by omega) (by omega)) ?_
  rintro r H5 ⟨rfl, rfl⟩
  simp only [hOut_f]
  (repeat' (first | refine rc_reg ?_ | refine rc_seq ?_ | refine rk_done ?_ | refine rn_seq_n ?_ | refine rc_blk ?_ | refine rc_skip ?_ | refine rc_exit ?_ | refine rc_ret ?_ | refine rc_scp ?_ | refine rn_seq_e ?_ | refine rn_seq_r ?_ | refine rn_blk_n ?_ | refine rn_blk_r ?_ | refine rn_blk_e ?_ | refine rn_scp_n ?_ | refine rn_scp_e ?_ | refine rn_scp_r ?_ | refine rk_sk ?_ | refine rn_blk_x (by decide) ?_ | ((first | apply rk_mv' | apply rk_p1 | apply rk_p2 | apply rk_r1 | apply rk_ln | apply rk_ls); · (first | (simp (disch := omega) only [evl, Nat.reduceEqDiff, Nat.reduceAdd, reduceIte, reduceCtorEq] <;> exact rfl) | exact rfl)) | ((first | apply rc_cond | apply rk_gd); (· (first | (simp (disch := omega) only [evl, Nat.reduceEqDiff, Nat.reduceAdd, reduceIte, reduceCtorEq] <;> exact rfl) | exact rfl)); all_goals (intro hb; try simp only [bvl, ne_eq, Bool.not_true, Bool.not_false, reduceCtorEq] at hb)) | (refine rk_gd_u ?_ ?_; · (first | (simp (disch := omega) only [evl, Nat.reduceEqDiff, Nat.reduceAdd, reduceIte, reduceCtorEq] <;> exact rfl) | exact rfl))))
  refine rk_cl (by (simp (disch := omega) only [evl, Nat.reduceEqDiff, Nat.reduceAdd, reduceIte, reduceCtorEq]); exact refCheck_ok H5 v w l m c (hs.hx hx14) (hw.hx hx14) (by omega) (by omega)) ?_
  rintro r H6 ⟨rfl, rfl⟩
  simp only [hOut_f]
  (repeat' (first | refine rc_reg ?_ | refine rc_seq ?_ | refine rk_done ?_ | refine rn_seq_n ?_ | refine rc_blk ?_ | refine rc_skip ?_ | refine rc_exit ?_ | refine rc_ret ?_ | refine rc_scp ?_ | refine rn_seq_e ?_ | refine rn_seq_r ?_ | refine rn_blk_n ?_ | refine rn_blk_r ?_ | refine rn_blk_e ?_ | refine rn_scp_n ?_ | refine rn_scp_e ?_ | refine rn_scp_r ?_ | refine rk_sk ?_ | refine rn_blk_x (by decide) ?_ | ((first | apply rk_mv' | apply rk_p1 | apply rk_p2 | apply rk_r1 | apply rk_ln | apply rk_ls); · (first | (simp (disch := omega) only [evl, Nat.reduceEqDiff, Nat.reduceAdd, reduceIte, reduceCtorEq] <;> exact rfl) | exact rfl)) | ((first | apply rc_cond | apply rk_gd); (· (first | (simp (disch := omega) only [evl, Nat.reduceEqDiff, Nat.reduceAdd, reduceIte, reduceCtorEq] <;> exact rfl) | exact rfl)); all_goals (intro hb; try simp only [bvl, ne_eq, Bool.not_true, Bool.not_false, reduceCtorEq] at hb)) | (refine rk_gd_u ?_ ?_; · (first | (simp (disch := omega) only [evl, Nat.reduceEqDiff, Nat.reduceAdd, reduceIte, reduceCtorEq] <;> exact rfl) | exact rfl))))
  have hlena := fun H' => len_el (H' := H') u22 hsa.is
  refine rc_loop (R := fun ex T' H' => ex = .exit 0 ∧ HP (fun j => j < H2.next) H6 H' ∧ gT T' 0 = v ∧ gT T' 1 = w ∧ gT T' 7 = .sl H.next 0 l.length (l.length + 3) false ∧ gT T' 8 = .sl H1.next 0 m.length (m.length + 3) false ∧ gT T' 13 = .bool true) ?_ ?_
  · refine lp_ind f3l0_eq (fun k T H' => ∃ j : Nat, k = out.length - j ∧ j ≤ out.length ∧ HP (fun j => j < H2.next) H6 H' ∧ gT T 0 = v ∧ gT T 1 = w ∧ gT T 7 = .sl H.next 0 l.length (l.length + 3) false ∧ gT T 8 = .sl H1.next 0 m.length (m.length + 3) false ∧ gT T 13 = .bool true ∧ gT T 9 = sa ∧ gT T 14 = .int .i64 j ∧
        (j < out.length → ∃ i c' op op' cells, sa = .sl i 0 out.length c' op ∧ Row H' i false op' 3 1 cells ∧ out.length ≤ cells.length ∧ H2.next ≤ i ∧ i < H'.next)) _ ?_ out.length _ _ ?_
    · intro k T H7 hI
      obtain ⟨j, hk, hj, hp, h0, h1, h7, h8, h13, h9, h14, hrow⟩ := hI
      unfold f3l0
      by_cases hlt : j < out.length
      · obtain ⟨i, c', op, op', cells, rfl, hrw, hcl, hi1, hi2⟩ := hrow hlt
        have his := hrw.isSl (o := 0) (n := out.length) (c := c') (op' := op) hi2 (Nat.zero_le _)
        have hix := @ix_el _ _ _ his
        obtain ⟨H8, hst, hr8, hp8, hn8⟩ := hrw.st1 (k := j) (L := look) (t := 3) (v := .int .i64 (-9)) (hp.hide.trans (hx14.hide.trans hh)) (by rw [hp.lo, hx14.lo]; omega) z3 rfl (by omega)
        (repeat' (first | refine rc_reg ?_ | refine rc_seq ?_ | refine rk_done ?_ | refine rn_seq_n ?_ | refine rc_blk ?_ | refine rc_skip ?_ | refine rc_exit ?_ | refine rc_ret ?_ | refine rc_scp ?_ | refine rn_seq_e ?_ | refine rn_seq_r ?_ | refine rn_blk_n ?_ | refine rn_blk_r ?_ | refine rn_blk_e ?_ | refine rn_scp_n ?_ | refine rn_scp_e ?_ | refine rn_scp_r ?_ | refine rk_sk ?_ | refine rn_blk_x (by decide) ?_ | ((first | apply rk_mv' | apply rk_p1 | apply rk_p2 | apply rk_r1 | apply rk_ln | apply rk_ls); · (first | (simp (disch := omega) only [evl, Nat.reduceEqDiff, Nat.reduceAdd, reduceIte, reduceCtorEq, h0, h1, h7, h8, h13, h9, h14, hlena, hix] <;> exact rfl) | exact rfl)) | ((first | apply rc_cond | apply rk_gd); (· (first | (simp (disch := omega) only [evl, Nat.reduceEqDiff, Nat.reduceAdd, reduceIte, reduceCtorEq, h0, h1, h7, h8, h13, h9, h14, hlena, hix] <;> exact rfl) | exact rfl)); all_goals (intro hb; try simp only [bvl, ne_eq, Bool.not_true, Bool.not_false, reduceCtorEq] at hb)) | (refine rk_gd_u ?_ ?_; · (first | (simp (disch := omega) only [evl, Nat.reduceEqDiff, Nat.reduceAdd, reduceIte, reduceCtorEq, h0, h1, h7, h8, h13, h9, h14, hlena, hix] <;> exact rfl) | exact rfl))))
        apply rk_st
        · (simp (disch := omega) only [evl, Nat.reduceEqDiff, Nat.reduceAdd, reduceIte, reduceCtorEq, h9, h14, hix])
          exact hst
        simp only [hOut_f]
        (repeat' (first | refine rc_reg ?_ | refine rc_seq ?_ | refine rk_done ?_ | refine rn_seq_n ?_ | refine rc_blk ?_ | refine rc_skip ?_ | refine rc_exit ?_ | refine rc_ret ?_ | refine rc_scp ?_ | refine rn_seq_e ?_ | refine rn_seq_r ?_ | refine rn_blk_n ?_ | refine rn_blk_r ?_ | refine rn_blk_e ?_ | refine rn_scp_n ?_ | refine rn_scp_e ?_ | refine rn_scp_r ?_ | refine rk_sk ?_ | refine rn_blk_x (by decide) ?_ | ((first | apply rk_mv' | apply rk_p1 | apply rk_p2 | apply rk_r1 | apply rk_ln | apply rk_ls); · (first | (simp (disch := omega) only [evl, Nat.reduceEqDiff, Nat.reduceAdd, reduceIte, reduceCtorEq, h0, h1, h7, h8, h13, h9, h14, hlena, hix] <;> exact rfl) | exact rfl)) | ((first | apply rc_cond | apply rk_gd); (· (first | (simp (disch := omega) only [evl, Nat.reduceEqDiff, Nat.reduceAdd, reduceIte, reduceCtorEq, h0, h1, h7, h8, h13, h9, h14, hlena, hix] <;> exact rfl) | exact rfl)); all_goals (intro hb; try simp only [bvl, ne_eq, Bool.not_true, Bool.not_false, reduceCtorEq] at hb)) | (refine rk_gd_u ?_ ?_; · (first | (simp (disch := omega) only [evl, Nat.reduceEqDiff, Nat.reduceAdd, reduceIte, reduceCtorEq, h0, h1, h7, h8, h13, h9, h14, hlena, hix] <;> exact rfl) | exact rfl))))
        refine rn_nil ?_; refine lpq_n (out.length - (j + 1)) (by omega) ?_
        refine ⟨j + 1, rfl, by omega, hp.trans hp8 (fun i' _ h => ⟨h, by omega⟩), (by (first | (simp (disch := omega) only [evl, Nat.reduceEqDiff, Nat.reduceAdd, reduceIte, reduceCtorEq, h0] <;> exact rfl) | exact rfl)), (by (first | (simp (disch := omega) only [evl, Nat.reduceEqDiff, Nat.reduceAdd, reduceIte, reduceCtorEq, h1] <;> exact rfl) | exact rfl)), (by (first | (simp (disch := omega) only [evl, Nat.reduceEqDiff, Nat.reduceAdd, reduceIte, reduceCtorEq, h7] <;> exact rfl) | exact rfl)), (by (first | (simp (disch := omega) only [evl, Nat.reduceEqDiff, Nat.reduceAdd, reduceIte, reduceCtorEq, h8] <;> exact rfl) | exact rfl)), (by (first | (simp (disch := omega) only [evl, Nat.reduceEqDiff, Nat.reduceAdd, reduceIte, reduceCtorEq, h13] <;> exact rfl) | exact rfl)), (by (first | (simp (disch := omega) only [evl, Nat.reduceEqDiff, Nat.reduceAdd, reduceIte, reduceCtorEq, h9] <;> exact rfl) | exact rfl)), (by (first | (simp (disch := omega) only [evl, Nat.reduceEqDiff, Nat.reduceAdd, reduceIte, reduceCtorEq] <;> exact rfl) | exact rfl)), fun _ => ⟨i, c', op, op', _, rfl, hr8, by simpa using hcl, hi1, by omega⟩⟩
      · (repeat' (first | refine rc_reg ?_ | refine rc_seq ?_ | refine rk_done ?_ | refine rn_seq_n ?_ | refine rc_blk ?_ | refine rc_skip ?_ | refine rc_exit ?_ | refine rc_ret ?_ | refine rc_scp ?_ | refine rn_seq_e ?_ | refine rn_seq_r ?_ | refine rn_blk_n ?_ | refine rn_blk_r ?_ | refine rn_blk_e ?_ | refine rn_scp_n ?_ | refine rn_scp_e ?_ | refine rn_scp_r ?_ | refine rk_sk ?_ | refine rn_blk_x (by decide) ?_ | ((first | apply rk_mv' | apply rk_p1 | apply rk_p2 | apply rk_r1 | apply rk_ln | apply rk_ls); · (first | (simp (disch := omega) only [evl, Nat.reduceEqDiff, Nat.reduceAdd, reduceIte, reduceCtorEq, h0, h1, h7, h8, h13, h9, h14, hlena] <;> exact rfl) | exact rfl)) | ((first | apply rc_cond | apply rk_gd); (· (first | (simp (disch := omega) only [evl, Nat.reduceEqDiff, Nat.reduceAdd, reduceIte, reduceCtorEq, h0, h1, h7, h8, h13, h9, h14, hlena] <;> exact rfl) | exact rfl)); all_goals (intro hb; try simp only [bvl, ne_eq, Bool.not_true, Bool.not_false, reduceCtorEq] at hb)) | (refine rk_gd_u ?_ ?_; · (first | (simp (disch := omega) only [evl, Nat.reduceEqDiff, Nat.reduceAdd, reduceIte, reduceCtorEq, h0, h1, h7, h8, h13, h9, h14, hlena] <;> exact rfl) | exact rfl))))
        refine rn_nil ?_; refine lpq_e ?_
        exact ⟨rfl, hp, (by (first | (simp (disch := omega) only [evl, Nat.reduceEqDiff, Nat.reduceAdd, reduceIte, reduceCtorEq, h0] <;> exact rfl) | exact rfl)), (by (first | (simp (disch := omega) only [evl, Nat.reduceEqDiff, Nat.reduceAdd, reduceIte, reduceCtorEq, h1] <;> exact rfl) | exact rfl)), (by (first | (simp (disch := omega) only [evl, Nat.reduceEqDiff, Nat.reduceAdd, reduceIte, reduceCtorEq, h7] <;> exact rfl) | exact rfl)), (by (first | (simp (disch := omega) only [evl, Nat.reduceEqDiff, Nat.reduceAdd, reduceIte, reduceCtorEq, h8] <;> exact rfl) | exact rfl)), (by (first | (simp (disch := omega) only [evl, Nat.reduceEqDiff, Nat.reduceAdd, reduceIte, reduceCtorEq, h13] <;> exact rfl) | exact rfl))⟩
    · refine ⟨0, by omega, by omega, HP.refl _ _, (by (first | (simp (disch := omega) only [evl, Nat.reduceEqDiff, Nat.reduceAdd, reduceIte, reduceCtorEq] <;> exact rfl) | exact rfl)), (by (first | (simp (disch := omega) only [evl, Nat.reduceEqDiff, Nat.reduceAdd, reduceIte, reduceCtorEq] <;> exact rfl) | exact rfl)), (by (first | (simp (disch := omega) only [evl, Nat.reduceEqDiff, Nat.reduceAdd, reduceIte, reduceCtorEq] <;> exact rfl) | exact rfl)), (by (first | (simp (disch := omega) only [evl, Nat.reduceEqDiff, Nat.reduceAdd, reduceIte, reduceCtorEq] <;> exact rfl) | exact rfl)), (by (first | (simp (disch := omega) only [evl, Nat.reduceEqDiff, Nat.reduceAdd, reduceIte, reduceCtorEq] <;> exact rfl) | exact rfl)), (by (first | (simp (disch := omega) only [evl, Nat.reduceEqDiff, Nat.reduceAdd, reduceIte, reduceCtorEq] <;> exact rfl) | exact rfl)), (by (first | (simp (disch := omega) only [evl, Nat.reduceEqDiff, Nat.reduceAdd, reduceIte, reduceCtorEq] <;> exact rfl) | exact rfl)), fun hlt => ?_⟩
      rcases hwa with ⟨_, h⟩ | ⟨i, c', op, op', cells, hsa', hr, hl', h1, h2⟩
      · rw [h] at hlt; simp at hlt
      · exact ⟨i, c', op, op', cells, hsa', hr.hx hx4 h2, hl', h1, by omega⟩
  · rintro ex T' H7 ⟨rfl, hp, h0, h1, h7, h8, h13⟩
    (repeat' (first | refine rc_reg ?_ | refine rc_seq ?_ | refine rk_done ?_ | refine rn_seq_n ?_ | refine rc_blk ?_ | refine rc_skip ?_ | refine rc_exit ?_ | refine rc_ret ?_ | refine rc_scp ?_ | refine rn_seq_e ?_ | refine rn_seq_r ?_ | refine rn_blk_n ?_ | refine rn_blk_r ?_ | refine rn_blk_e ?_ | refine rn_scp_n ?_ | refine rn_scp_e ?_ | refine rn_scp_r ?_ | refine rk_sk ?_ | refine rn_blk_x (by decide) ?_ | ((first | apply rk_mv' | apply rk_p1 | apply rk_p2 | apply rk_r1 | apply rk_ln | apply rk_ls); · (first | (simp (disch := omega) only [evl, Nat.reduceEqDiff, Nat.reduceAdd, reduceIte, reduceCtorEq, h0, h1, h7, h8, h13] <;> exact rfl) | exact rfl)) | ((first | apply rc_cond | apply rk_gd); (· (first | (simp (disch := omega) only [evl, Nat.reduceEqDiff, Nat.reduceAdd, reduceIte, reduceCtorEq, h0, h1, h7, h8, h13] <;> exact rfl) | exact rfl)); all_goals (intro hb; try simp only [bvl, ne_eq, Bool.not_true, Bool.not_false, reduceCtorEq] at hb)) | (refine rk_gd_u ?_ ?_; · (first | (simp (disch := omega) only [evl, Nat.reduceEqDiff, Nat.reduceAdd, reduceIte, reduceCtorEq, h0, h1, h7, h8, h13] <;> exact rfl) | exact rfl))))
    have hxA : HX H H7 := ((hx14.hp fun _ => True).trans hp (r := fun _ => True) fun j hj _ => ⟨trivial, by omega⟩).hx fun _ _ => trivial
    have hn7 := hp.next
    refine rk_cl (by (simp (disch := omega) only [evl, Nat.reduceEqDiff, Nat.reduceAdd, reduceIte, reduceCtorEq, h0, h7]); exact keptInts_ok H7 v H.next l (hs.hx hxA) (hr1a.hp hp (by omega) (by omega)) (by omega) (hxA.hide.trans hh) (by rw [hxA.lo]; omega) (by omega)) ?_
    rintro r H8 ⟨rfl, hx8⟩
    simp only [hOut_f]
    have hxB := hxA.trans hx8
    have hn8 := hx8.next
    (repeat' (first | refine rc_reg ?_ | refine rc_seq ?_ | refine rk_done ?_ | refine rn_seq_n ?_ | refine rc_blk ?_ | refine rc_skip ?_ | refine rc_exit ?_ | refine rc_ret ?_ | refine rc_scp ?_ | refine rn_seq_e ?_ | refine rn_seq_r ?_ | refine rn_blk_n ?_ | refine rn_blk_r ?_ | refine rn_blk_e ?_ | refine rn_scp_n ?_ | refine rn_scp_e ?_ | refine rn_scp_r ?_ | refine rk_sk ?_ | refine rn_blk_x (by decide) ?_ | ((first | apply rk_mv' | apply rk_p1 | apply rk_p2 | apply rk_r1 | apply rk_ln | apply rk_ls); · (first | (simp (disch := omega) only [evl, Nat.reduceEqDiff, Nat.reduceAdd, reduceIte, reduceCtorEq, h0, h1, h7, h8, h13] <;> exact rfl) | exact rfl)) | ((first | apply rc_cond | apply rk_gd); (· (first | (simp (disch := omega) only [evl, Nat.reduceEqDiff, Nat.reduceAdd, reduceIte, reduceCtorEq, h0, h1, h7, h8, h13] <;> exact rfl) | exact rfl)); all_goals (intro hb; try simp only [bvl, ne_eq, Bool.not_true, Bool.not_false, reduceCtorEq] at hb)) | (refine rk_gd_u ?_ ?_; · (first | (simp (disch := omega) only [evl, Nat.reduceEqDiff, Nat.reduceAdd, reduceIte, reduceCtorEq, h0, h1, h7, h8, h13] <;> exact rfl) | exact rfl))))
    refine rk_cl (by (simp (disch := omega) only [evl, Nat.reduceEqDiff, Nat.reduceAdd, reduceIte, reduceCtorEq, h1, h8]); exact keptBools_ok H8 w H1.next m (hw.hx hxB) ((hr2a.hp hp (by omega) (by omega)).hx hx8 (by omega)) (by omega) (hxB.hide.trans hh) (by rw [hxB.lo]; omega) (by omega)) ?_
    rintro r H9 ⟨rfl, hx9⟩
    simp only [hOut_f]
    (repeat' (first | refine rc_reg ?_ | refine rc_seq ?_ | refine rk_done ?_ | refine rn_seq_n ?_ | refine rc_blk ?_ | refine rc_skip ?_ | refine rc_exit ?_ | refine rc_ret ?_ | refine rc_scp ?_ | refine rn_seq_e ?_ | refine rn_seq_r ?_ | refine rn_blk_n ?_ | refine rn_blk_r ?_ | refine rn_blk_e ?_ | refine rn_scp_n ?_ | refine rn_scp_e ?_ | refine rn_scp_r ?_ | refine rk_sk ?_ | refine rn_blk_x (by decide) ?_ | ((first | apply rk_mv' | apply rk_p1 | apply rk_p2 | apply rk_r1 | apply rk_ln | apply rk_ls); · (first | (simp (disch := omega) only [evl, Nat.reduceEqDiff, Nat.reduceAdd, reduceIte, reduceCtorEq] <;> exact rfl) | exact rfl)) | ((first | apply rc_cond | apply rk_gd); (· (first | (simp (disch := omega) only [evl, Nat.reduceEqDiff, Nat.reduceAdd, reduceIte, reduceCtorEq] <;> exact rfl) | exact rfl)); all_goals (intro hb; try simp only [bvl, ne_eq, Bool.not_true, Bool.not_false, reduceCtorEq] at hb)) | (refine rk_gd_u ?_ ?_; · (first | (simp (disch := omega) only [evl, Nat.reduceEqDiff, Nat.reduceAdd, reduceIte, reduceCtorEq] <;> exact rfl) | exact rfl))))
    refine rk_cl (by (simp (disch := omega) only [evl, Nat.reduceEqDiff, Nat.reduceAdd, reduceIte, reduceCtorEq]); exact awake_ok H9) ?_
    rintro r H10 ⟨rfl, rfl⟩
    simp only [hOut_f]
    (repeat' (first | refine rc_reg ?_ | refine rc_seq ?_ | refine rk_done ?_ | refine rn_seq_n ?_ | refine rc_blk ?_ | refine rc_skip ?_ | refine rc_exit ?_ | refine rc_ret ?_ | refine rc_scp ?_ | refine rn_seq_e ?_ | refine rn_seq_r ?_ | refine rn_blk_n ?_ | refine rn_blk_r ?_ | refine rn_blk_e ?_ | refine rn_scp_n ?_ | refine rn_scp_e ?_ | refine rn_scp_r ?_ | refine rk_sk ?_ | refine rn_blk_x (by decide) ?_ | ((first | apply rk_mv' | apply rk_p1 | apply rk_p2 | apply rk_r1 | apply rk_ln | apply rk_ls); · (first | (simp (disch := omega) only [evl, Nat.reduceEqDiff, Nat.reduceAdd, reduceIte, reduceCtorEq] <;> exact rfl) | exact rfl)) | ((first | apply rc_cond | apply rk_gd); (· (first | (simp (disch := omega) only [evl, Nat.reduceEqDiff, Nat.reduceAdd, reduceIte, reduceCtorEq] <;> exact rfl) | exact rfl)); all_goals (intro hb; try simp only [bvl, ne_eq, Bool.not_true, Bool.not_false, reduceCtorEq] at hb)) | (refine rk_gd_u ?_ ?_; · (first | (simp (disch := omega) only [evl, Nat.reduceEqDiff, Nat.reduceAdd, reduceIte, reduceCtorEq] <;> exact rfl) | exact rfl))))
    refine rn_nil ?_; refine fq_ret (resV_1 _ _) ⟨?_, (hxB.trans hx9).fz.trans hz⟩
    (simp (disch := omega) only [evl, Nat.reduceEqDiff, Nat.reduceAdd, reduceIte, reduceCtorEq])
end Go.Proofs.Ythnmcpkoplmggaa
