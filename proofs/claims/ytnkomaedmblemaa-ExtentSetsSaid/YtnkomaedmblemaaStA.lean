import Derived.Test.YtnkomaedmblemaaExB
set_option linter.unusedSimpArgs false
set_option linter.unusedVariables false
set_option maxRecDepth 100000
namespace Go.Proofs.Ytnkomaedmblemaa
open Go.Ev Exl

/-! ### Edges -/
abbrev Ed := Int × Bool
abbrev edV (p : Ed) : AV := .agg [.int .i64 p.1, .bool p.2]
def edC : List Ed → List AV
  | [] => []
  | p :: l => .int .i64 p.1 :: .bool p.2 :: edC l
abbrev edG (l : List Ed) (k : Nat) : Ed := l.getD k (0, false)
theorem edC_len (l : List Ed) : (edC l).length = l.length * 2 := by
  induction l with
  | nil => rfl
  | cons p l ih => simp [edC, ih]; omega
theorem edC_app (l m : List Ed) : edC (l ++ m) = edC l ++ edC m := by
  induction l with
  | nil => rfl
  | cons p l ih => simp [edC, ih]
theorem edC_part : ∀ (l : List Ed) {k : Nat}, k < l.length → ((edC l).drop (k * 2)).take 2 = [.int .i64 (edG l k).1, .bool (edG l k).2]
  | p :: l, 0, _ => rfl
  | p :: l, k + 1, h => by
    rw [show (k + 1) * 2 = (k * 2) + 1 + 1 from by omega]
    exact edC_part l (by simpa using h)
theorem edC_set : ∀ (l : List Ed) {k : Nat} (q : Ed), k < l.length → (edC l).take (k * 2) ++ [.int .i64 q.1, .bool q.2] ++ (edC l).drop (k * 2 + 2) = edC (l.set k q)
  | p :: l, 0, q, _ => rfl
  | p :: l, k + 1, q, h => by
    rw [show (k + 1) * 2 = (k * 2) + 1 + 1 from by omega]
    show _ :: _ :: ((edC l).take (k * 2) ++ [_, _] ++ (edC l).drop (k * 2 + 2)) = _
    rw [edC_set l q (by simpa using h)]; rfl
theorem edRd {H : AH} {i e z k : Nat} {ro op : Bool} {l : List Ed} (h : Row H i ro op e z (edC l)) (hk : k < l.length) : ldN 2 (.ptr i (k * 2)) H = some (edV (edG l k)) := by
  obtain ⟨c, h1, h2⟩ := h.rdN (o := k * 2) (s := 2) (by rw [edC_len]; omega)
  rw [edC_part l hk] at h2
  rw [h1, toV_lst h2 (fun n hn => by cases hn)]
theorem edSt {H : AH} {i e z k : Nat} {op : Bool} {l : List Ed} (q : Ed) (h : Row H i false op e z (edC l)) (hh : H.hide = []) (hlo : H.lo ≤ i) (hk : k < l.length) :
    ∃ H', Go.Ev.stN 2 (.ptr i (k * 2)) (edV q) H = some H' ∧ Row H' i false op e z (edC (l.set k q)) ∧ HP (· ≠ i) H H' ∧ H'.next = H.next := by
  obtain ⟨H', h1, h2, h3, h4⟩ := h.stN (L := look) (t := 0) (v := edV q) (k := k * 2) (s := 2) hh hlo rfl rfl (by rw [edC_len]; omega)
  refine ⟨H', h1, ?_, h3, h4⟩
  rw [← edC_set l q hk]; exact h2
theorem edIx {i n c : Nat} {op : Bool} {e : Int} (h0 : 0 ≤ e) (h1 : e < n) : ixS 2 (.sl i 0 n c op) (.int .i64 e) = some (.ptr i (e.toNat * 2)) := by
  obtain ⟨m, rfl⟩ := Int.eq_ofNat_of_zero_le h0
  show brec none (some (AV.ptr i (0 + m * 2))) (Nat.blt m n) = _
  rw [show Nat.blt m n = true from by rw [Nat.blt_eq]; omega, Nat.zero_add, Int.toNat_natCast]; rfl

theorem cmp_ok (H : AH) (p q : Ed) (hh : H.hide = []) (hp : -100000 ≤ p.1 ∧ p.1 ≤ 100000) (hq : -100000 ≤ q.1 ∧ q.1 ≤ 100000) :
    FnE look 58 [edV p, edV q] H fun r H' => HX H H' ∧ r = .int .i64 (p.1 - q.1) := by
  refine fn_intro f58_eq (noext rfl) rfl ?_
  unfold f58c
  obtain ⟨H1, hal1, hx1, hn1, hr1⟩ := al_box (e := 66) (s := 2) (c := (edV p).toC) hh
  rw [toC_l] at hr1
  (repeat' (first | refine rc_reg ?_ | refine rc_seq ?_ | refine rk_done ?_ | refine rn_seq_n ?_ | refine rc_blk ?_ | refine rc_skip ?_ | refine rc_exit ?_ | refine rc_ret ?_ | refine rc_scp ?_ | refine rn_seq_e ?_ | refine rn_seq_r ?_ | refine rn_blk_n ?_ | refine rn_blk_r ?_ | refine rn_blk_e ?_ | refine rn_scp_n ?_ | refine rn_scp_e ?_ | refine rn_scp_r ?_ | refine rk_sk ?_ | refine rn_blk_x (by decide) ?_ | ((first | apply rk_mv' | apply rk_p1 | apply rk_p2 | apply rk_r1 | apply rk_ln | apply rk_ls); · (first | (simp (disch := omega) only [evl, Nat.reduceEqDiff, Nat.reduceAdd, reduceIte, reduceCtorEq] <;> exact rfl) | exact rfl)) | ((first | apply rc_cond | apply rk_gd); (· (first | (simp (disch := omega) only [evl, Nat.reduceEqDiff, Nat.reduceAdd, reduceIte, reduceCtorEq] <;> exact rfl) | exact rfl)); all_goals (intro hb; try simp only [bvl, ne_eq, Bool.not_true, Bool.not_false, reduceCtorEq, not_true_eq_false] at hb)) | (refine rk_gd_u ?_ ?_; · (first | (simp (disch := omega) only [evl, Nat.reduceEqDiff, Nat.reduceAdd, reduceIte, reduceCtorEq] <;> exact rfl) | exact rfl))))
  apply rk_m1
  · (simp (disch := omega) only [evl, Nat.reduceEqDiff, Nat.reduceAdd, reduceIte, reduceCtorEq])
    exact hal1
  simp only [hOut_f]
  obtain ⟨H2, hal2, hx2, hn2, hr2⟩ := al_box (e := 66) (s := 2) (c := (edV q).toC) (hx1.hide.trans hh)
  rw [toC_l] at hr2
  (repeat' (first | refine rc_reg ?_ | refine rc_seq ?_ | refine rk_done ?_ | refine rn_seq_n ?_ | refine rc_blk ?_ | refine rc_skip ?_ | refine rc_exit ?_ | refine rc_ret ?_ | refine rc_scp ?_ | refine rn_seq_e ?_ | refine rn_seq_r ?_ | refine rn_blk_n ?_ | refine rn_blk_r ?_ | refine rn_blk_e ?_ | refine rn_scp_n ?_ | refine rn_scp_e ?_ | refine rn_scp_r ?_ | refine rk_sk ?_ | refine rn_blk_x (by decide) ?_ | ((first | apply rk_mv' | apply rk_p1 | apply rk_p2 | apply rk_r1 | apply rk_ln | apply rk_ls); · (first | (simp (disch := omega) only [evl, Nat.reduceEqDiff, Nat.reduceAdd, reduceIte, reduceCtorEq] <;> exact rfl) | exact rfl)) | ((first | apply rc_cond | apply rk_gd); (· (first | (simp (disch := omega) only [evl, Nat.reduceEqDiff, Nat.reduceAdd, reduceIte, reduceCtorEq] <;> exact rfl) | exact rfl)); all_goals (intro hb; try simp only [bvl, ne_eq, Bool.not_true, Bool.not_false, reduceCtorEq, not_true_eq_false] at hb)) | (refine rk_gd_u ?_ ?_; · (first | (simp (disch := omega) only [evl, Nat.reduceEqDiff, Nat.reduceAdd, reduceIte, reduceCtorEq] <;> exact rfl) | exact rfl))))
  apply rk_m1
  · (simp (disch := omega) only [evl, Nat.reduceEqDiff, Nat.reduceAdd, reduceIte, reduceCtorEq])
    exact hal2
  simp only [hOut_f]
  have hA := (hr1.hx hx2 (by omega)).rd (k := 0) rfl
  have hB := hr2.rd (k := 0) rfl
  (repeat' (first | refine rc_reg ?_ | refine rc_seq ?_ | refine rk_done ?_ | refine rn_seq_n ?_ | refine rc_blk ?_ | refine rc_skip ?_ | refine rc_exit ?_ | refine rc_ret ?_ | refine rc_scp ?_ | refine rn_seq_e ?_ | refine rn_seq_r ?_ | refine rn_blk_n ?_ | refine rn_blk_r ?_ | refine rn_blk_e ?_ | refine rn_scp_n ?_ | refine rn_scp_e ?_ | refine rn_scp_r ?_ | refine rk_sk ?_ | refine rn_blk_x (by decide) ?_ | ((first | apply rk_mv' | apply rk_p1 | apply rk_p2 | apply rk_r1 | apply rk_ln | apply rk_ls); · (first | (simp (disch := omega) only [evl, Nat.reduceEqDiff, Nat.reduceAdd, reduceIte, reduceCtorEq, hA, hB] <;> exact rfl) | exact rfl)) | ((first | apply rc_cond | apply rk_gd); (· (first | (simp (disch := omega) only [evl, Nat.reduceEqDiff, Nat.reduceAdd, reduceIte, reduceCtorEq, hA, hB] <;> exact rfl) | exact rfl)); all_goals (intro hb; try simp only [bvl, ne_eq, Bool.not_true, Bool.not_false, reduceCtorEq, not_true_eq_false] at hb)) | (refine rk_gd_u ?_ ?_; · (first | (simp (disch := omega) only [evl, Nat.reduceEqDiff, Nat.reduceAdd, reduceIte, reduceCtorEq, hA, hB] <;> exact rfl) | exact rfl))))
  refine rn_nil ?_; refine fq_ret (resV_1 _ _) ⟨hx1.trans hx2, ?_⟩
  (simp (disch := omega) only [evl, Nat.reduceEqDiff, Nat.reduceAdd, reduceIte, reduceCtorEq])

/-- Two ranges of a list, put for each other. -/
def swp (xs : List Ed) (a b n : Nat) (j : Nat) : Option Ed := if a ≤ j ∧ j < a + n then xs[j - a + b]? else if b ≤ j ∧ j < b + n then xs[j - b + a]? else xs[j]?
theorem edG_get {l : List Ed} {k : Nat} (h : k < l.length) : l[k]? = some (edG l k) := by
  simp [edG, List.getD_eq_getElem?_getD, List.getElem?_eq_getElem h]

set_option maxHeartbeats 4000000 in
theorem swapR_ok (H : AH) (xs : List Ed) (i c a b n : Nat) (op op' : Bool) (f : AV) (hr : Row H i false op' 66 2 (edC xs)) (hi : i < H.next) (hlo : H.lo ≤ i) (hh : H.hide = [])
    (hab : a + n ≤ b) (hb : b + n ≤ xs.length) (hl : xs.length ≤ 1000000) :
    FnE look 84 [.sl i 0 xs.length c op, .int .i64 a, .int .i64 b, .int .i64 n, f] H fun r H' =>
      HP (· ≠ i) H H' ∧ ∃ ys, Row H' i false op' 66 2 (edC ys) ∧ ys.length = xs.length ∧ ∀ j, ys[j]? = swp xs a b n j := by
  refine fn_intro f84_eq (noext rfl) rfl ?_
  unfold f84c
  (repeat' (first | refine rc_reg ?_ | refine rc_seq ?_ | refine rk_done ?_ | refine rn_seq_n ?_ | refine rc_blk ?_ | refine rc_skip ?_ | refine rc_exit ?_ | refine rc_ret ?_ | refine rc_scp ?_ | refine rn_seq_e ?_ | refine rn_seq_r ?_ | refine rn_blk_n ?_ | refine rn_blk_r ?_ | refine rn_blk_e ?_ | refine rn_scp_n ?_ | refine rn_scp_e ?_ | refine rn_scp_r ?_ | refine rk_sk ?_ | refine rn_blk_x (by decide) ?_ | ((first | apply rk_mv' | apply rk_p1 | apply rk_p2 | apply rk_r1 | apply rk_ln | apply rk_ls); · (first | (simp (disch := omega) only [evl, Nat.reduceEqDiff, Nat.reduceAdd, reduceIte, reduceCtorEq] <;> exact rfl) | exact rfl)) | ((first | apply rc_cond | apply rk_gd); (· (first | (simp (disch := omega) only [evl, Nat.reduceEqDiff, Nat.reduceAdd, reduceIte, reduceCtorEq] <;> exact rfl) | exact rfl)); all_goals (intro hb; try simp only [bvl, ne_eq, Bool.not_true, Bool.not_false, reduceCtorEq, not_true_eq_false] at hb)) | (refine rk_gd_u ?_ ?_; · (first | (simp (disch := omega) only [evl, Nat.reduceEqDiff, Nat.reduceAdd, reduceIte, reduceCtorEq] <;> exact rfl) | exact rfl))))
  refine rc_loop (R := fun ex T' H' => ex = .exit 0 ∧ HP (· ≠ i) H H' ∧ ∃ ys, Row H' i false op' 66 2 (edC ys) ∧ ys.length = xs.length ∧ ∀ j, ys[j]? = swp xs a b n j) ?_ ?_
  · refine lp_ind f84l0_eq (fun k T H' => ∃ (t : Nat) (ys : List Ed), k = n - t ∧ t ≤ n ∧ gT T 0 = .sl i 0 xs.length c op ∧ gT T 1 = .int .i64 a ∧ gT T 2 = .int .i64 b ∧ gT T 3 = .int .i64 n ∧ gT T 10 = .int .i64 t ∧ HP (· ≠ i) H H' ∧ Row H' i false op' 66 2 (edC ys) ∧ ys.length = xs.length ∧ ∀ j, ys[j]? = swp xs a b t j) _ ?_ n _ _ ?_
    · intro k T H1 hI
      obtain ⟨t, ys, hk, ht, h0, h1, h2, h3, h10, hp, hrow, hyl, hys⟩ := hI
      unfold f84l0
      by_cases hlt : t < n
      · have hixA := edIx (i := i) (n := xs.length) (c := c) (op := op) (e := (a : Int) + t) (by omega) (by omega)
        have hixB := edIx (i := i) (n := xs.length) (c := c) (op := op) (e := (b : Int) + t) (by omega) (by omega)
        rw [show ((a : Int) + t).toNat = a + t from by omega] at hixA
        rw [show ((b : Int) + t).toNat = b + t from by omega] at hixB
        have hrdA := edRd hrow (k := a + t) (by omega)
        have hrdB := edRd hrow (k := b + t) (by omega)
        have hgA := edG_get (l := ys) (k := a + t) (by omega)
        have hgB := edG_get (l := ys) (k := b + t) (by omega)
        have Hys := Hd.mk hys
        clear hys
        generalize edG ys (a + t) = p at *
        generalize edG ys (b + t) = q at *
        (repeat' (first | refine rc_reg ?_ | refine rc_seq ?_ | refine rk_done ?_ | refine rn_seq_n ?_ | refine rc_blk ?_ | refine rc_skip ?_ | refine rc_exit ?_ | refine rc_ret ?_ | refine rc_scp ?_ | refine rn_seq_e ?_ | refine rn_seq_r ?_ | refine rn_blk_n ?_ | refine rn_blk_r ?_ | refine rn_blk_e ?_ | refine rn_scp_n ?_ | refine rn_scp_e ?_ | refine rn_scp_r ?_ | refine rk_sk ?_ | refine rn_blk_x (by decide) ?_ | ((first | apply rk_mv' | apply rk_p1 | apply rk_p2 | apply rk_r1 | apply rk_ln | apply rk_ls); · (first | (simp (disch := omega) only [evl, Nat.reduceEqDiff, Nat.reduceAdd, reduceIte, reduceCtorEq, h0, h1, h2, h3, h10, hixA, hixB, hrdA, hrdB] <;> exact rfl) | exact rfl)) | ((first | apply rc_cond | apply rk_gd); (· (first | (simp (disch := omega) only [evl, Nat.reduceEqDiff, Nat.reduceAdd, reduceIte, reduceCtorEq, h0, h1, h2, h3, h10, hixA, hixB, hrdA, hrdB] <;> exact rfl) | exact rfl)); all_goals (intro hb; try simp only [bvl, ne_eq, Bool.not_true, Bool.not_false, reduceCtorEq, not_true_eq_false] at hb)) | (refine rk_gd_u ?_ ?_; · (first | (simp (disch := omega) only [evl, Nat.reduceEqDiff, Nat.reduceAdd, reduceIte, reduceCtorEq, h0, h1, h2, h3, h10, hixA, hixB, hrdA, hrdB] <;> exact rfl) | exact rfl))))
        obtain ⟨H2, hs2, hr2, hp2, hn2⟩ := edSt q hrow (hp.hide.trans hh) (by rw [hp.lo]; exact hlo) (k := a + t) (by omega)
        apply rk_st
        · (simp (disch := omega) only [evl, Nat.reduceEqDiff, Nat.reduceAdd, reduceIte, reduceCtorEq])
          exact hs2
        simp only [hOut_f]
        (repeat' (first | refine rc_reg ?_ | refine rc_seq ?_ | refine rk_done ?_ | refine rn_seq_n ?_ | refine rc_blk ?_ | refine rc_skip ?_ | refine rc_exit ?_ | refine rc_ret ?_ | refine rc_scp ?_ | refine rn_seq_e ?_ | refine rn_seq_r ?_ | refine rn_blk_n ?_ | refine rn_blk_r ?_ | refine rn_blk_e ?_ | refine rn_scp_n ?_ | refine rn_scp_e ?_ | refine rn_scp_r ?_ | refine rk_sk ?_ | refine rn_blk_x (by decide) ?_ | ((first | apply rk_mv' | apply rk_p1 | apply rk_p2 | apply rk_r1 | apply rk_ln | apply rk_ls); · (first | (simp (disch := omega) only [evl, Nat.reduceEqDiff, Nat.reduceAdd, reduceIte, reduceCtorEq, hixB] <;> exact rfl) | exact rfl)) | ((first | apply rc_cond | apply rk_gd); (· (first | (simp (disch := omega) only [evl, Nat.reduceEqDiff, Nat.reduceAdd, reduceIte, reduceCtorEq, hixB] <;> exact rfl) | exact rfl)); all_goals (intro hb; try simp only [bvl, ne_eq, Bool.not_true, Bool.not_false, reduceCtorEq, not_true_eq_false] at hb)) | (refine rk_gd_u ?_ ?_; · (first | (simp (disch := omega) only [evl, Nat.reduceEqDiff, Nat.reduceAdd, reduceIte, reduceCtorEq, hixB] <;> exact rfl) | exact rfl))))
        obtain ⟨H3, hs3, hr3, hp3, hn3⟩ := edSt p hr2 (hp2.hide.trans (hp.hide.trans hh)) (by rw [hp2.lo, hp.lo]; exact hlo) (k := b + t) (by rw [List.length_set]; omega)
        apply rk_st
        · (simp (disch := omega) only [evl, Nat.reduceEqDiff, Nat.reduceAdd, reduceIte, reduceCtorEq])
          exact hs3
        simp only [hOut_f]
        (repeat' (first | refine rc_reg ?_ | refine rc_seq ?_ | refine rk_done ?_ | refine rn_seq_n ?_ | refine rc_blk ?_ | refine rc_skip ?_ | refine rc_exit ?_ | refine rc_ret ?_ | refine rc_scp ?_ | refine rn_seq_e ?_ | refine rn_seq_r ?_ | refine rn_blk_n ?_ | refine rn_blk_r ?_ | refine rn_blk_e ?_ | refine rn_scp_n ?_ | refine rn_scp_e ?_ | refine rn_scp_r ?_ | refine rk_sk ?_ | refine rn_blk_x (by decide) ?_ | ((first | apply rk_mv' | apply rk_p1 | apply rk_p2 | apply rk_r1 | apply rk_ln | apply rk_ls); · (first | (simp (disch := omega) only [evl, Nat.reduceEqDiff, Nat.reduceAdd, reduceIte, reduceCtorEq, h10] <;> exact rfl) | exact rfl)) | ((first | apply rc_cond | apply rk_gd); (· (first | (simp (disch := omega) only [evl, Nat.reduceEqDiff, Nat.reduceAdd, reduceIte, reduceCtorEq, h10] <;> exact rfl) | exact rfl)); all_goals (intro hb; try simp only [bvl, ne_eq, Bool.not_true, Bool.not_false, reduceCtorEq, not_true_eq_false] at hb)) | (refine rk_gd_u ?_ ?_; · (first | (simp (disch := omega) only [evl, Nat.reduceEqDiff, Nat.reduceAdd, reduceIte, reduceCtorEq, h10] <;> exact rfl) | exact rfl))))
        refine rn_nil ?_; refine lpq_n (n - (t + 1)) (by omega) ?_
        refine ⟨t + 1, _, rfl, by omega, (by (first | (simp (disch := omega) only [evl, Nat.reduceEqDiff, Nat.reduceAdd, reduceIte, reduceCtorEq, h0] <;> exact rfl) | exact rfl)), (by (first | (simp (disch := omega) only [evl, Nat.reduceEqDiff, Nat.reduceAdd, reduceIte, reduceCtorEq, h1] <;> exact rfl) | exact rfl)), (by (first | (simp (disch := omega) only [evl, Nat.reduceEqDiff, Nat.reduceAdd, reduceIte, reduceCtorEq, h2] <;> exact rfl) | exact rfl)), (by (first | (simp (disch := omega) only [evl, Nat.reduceEqDiff, Nat.reduceAdd, reduceIte, reduceCtorEq, h3] <;> exact rfl) | exact rfl)), (by (first | (simp (disch := omega) only [evl, Nat.reduceEqDiff, Nat.reduceAdd, reduceIte, reduceCtorEq] <;> exact rfl) | exact rfl)), (hp.trans hp2 (r := (· ≠ i)) fun i hi h => ⟨h, h⟩).trans hp3 (r := (· ≠ i)) fun i hi h => ⟨h, h⟩, hr3, by simp [hyl], ?_⟩
        intro j
        have h1 := Hys.out (a + t)
        have h2 := Hys.out (b + t)
        have h3 := Hys.out j
        rw [hgA] at h1
        rw [hgB] at h2
        unfold swp at h1 h2 h3 ⊢
        rw [if_neg (by omega), if_neg (by omega)] at h1 h2
        rw [List.getElem?_set, List.getElem?_set]
        by_cases hj1 : b + t = j
        · rw [if_pos hj1, if_pos (by rw [List.length_set]; omega), if_neg (by omega), if_pos (by omega), show j - b + a = a + t from by omega]
          exact h1
        · rw [if_neg hj1]
          by_cases hj2 : a + t = j
          · rw [if_pos hj2, if_pos (by omega), if_pos (by omega), show j - a + b = b + t from by omega]
            exact h2
          · rw [if_neg hj2, h3]
            by_cases hj3 : a ≤ j ∧ j < a + t
            · rw [if_pos hj3, if_pos (by omega)]
            · rw [if_neg hj3]
              by_cases hj4 : b ≤ j ∧ j < b + t
              · rw [if_pos hj4, if_neg (by omega), if_pos (by omega)]
              · rw [if_neg hj4, if_neg (by omega), if_neg (by omega)]
      · (repeat' (first | refine rc_reg ?_ | refine rc_seq ?_ | refine rk_done ?_ | refine rn_seq_n ?_ | refine rc_blk ?_ | refine rc_skip ?_ | refine rc_exit ?_ | refine rc_ret ?_ | refine rc_scp ?_ | refine rn_seq_e ?_ | refine rn_seq_r ?_ | refine rn_blk_n ?_ | refine rn_blk_r ?_ | refine rn_blk_e ?_ | refine rn_scp_n ?_ | refine rn_scp_e ?_ | refine rn_scp_r ?_ | refine rk_sk ?_ | refine rn_blk_x (by decide) ?_ | ((first | apply rk_mv' | apply rk_p1 | apply rk_p2 | apply rk_r1 | apply rk_ln | apply rk_ls); · (first | (simp (disch := omega) only [evl, Nat.reduceEqDiff, Nat.reduceAdd, reduceIte, reduceCtorEq, h3, h10] <;> exact rfl) | exact rfl)) | ((first | apply rc_cond | apply rk_gd); (· (first | (simp (disch := omega) only [evl, Nat.reduceEqDiff, Nat.reduceAdd, reduceIte, reduceCtorEq, h3, h10] <;> exact rfl) | exact rfl)); all_goals (intro hb; try simp only [bvl, ne_eq, Bool.not_true, Bool.not_false, reduceCtorEq, not_true_eq_false] at hb)) | (refine rk_gd_u ?_ ?_; · (first | (simp (disch := omega) only [evl, Nat.reduceEqDiff, Nat.reduceAdd, reduceIte, reduceCtorEq, h3, h10] <;> exact rfl) | exact rfl))))
        refine rn_nil ?_; refine lpq_e ?_
        obtain rfl : t = n := by omega
        exact ⟨rfl, hp, ys, hrow, hyl, hys⟩
    · refine ⟨0, xs, by omega, by omega, (by (first | (simp (disch := omega) only [evl, Nat.reduceEqDiff, Nat.reduceAdd, reduceIte, reduceCtorEq] <;> exact rfl) | exact rfl)), (by (first | (simp (disch := omega) only [evl, Nat.reduceEqDiff, Nat.reduceAdd, reduceIte, reduceCtorEq] <;> exact rfl) | exact rfl)), (by (first | (simp (disch := omega) only [evl, Nat.reduceEqDiff, Nat.reduceAdd, reduceIte, reduceCtorEq] <;> exact rfl) | exact rfl)), (by (first | (simp (disch := omega) only [evl, Nat.reduceEqDiff, Nat.reduceAdd, reduceIte, reduceCtorEq] <;> exact rfl) | exact rfl)), (by (first | (simp (disch := omega) only [evl, Nat.reduceEqDiff, Nat.reduceAdd, reduceIte, reduceCtorEq] <;> exact rfl) | exact rfl)), HP.refl _ _, hr, rfl, fun j => ?_⟩
      unfold swp
      rw [if_neg (by omega), if_neg (by omega)]
  · rintro ex T' H' ⟨rfl, hres⟩
    (repeat' (first | refine rc_reg ?_ | refine rc_seq ?_ | refine rk_done ?_ | refine rn_seq_n ?_ | refine rc_blk ?_ | refine rc_skip ?_ | refine rc_exit ?_ | refine rc_ret ?_ | refine rc_scp ?_ | refine rn_seq_e ?_ | refine rn_seq_r ?_ | refine rn_blk_n ?_ | refine rn_blk_r ?_ | refine rn_blk_e ?_ | refine rn_scp_n ?_ | refine rn_scp_e ?_ | refine rn_scp_r ?_ | refine rk_sk ?_ | refine rn_blk_x (by decide) ?_ | ((first | apply rk_mv' | apply rk_p1 | apply rk_p2 | apply rk_r1 | apply rk_ln | apply rk_ls); · (first | (simp (disch := omega) only [evl, Nat.reduceEqDiff, Nat.reduceAdd, reduceIte, reduceCtorEq] <;> exact rfl) | exact rfl)) | ((first | apply rc_cond | apply rk_gd); (· (first | (simp (disch := omega) only [evl, Nat.reduceEqDiff, Nat.reduceAdd, reduceIte, reduceCtorEq] <;> exact rfl) | exact rfl)); all_goals (intro hb; try simp only [bvl, ne_eq, Bool.not_true, Bool.not_false, reduceCtorEq, not_true_eq_false] at hb)) | (refine rk_gd_u ?_ ?_; · (first | (simp (disch := omega) only [evl, Nat.reduceEqDiff, Nat.reduceAdd, reduceIte, reduceCtorEq] <;> exact rfl) | exact rfl))))
    refine rn_nil ?_; exact fq_nor (resV_0 _) hres
end Go.Proofs.Ytnkomaedmblemaa

set_option linter.unusedSimpArgs false
set_option linter.unusedVariables false
set_option maxRecDepth 100000
namespace Go.Proofs.Ytnkomaedmblemaa
open Go.Ev Exl

/-- Two neighbouring ranges, put for each other. -/
def rot (xs : List Ed) (a m b : Nat) (j : Nat) : Option Ed := if a ≤ j ∧ j < a + (b - m) then xs[j + (m - a)]? else if a + (b - m) ≤ j ∧ j < b then xs[j - (b - m)]? else xs[j]?

theorem rot_one {zs ys : List Ed} {m p q : Nat} (hq : q < p) (hp : p ≤ m) (hq0 : 1 ≤ q) (h : ∀ j, ys[j]? = swp zs (m - p) m q j) (t : Nat) : rot ys (m - (p - q)) m (m + q) t = rot zs (m - p) m (m + q) t := by
  unfold rot
  simp only [h, swp]
  repeat' split
  all_goals first
    | rfl
    | (exfalso; omega)
    | exact congrArg (fun k => zs[k]?) (by omega)
theorem rot_two {zs ys : List Ed} {m p q : Nat} (hq : p < q) (hp : p ≤ m) (hq0 : 1 ≤ p) (h : ∀ j, ys[j]? = swp zs (m - p) (m + q - p) p j) (t : Nat) : rot ys (m - p) m (m + (q - p)) t = rot zs (m - p) m (m + q) t := by
  unfold rot
  simp only [h, swp]
  repeat' split
  all_goals first
    | rfl
    | (exfalso; omega)
    | exact congrArg (fun k => zs[k]?) (by omega)
theorem rot_eq {zs : List Ed} {m p : Nat} (hp : p ≤ m) (t : Nat) : swp zs (m - p) m p t = rot zs (m - p) m (m + p) t := by
  unfold rot swp
  repeat' split
  all_goals first
    | rfl
    | (exfalso; omega)
    | exact congrArg (fun k => zs[k]?) (by omega)

set_option maxHeartbeats 4000000 in
theorem rotate_ok (H : AH) (xs : List Ed) (i c a m b : Nat) (op op' : Bool) (f : AV) (hr : Row H i false op' 66 2 (edC xs)) (hi : i < H.next) (hlo : H.lo ≤ i) (hh : H.hide = [])
    (ham : a < m) (hmb : m < b) (hb : b ≤ xs.length) (hl : xs.length ≤ 1000000) :
    FnE look 82 [.sl i 0 xs.length c op, .int .i64 a, .int .i64 m, .int .i64 b, f] H fun r H' =>
      HP (· ≠ i) H H' ∧ ∃ ys, Row H' i false op' 66 2 (edC ys) ∧ ys.length = xs.length ∧ ∀ j, ys[j]? = rot xs a m b j := by
  refine fn_intro f82_eq (noext rfl) rfl ?_
  unfold f82c
  (repeat' (first | refine rc_reg ?_ | refine rc_seq ?_ | refine rk_done ?_ | refine rn_seq_n ?_ | refine rc_blk ?_ | refine rc_skip ?_ | refine rc_exit ?_ | refine rc_ret ?_ | refine rc_scp ?_ | refine rn_seq_e ?_ | refine rn_seq_r ?_ | refine rn_blk_n ?_ | refine rn_blk_r ?_ | refine rn_blk_e ?_ | refine rn_scp_n ?_ | refine rn_scp_e ?_ | refine rn_scp_r ?_ | refine rk_sk ?_ | refine rn_blk_x (by decide) ?_ | ((first | apply rk_mv' | apply rk_p1 | apply rk_p2 | apply rk_r1 | apply rk_ln | apply rk_ls); · (first | (simp (disch := omega) only [evl, Nat.reduceEqDiff, Nat.reduceAdd, reduceIte, reduceCtorEq] <;> exact rfl) | exact rfl)) | ((first | apply rc_cond | apply rk_gd); (· (first | (simp (disch := omega) only [evl, Nat.reduceEqDiff, Nat.reduceAdd, reduceIte, reduceCtorEq] <;> exact rfl) | exact rfl)); all_goals (intro hb; try simp only [bvl, ne_eq, Bool.not_true, Bool.not_false, reduceCtorEq, not_true_eq_false] at hb)) | (refine rk_gd_u ?_ ?_; · (first | (simp (disch := omega) only [evl, Nat.reduceEqDiff, Nat.reduceAdd, reduceIte, reduceCtorEq] <;> exact rfl) | exact rfl))))
  refine rc_loop (R := fun ex T' H' => ex = .exit 0 ∧ ∃ (p : Nat) (zs : List Ed), gT T' 0 = .sl i 0 xs.length c op ∧ gT T' 2 = .int .i64 m ∧ gT T' 4 = f ∧ gT T' 10 = .int .i64 p ∧ 1 ≤ p ∧ p ≤ m ∧ m + p ≤ xs.length ∧ HP (· ≠ i) H H' ∧ Row H' i false op' 66 2 (edC zs) ∧ zs.length = xs.length ∧ ∀ t, rot zs (m - p) m (m + p) t = rot xs a m b t) ?_ ?_
  · refine lp_ind f82l0_eq (fun k T H' => ∃ (p q : Nat) (zs : List Ed), k = p + q ∧ gT T 0 = .sl i 0 xs.length c op ∧ gT T 2 = .int .i64 m ∧ gT T 4 = f ∧ gT T 10 = .int .i64 p ∧ gT T 11 = .int .i64 q ∧ 1 ≤ p ∧ 1 ≤ q ∧ p ≤ m ∧ m + q ≤ xs.length ∧ HP (· ≠ i) H H' ∧ Row H' i false op' 66 2 (edC zs) ∧ zs.length = xs.length ∧ ∀ t, rot zs (m - p) m (m + q) t = rot xs a m b t) _ ?_ ((m - a) + (b - m)) _ _ ?_
    · intro k T H1 hI
      obtain ⟨p, q, zs, hk, h0, h2, h4, h10, h11, hp1, hq1, hpm, hqm, hhp, hrow, hzl, hrot⟩ := hI
      unfold f82l0
      have Hrot := Hd.mk hrot
      clear hrot
      by_cases heq : p = q
      · subst heq
        (repeat' (first | refine rc_reg ?_ | refine rc_seq ?_ | refine rk_done ?_ | refine rn_seq_n ?_ | refine rc_blk ?_ | refine rc_skip ?_ | refine rc_exit ?_ | refine rc_ret ?_ | refine rc_scp ?_ | refine rn_seq_e ?_ | refine rn_seq_r ?_ | refine rn_blk_n ?_ | refine rn_blk_r ?_ | refine rn_blk_e ?_ | refine rn_scp_n ?_ | refine rn_scp_e ?_ | refine rn_scp_r ?_ | refine rk_sk ?_ | refine rn_blk_x (by decide) ?_ | ((first | apply rk_mv' | apply rk_p1 | apply rk_p2 | apply rk_r1 | apply rk_ln | apply rk_ls); · (first | (simp (disch := omega) only [evl, Nat.reduceEqDiff, Nat.reduceAdd, reduceIte, reduceCtorEq, h10, h11] <;> exact rfl) | exact rfl)) | ((first | apply rc_cond | apply rk_gd); (· (first | (simp (disch := omega) only [evl, Nat.reduceEqDiff, Nat.reduceAdd, reduceIte, reduceCtorEq, h10, h11] <;> exact rfl) | exact rfl)); all_goals (intro hb; try simp only [bvl, ne_eq, Bool.not_true, Bool.not_false, reduceCtorEq, not_true_eq_false] at hb)) | (refine rk_gd_u ?_ ?_; · (first | (simp (disch := omega) only [evl, Nat.reduceEqDiff, Nat.reduceAdd, reduceIte, reduceCtorEq, h10, h11] <;> exact rfl) | exact rfl))))
        refine rn_nil ?_; refine lpq_e ?_
        exact ⟨rfl, p, zs, (by (first | (simp (disch := omega) only [evl, Nat.reduceEqDiff, Nat.reduceAdd, reduceIte, reduceCtorEq, h0] <;> exact rfl) | exact rfl)), (by (first | (simp (disch := omega) only [evl, Nat.reduceEqDiff, Nat.reduceAdd, reduceIte, reduceCtorEq, h2] <;> exact rfl) | exact rfl)), (by (first | (simp (disch := omega) only [evl, Nat.reduceEqDiff, Nat.reduceAdd, reduceIte, reduceCtorEq, h4] <;> exact rfl) | exact rfl)), (by (first | (simp (disch := omega) only [evl, Nat.reduceEqDiff, Nat.reduceAdd, reduceIte, reduceCtorEq, h10] <;> exact rfl) | exact rfl)), hp1, hpm, hqm, hhp, hrow, hzl, Hrot.out⟩
      · by_cases hgt : q < p
        · (repeat' (first | refine rc_reg ?_ | refine rc_seq ?_ | refine rk_done ?_ | refine rn_seq_n ?_ | refine rc_blk ?_ | refine rc_skip ?_ | refine rc_exit ?_ | refine rc_ret ?_ | refine rc_scp ?_ | refine rn_seq_e ?_ | refine rn_seq_r ?_ | refine rn_blk_n ?_ | refine rn_blk_r ?_ | refine rn_blk_e ?_ | refine rn_scp_n ?_ | refine rn_scp_e ?_ | refine rn_scp_r ?_ | refine rk_sk ?_ | refine rn_blk_x (by decide) ?_ | ((first | apply rk_mv' | apply rk_p1 | apply rk_p2 | apply rk_r1 | apply rk_ln | apply rk_ls); · (first | (simp (disch := omega) only [evl, Nat.reduceEqDiff, Nat.reduceAdd, reduceIte, reduceCtorEq, h0, h2, h4, h10, h11] <;> exact rfl) | exact rfl)) | ((first | apply rc_cond | apply rk_gd); (· (first | (simp (disch := omega) only [evl, Nat.reduceEqDiff, Nat.reduceAdd, reduceIte, reduceCtorEq, h0, h2, h4, h10, h11] <;> exact rfl) | exact rfl)); all_goals (intro hb; try simp only [bvl, ne_eq, Bool.not_true, Bool.not_false, reduceCtorEq, not_true_eq_false] at hb)) | (refine rk_gd_u ?_ ?_; · (first | (simp (disch := omega) only [evl, Nat.reduceEqDiff, Nat.reduceAdd, reduceIte, reduceCtorEq, h0, h2, h4, h10, h11] <;> exact rfl) | exact rfl))))
          refine rk_cl (f := 84) (by
            (simp (disch := omega) only [evl, Nat.reduceEqDiff, Nat.reduceAdd, reduceIte, reduceCtorEq, h0, h2, h4, h10, h11])
            rw [show (m : Int) - p = ((m - p : Nat) : Int) from by omega, ← hzl]
            exact swapR_ok H1 zs i c (m - p) m q op op' f hrow (by have := hhp.next; omega) (by rw [hhp.lo]; exact hlo) (hhp.hide.trans hh) (by omega) (by omega) (by omega)) ?_
          rintro r H2 ⟨hp2, ys, hr2, hyl, hys⟩
          simp only [hOut_f]
          (repeat' (first | refine rc_reg ?_ | refine rc_seq ?_ | refine rk_done ?_ | refine rn_seq_n ?_ | refine rc_blk ?_ | refine rc_skip ?_ | refine rc_exit ?_ | refine rc_ret ?_ | refine rc_scp ?_ | refine rn_seq_e ?_ | refine rn_seq_r ?_ | refine rn_blk_n ?_ | refine rn_blk_r ?_ | refine rn_blk_e ?_ | refine rn_scp_n ?_ | refine rn_scp_e ?_ | refine rn_scp_r ?_ | refine rk_sk ?_ | refine rn_blk_x (by decide) ?_ | ((first | apply rk_mv' | apply rk_p1 | apply rk_p2 | apply rk_r1 | apply rk_ln | apply rk_ls); · (first | (simp (disch := omega) only [evl, Nat.reduceEqDiff, Nat.reduceAdd, reduceIte, reduceCtorEq, h10, h11] <;> exact rfl) | exact rfl)) | ((first | apply rc_cond | apply rk_gd); (· (first | (simp (disch := omega) only [evl, Nat.reduceEqDiff, Nat.reduceAdd, reduceIte, reduceCtorEq, h10, h11] <;> exact rfl) | exact rfl)); all_goals (intro hb; try simp only [bvl, ne_eq, Bool.not_true, Bool.not_false, reduceCtorEq, not_true_eq_false] at hb)) | (refine rk_gd_u ?_ ?_; · (first | (simp (disch := omega) only [evl, Nat.reduceEqDiff, Nat.reduceAdd, reduceIte, reduceCtorEq, h10, h11] <;> exact rfl) | exact rfl))))
          refine rn_nil ?_; refine lpq_n (p - q + q) (by omega) ?_
          refine ⟨p - q, q, ys, rfl, (by (first | (simp (disch := omega) only [evl, Nat.reduceEqDiff, Nat.reduceAdd, reduceIte, reduceCtorEq, h0] <;> exact rfl) | exact rfl)), (by (first | (simp (disch := omega) only [evl, Nat.reduceEqDiff, Nat.reduceAdd, reduceIte, reduceCtorEq, h2] <;> exact rfl) | exact rfl)), (by (first | (simp (disch := omega) only [evl, Nat.reduceEqDiff, Nat.reduceAdd, reduceIte, reduceCtorEq, h4] <;> exact rfl) | exact rfl)), ?_, (by (first | (simp (disch := omega) only [evl, Nat.reduceEqDiff, Nat.reduceAdd, reduceIte, reduceCtorEq, h11] <;> exact rfl) | exact rfl)), by omega, hq1, by omega, by omega, hhp.trans hp2 (r := (· ≠ i)) fun i hi h => ⟨h, h⟩, hr2, by omega, fun t => ?_⟩
          · (simp (disch := omega) only [evl, Nat.reduceEqDiff, Nat.reduceAdd, reduceIte, reduceCtorEq])
            rw [show (p : Int) - q = ((p - q : Nat) : Int) from by omega]
          · rw [rot_one hgt hpm hq1 hys]; exact Hrot.out t
        · (repeat' (first | refine rc_reg ?_ | refine rc_seq ?_ | refine rk_done ?_ | refine rn_seq_n ?_ | refine rc_blk ?_ | refine rc_skip ?_ | refine rc_exit ?_ | refine rc_ret ?_ | refine rc_scp ?_ | refine rn_seq_e ?_ | refine rn_seq_r ?_ | refine rn_blk_n ?_ | refine rn_blk_r ?_ | refine rn_blk_e ?_ | refine rn_scp_n ?_ | refine rn_scp_e ?_ | refine rn_scp_r ?_ | refine rk_sk ?_ | refine rn_blk_x (by decide) ?_ | ((first | apply rk_mv' | apply rk_p1 | apply rk_p2 | apply rk_r1 | apply rk_ln | apply rk_ls); · (first | (simp (disch := omega) only [evl, Nat.reduceEqDiff, Nat.reduceAdd, reduceIte, reduceCtorEq, h0, h2, h4, h10, h11] <;> exact rfl) | exact rfl)) | ((first | apply rc_cond | apply rk_gd); (· (first | (simp (disch := omega) only [evl, Nat.reduceEqDiff, Nat.reduceAdd, reduceIte, reduceCtorEq, h0, h2, h4, h10, h11] <;> exact rfl) | exact rfl)); all_goals (intro hb; try simp only [bvl, ne_eq, Bool.not_true, Bool.not_false, reduceCtorEq, not_true_eq_false] at hb)) | (refine rk_gd_u ?_ ?_; · (first | (simp (disch := omega) only [evl, Nat.reduceEqDiff, Nat.reduceAdd, reduceIte, reduceCtorEq, h0, h2, h4, h10, h11] <;> exact rfl) | exact rfl))))
          refine rk_cl (f := 84) (by
            (simp (disch := omega) only [evl, Nat.reduceEqDiff, Nat.reduceAdd, reduceIte, reduceCtorEq, h0, h2, h4, h10, h11])
            rw [show (m : Int) - p = ((m - p : Nat) : Int) from by omega, show (m : Int) + q - p = ((m + q - p : Nat) : Int) from by omega, ← hzl]
            exact swapR_ok H1 zs i c (m - p) (m + q - p) p op op' f hrow (by have := hhp.next; omega) (by rw [hhp.lo]; exact hlo) (hhp.hide.trans hh) (by omega) (by omega) (by omega)) ?_
          rintro r H2 ⟨hp2, ys, hr2, hyl, hys⟩
          simp only [hOut_f]
          (repeat' (first | refine rc_reg ?_ | refine rc_seq ?_ | refine rk_done ?_ | refine rn_seq_n ?_ | refine rc_blk ?_ | refine rc_skip ?_ | refine rc_exit ?_ | refine rc_ret ?_ | refine rc_scp ?_ | refine rn_seq_e ?_ | refine rn_seq_r ?_ | refine rn_blk_n ?_ | refine rn_blk_r ?_ | refine rn_blk_e ?_ | refine rn_scp_n ?_ | refine rn_scp_e ?_ | refine rn_scp_r ?_ | refine rk_sk ?_ | refine rn_blk_x (by decide) ?_ | ((first | apply rk_mv' | apply rk_p1 | apply rk_p2 | apply rk_r1 | apply rk_ln | apply rk_ls); · (first | (simp (disch := omega) only [evl, Nat.reduceEqDiff, Nat.reduceAdd, reduceIte, reduceCtorEq, h10, h11] <;> exact rfl) | exact rfl)) | ((first | apply rc_cond | apply rk_gd); (· (first | (simp (disch := omega) only [evl, Nat.reduceEqDiff, Nat.reduceAdd, reduceIte, reduceCtorEq, h10, h11] <;> exact rfl) | exact rfl)); all_goals (intro hb; try simp only [bvl, ne_eq, Bool.not_true, Bool.not_false, reduceCtorEq, not_true_eq_false] at hb)) | (refine rk_gd_u ?_ ?_; · (first | (simp (disch := omega) only [evl, Nat.reduceEqDiff, Nat.reduceAdd, reduceIte, reduceCtorEq, h10, h11] <;> exact rfl) | exact rfl))))
          refine rn_nil ?_; refine lpq_n (p + (q - p)) (by omega) ?_
          refine ⟨p, q - p, ys, rfl, (by (first | (simp (disch := omega) only [evl, Nat.reduceEqDiff, Nat.reduceAdd, reduceIte, reduceCtorEq, h0] <;> exact rfl) | exact rfl)), (by (first | (simp (disch := omega) only [evl, Nat.reduceEqDiff, Nat.reduceAdd, reduceIte, reduceCtorEq, h2] <;> exact rfl) | exact rfl)), (by (first | (simp (disch := omega) only [evl, Nat.reduceEqDiff, Nat.reduceAdd, reduceIte, reduceCtorEq, h4] <;> exact rfl) | exact rfl)), (by (first | (simp (disch := omega) only [evl, Nat.reduceEqDiff, Nat.reduceAdd, reduceIte, reduceCtorEq, h10] <;> exact rfl) | exact rfl)), ?_, hp1, by omega, hpm, by omega, hhp.trans hp2 (r := (· ≠ i)) fun i hi h => ⟨h, h⟩, hr2, by omega, fun t => ?_⟩
          · (simp (disch := omega) only [evl, Nat.reduceEqDiff, Nat.reduceAdd, reduceIte, reduceCtorEq])
            rw [show (q : Int) - p = ((q - p : Nat) : Int) from by omega]
          · rw [rot_two (by omega) hpm hp1 hys]; exact Hrot.out t
    · refine ⟨m - a, b - m, xs, rfl, (by (first | (simp (disch := omega) only [evl, Nat.reduceEqDiff, Nat.reduceAdd, reduceIte, reduceCtorEq] <;> exact rfl) | exact rfl)), (by (first | (simp (disch := omega) only [evl, Nat.reduceEqDiff, Nat.reduceAdd, reduceIte, reduceCtorEq] <;> exact rfl) | exact rfl)), (by (first | (simp (disch := omega) only [evl, Nat.reduceEqDiff, Nat.reduceAdd, reduceIte, reduceCtorEq] <;> exact rfl) | exact rfl)), ?_, ?_, by omega, by omega, by omega, by omega, HP.refl _ _, hr, rfl, fun t => ?_⟩
      · (simp (disch := omega) only [evl, Nat.reduceEqDiff, Nat.reduceAdd, reduceIte, reduceCtorEq])
        rw [show (m : Int) - a = ((m - a : Nat) : Int) from by omega]
      · (simp (disch := omega) only [evl, Nat.reduceEqDiff, Nat.reduceAdd, reduceIte, reduceCtorEq])
        rw [show (b : Int) - m = ((b - m : Nat) : Int) from by omega]
      · rw [show m - (m - a) = a from by omega, show m + (b - m) = b from by omega]
  · rintro ex T' H1 ⟨rfl, p, zs, h0, h2, h4, h10, hp1, hpm, hml, hhp, hrow, hzl, hrot⟩
    (repeat' (first | refine rc_reg ?_ | refine rc_seq ?_ | refine rk_done ?_ | refine rn_seq_n ?_ | refine rc_blk ?_ | refine rc_skip ?_ | refine rc_exit ?_ | refine rc_ret ?_ | refine rc_scp ?_ | refine rn_seq_e ?_ | refine rn_seq_r ?_ | refine rn_blk_n ?_ | refine rn_blk_r ?_ | refine rn_blk_e ?_ | refine rn_scp_n ?_ | refine rn_scp_e ?_ | refine rn_scp_r ?_ | refine rk_sk ?_ | refine rn_blk_x (by decide) ?_ | ((first | apply rk_mv' | apply rk_p1 | apply rk_p2 | apply rk_r1 | apply rk_ln | apply rk_ls); · (first | (simp (disch := omega) only [evl, Nat.reduceEqDiff, Nat.reduceAdd, reduceIte, reduceCtorEq, h0, h2, h4, h10] <;> exact rfl) | exact rfl)) | ((first | apply rc_cond | apply rk_gd); (· (first | (simp (disch := omega) only [evl, Nat.reduceEqDiff, Nat.reduceAdd, reduceIte, reduceCtorEq, h0, h2, h4, h10] <;> exact rfl) | exact rfl)); all_goals (intro hb; try simp only [bvl, ne_eq, Bool.not_true, Bool.not_false, reduceCtorEq, not_true_eq_false] at hb)) | (refine rk_gd_u ?_ ?_; · (first | (simp (disch := omega) only [evl, Nat.reduceEqDiff, Nat.reduceAdd, reduceIte, reduceCtorEq, h0, h2, h4, h10] <;> exact rfl) | exact rfl))))
    refine rk_cl (f := 84) (by
      (simp (disch := omega) only [evl, Nat.reduceEqDiff, Nat.reduceAdd, reduceIte, reduceCtorEq, h0, h2, h4, h10])
      rw [show (m : Int) - p = ((m - p : Nat) : Int) from by omega, ← hzl]
      exact swapR_ok H1 zs i c (m - p) m p op op' f hrow (by have := hhp.next; omega) (by rw [hhp.lo]; exact hlo) (hhp.hide.trans hh) (by omega) (by omega) (by omega)) ?_
    rintro r H2 ⟨hp2, ys, hr2, hyl, hys⟩
    simp only [hOut_f]
    (repeat' (first | refine rc_reg ?_ | refine rc_seq ?_ | refine rk_done ?_ | refine rn_seq_n ?_ | refine rc_blk ?_ | refine rc_skip ?_ | refine rc_exit ?_ | refine rc_ret ?_ | refine rc_scp ?_ | refine rn_seq_e ?_ | refine rn_seq_r ?_ | refine rn_blk_n ?_ | refine rn_blk_r ?_ | refine rn_blk_e ?_ | refine rn_scp_n ?_ | refine rn_scp_e ?_ | refine rn_scp_r ?_ | refine rk_sk ?_ | refine rn_blk_x (by decide) ?_ | ((first | apply rk_mv' | apply rk_p1 | apply rk_p2 | apply rk_r1 | apply rk_ln | apply rk_ls); · (first | (simp (disch := omega) only [evl, Nat.reduceEqDiff, Nat.reduceAdd, reduceIte, reduceCtorEq] <;> exact rfl) | exact rfl)) | ((first | apply rc_cond | apply rk_gd); (· (first | (simp (disch := omega) only [evl, Nat.reduceEqDiff, Nat.reduceAdd, reduceIte, reduceCtorEq] <;> exact rfl) | exact rfl)); all_goals (intro hb; try simp only [bvl, ne_eq, Bool.not_true, Bool.not_false, reduceCtorEq, not_true_eq_false] at hb)) | (refine rk_gd_u ?_ ?_; · (first | (simp (disch := omega) only [evl, Nat.reduceEqDiff, Nat.reduceAdd, reduceIte, reduceCtorEq] <;> exact rfl) | exact rfl))))
    refine rn_nil ?_; refine fq_nor (resV_0 _) ⟨hhp.trans hp2 (r := (· ≠ i)) fun i hi h => ⟨h, h⟩, ys, hr2, by omega, fun j => ?_⟩
    rw [hys j, rot_eq hpm, hrot]
end Go.Proofs.Ytnkomaedmblemaa

set_option linter.unusedSimpArgs false
set_option linter.unusedVariables false
set_option maxRecDepth 100000
namespace Go.Proofs.Ytnkomaedmblemaa
open Go.Ev Exl

abbrev key (xs : List Ed) (s : Nat) : Int := (edG xs s).1
/-- Sorted from a on, ahead of b. -/
def srt (xs : List Ed) (a b : Nat) : Prop := ∀ s t, a ≤ s → s < t → t < b → key xs s ≤ key xs t
/-- The same elements; outside of [a, b) at their places. -/
structure Kp (xs ys : List Ed) (a b : Nat) : Prop where
  len : ys.length = xs.length
  perm : ys.Perm xs
  out : ∀ j, j < a ∨ b ≤ j → ys[j]? = xs[j]?
theorem Kp.refl (xs : List Ed) (a b : Nat) : Kp xs xs a b := ⟨rfl, List.Perm.refl _, fun _ _ => rfl⟩
theorem Kp.trans {xs ys zs : List Ed} {a b a1 b1 a2 b2 : Nat} (h : Kp xs ys a1 b1) (h' : Kp ys zs a2 b2) (h1 : a ≤ a1) (h2 : b1 ≤ b) (h3 : a ≤ a2) (h4 : b2 ≤ b) : Kp xs zs a b :=
  ⟨h'.len.trans h.len, h'.perm.trans h.perm, fun j hj => (h'.out j (by omega)).trans (h.out j (by omega))⟩
theorem Kp.key {xs ys : List Ed} {a b : Nat} (h : Kp xs ys a b) {j : Nat} (hj : j < a ∨ b ≤ j) : key ys j = key xs j := by
  unfold Go.Proofs.Ytnkomaedmblemaa.key edG
  rw [List.getD_eq_getElem?_getD, List.getD_eq_getElem?_getD, h.out j hj]
/-- Two elements put for each other. -/
def sw (xs : List Ed) (a b : Nat) : List Ed := (xs.set a (edG xs b)).set b (edG xs a)
theorem edG_el {xs : List Ed} {a : Nat} (h : a < xs.length) : edG xs a = xs[a] := by
  simp [edG, List.getD_eq_getElem?_getD, List.getElem?_eq_getElem h]
theorem sw_kp {xs : List Ed} {a b lo hi : Nat} (ha : a < xs.length) (hb : b < xs.length) (h1 : lo ≤ a) (h2 : a < hi) (h3 : lo ≤ b) (h4 : b < hi) : Kp xs (sw xs a b) lo hi := by
  refine ⟨by simp [sw], ?_, fun j hj => ?_⟩
  · unfold sw
    rw [edG_el ha, edG_el hb]
    exact List.set_set_perm ha hb
  · unfold sw
    rw [List.getElem?_set, if_neg (by omega), List.getElem?_set, if_neg (by omega)]
theorem sw_key {xs : List Ed} {a b : Nat} (ha : a < xs.length) (hb : b < xs.length) (j : Nat) : key (sw xs a b) j = if j = b then key xs a else if j = a then key xs b else key xs j := by
  unfold key sw edG
  rw [List.getD_eq_getElem?_getD, List.getElem?_set]
  by_cases hj : j = b
  · subst hj; rw [if_pos rfl, if_pos rfl, if_pos (by rw [List.length_set]; exact hb)]; rfl
  · rw [if_neg (fun h => hj h.symm), if_neg hj, List.getElem?_set]
    by_cases hj2 : j = a
    · subst hj2; rw [if_pos rfl, if_pos rfl, if_pos ha]; rfl
    · rw [if_neg (fun h => hj2 h.symm), if_neg hj2, List.getD_eq_getElem?_getD]
def Bd (xs : List Ed) : Prop := ∀ p ∈ xs, -100000 ≤ p.1 ∧ p.1 ≤ 100000
theorem Bd.at {xs : List Ed} (h : Bd xs) {k : Nat} (hk : k < xs.length) : -100000 ≤ (edG xs k).1 ∧ (edG xs k).1 ≤ 100000 := by
  rw [edG_el hk]; exact h _ (List.getElem_mem hk)
theorem Bd.kp {xs ys : List Ed} (h : Bd xs) {a b : Nat} (hk : Kp xs ys a b) : Bd ys := fun p hp => h p (hk.perm.mem_iff.1 hp)

set_option maxHeartbeats 8000000 in
theorem insS_ok (H : AH) (xs : List Ed) (i c a b : Nat) (op op' : Bool) (hr : Row H i false op' 66 2 (edC xs)) (hi : i < H.next) (hlo : H.lo ≤ i) (hh : H.hide = [])
    (hab : a ≤ b) (hb : b ≤ xs.length) (hl : xs.length ≤ 1000000) (hbd : Bd xs) :
    FnE look 74 [.sl i 0 xs.length c op, .int .i64 a, .int .i64 b, .fn (.func 58) [] []] H fun r H' =>
      HP (· ≠ i) H H' ∧ ∃ ys, Row H' i false op' 66 2 (edC ys) ∧ Kp xs ys a b ∧ srt ys a b := by
  refine fn_intro f74_eq (noext rfl) rfl ?_
  unfold f74c
  (repeat' (first | refine rc_reg ?_ | refine rc_seq ?_ | refine rk_done ?_ | refine rn_seq_n ?_ | refine rc_blk ?_ | refine rc_skip ?_ | refine rc_exit ?_ | refine rc_ret ?_ | refine rc_scp ?_ | refine rn_seq_e ?_ | refine rn_seq_r ?_ | refine rn_blk_n ?_ | refine rn_blk_r ?_ | refine rn_blk_e ?_ | refine rn_scp_n ?_ | refine rn_scp_e ?_ | refine rn_scp_r ?_ | refine rk_sk ?_ | refine rn_blk_x (by decide) ?_ | ((first | apply rk_mv' | apply rk_p1 | apply rk_p2 | apply rk_r1 | apply rk_ln | apply rk_ls); · (first | (simp (disch := omega) only [evl, Nat.reduceEqDiff, Nat.reduceAdd, reduceIte, reduceCtorEq] <;> exact rfl) | exact rfl)) | ((first | apply rc_cond | apply rk_gd); (· (first | (simp (disch := omega) only [evl, Nat.reduceEqDiff, Nat.reduceAdd, reduceIte, reduceCtorEq] <;> exact rfl) | exact rfl)); all_goals (intro hb; try simp only [bvl, ne_eq, Bool.not_true, Bool.not_false, reduceCtorEq, not_true_eq_false] at hb)) | (refine rk_gd_u ?_ ?_; · (first | (simp (disch := omega) only [evl, Nat.reduceEqDiff, Nat.reduceAdd, reduceIte, reduceCtorEq] <;> exact rfl) | exact rfl))))
  refine rc_loop (R := fun ex T' H' => ex = .exit 0 ∧ HP (· ≠ i) H H' ∧ ∃ ys, Row H' i false op' 66 2 (edC ys) ∧ Kp xs ys a b ∧ srt ys a b) ?_ ?_
  · refine lp_ind f74l0_eq (fun k T H' => ∃ (u : Nat) (ys : List Ed), k = b - u ∧ a + 1 ≤ u ∧ gT T 0 = .sl i 0 xs.length c op ∧ gT T 1 = .int .i64 a ∧ gT T 2 = .int .i64 b ∧ gT T 3 = .fn (.func 58) [] [] ∧ gT T 8 = .int .i64 u ∧ u ≤ b + 1 ∧ HP (· ≠ i) H H' ∧ Row H' i false op' 66 2 (edC ys) ∧ Kp xs ys a b ∧ srt ys a u) _ ?_ (b - (a + 1)) _ _ ?_
    · intro k T H1 hI
      obtain ⟨u, ys, hk, hu, h0, h1, h2, h3, h8, hub, hp, hrow, hkp, hst⟩ := hI
      unfold f74l0
      by_cases hlt : u < b
      · (repeat' (first | refine rc_reg ?_ | refine rc_seq ?_ | refine rk_done ?_ | refine rn_seq_n ?_ | refine rc_blk ?_ | refine rc_skip ?_ | refine rc_exit ?_ | refine rc_ret ?_ | refine rc_scp ?_ | refine rn_seq_e ?_ | refine rn_seq_r ?_ | refine rn_blk_n ?_ | refine rn_blk_r ?_ | refine rn_blk_e ?_ | refine rn_scp_n ?_ | refine rn_scp_e ?_ | refine rn_scp_r ?_ | refine rk_sk ?_ | refine rn_blk_x (by decide) ?_ | ((first | apply rk_mv' | apply rk_p1 | apply rk_p2 | apply rk_r1 | apply rk_ln | apply rk_ls); · (first | (simp (disch := omega) only [evl, Nat.reduceEqDiff, Nat.reduceAdd, reduceIte, reduceCtorEq, h0, h1, h2, h3, h8] <;> exact rfl) | exact rfl)) | ((first | apply rc_cond | apply rk_gd); (· (first | (simp (disch := omega) only [evl, Nat.reduceEqDiff, Nat.reduceAdd, reduceIte, reduceCtorEq, h0, h1, h2, h3, h8] <;> exact rfl) | exact rfl)); all_goals (intro hb; try simp only [bvl, ne_eq, Bool.not_true, Bool.not_false, reduceCtorEq, not_true_eq_false] at hb)) | (refine rk_gd_u ?_ ?_; · (first | (simp (disch := omega) only [evl, Nat.reduceEqDiff, Nat.reduceAdd, reduceIte, reduceCtorEq, h0, h1, h2, h3, h8] <;> exact rfl) | exact rfl))))
        refine rc_loop (R := fun ex T' H' => ex = .exit 2 ∧ gT T' 0 = .sl i 0 xs.length c op ∧ gT T' 1 = .int .i64 a ∧ gT T' 2 = .int .i64 b ∧ gT T' 3 = .fn (.func 58) [] [] ∧ gT T' 8 = .int .i64 u ∧ HP (· ≠ i) H H' ∧ ∃ ys, Row H' i false op' 66 2 (edC ys) ∧ Kp xs ys a b ∧ srt ys a (u + 1)) ?_ ?_
        · refine lp_ind f74l1_eq (fun k T H' => ∃ (j : Nat) (ys : List Ed), k = j ∧ a ≤ j ∧ j ≤ u ∧ gT T 0 = .sl i 0 xs.length c op ∧ gT T 1 = .int .i64 a ∧ gT T 2 = .int .i64 b ∧ gT T 3 = .fn (.func 58) [] [] ∧ gT T 8 = .int .i64 u ∧ gT T 9 = .int .i64 j ∧ HP (· ≠ i) H H' ∧ Row H' i false op' 66 2 (edC ys) ∧ Kp xs ys a b ∧
              (∀ s t, a ≤ s → s < t → t < u + 1 → t ≠ j → key ys s ≤ key ys t)) _ ?_ u _ _ ?_
          · intro k T H1 hI
            obtain ⟨j, ys, hk, haj, hju, h0, h1, h2, h3, h8, h9, hp, hrow, hkp, hst⟩ := hI
            unfold f74l1
            have hyl := hkp.len
            have Hst := Hd.mk hst
            clear hst
            by_cases hja : a < j
            · have hixA := edIx (i := i) (n := xs.length) (c := c) (op := op) (e := (j : Int)) (by omega) (by omega)
              have hixB := edIx (i := i) (n := xs.length) (c := c) (op := op) (e := (j : Int) - 1) (by omega) (by omega)
              rw [Int.toNat_natCast] at hixA
              rw [show ((j : Int) - 1).toNat = j - 1 from by omega] at hixB
              have hrdA := edRd hrow (k := j) (by omega)
              have hrdB := edRd hrow (k := j - 1) (by omega)
              have hbA := (hbd.kp hkp).at (k := j) (by omega)
              have hbB := (hbd.kp hkp).at (k := j - 1) (by omega)
              (repeat' (first | refine rc_reg ?_ | refine rc_seq ?_ | refine rk_done ?_ | refine rn_seq_n ?_ | refine rc_blk ?_ | refine rc_skip ?_ | refine rc_exit ?_ | refine rc_ret ?_ | refine rc_scp ?_ | refine rn_seq_e ?_ | refine rn_seq_r ?_ | refine rn_blk_n ?_ | refine rn_blk_r ?_ | refine rn_blk_e ?_ | refine rn_scp_n ?_ | refine rn_scp_e ?_ | refine rn_scp_r ?_ | refine rk_sk ?_ | refine rn_blk_x (by decide) ?_ | ((first | apply rk_mv' | apply rk_p1 | apply rk_p2 | apply rk_r1 | apply rk_ln | apply rk_ls); · (first | (simp (disch := omega) only [evl, Nat.reduceEqDiff, Nat.reduceAdd, reduceIte, reduceCtorEq, h0, h1, h2, h3, h8, h9, hixA, hixB, hrdA, hrdB] <;> exact rfl) | exact rfl)) | ((first | apply rc_cond | apply rk_gd); (· (first | (simp (disch := omega) only [evl, Nat.reduceEqDiff, Nat.reduceAdd, reduceIte, reduceCtorEq, h0, h1, h2, h3, h8, h9, hixA, hixB, hrdA, hrdB] <;> exact rfl) | exact rfl)); all_goals (intro hb; try simp only [bvl, ne_eq, Bool.not_true, Bool.not_false, reduceCtorEq, not_true_eq_false] at hb)) | (refine rk_gd_u ?_ ?_; · (first | (simp (disch := omega) only [evl, Nat.reduceEqDiff, Nat.reduceAdd, reduceIte, reduceCtorEq, h0, h1, h2, h3, h8, h9, hixA, hixB, hrdA, hrdB] <;> exact rfl) | exact rfl))))
              refine rk_cn (g := 58) (args := [edV (edG ys j), edV (edG ys (j - 1))]) (by (simp (disch := omega) only [evl, Nat.reduceEqDiff, Nat.reduceAdd, reduceIte, reduceCtorEq, h3]); rfl) (cmp_ok H1 _ _ (hp.hide.trans hh) hbA hbB) ?_
              rintro r H2 ⟨hx2, rfl⟩
              simp only [hOut_f]
              have hrow2 := hrow.hx hx2 (by have := hp.next; omega)
              have hp2 : HP (· ≠ i) H H2 := hp.trans (hx2.hp fun _ => True) (r := (· ≠ i)) fun i hi h => ⟨h, trivial⟩
              have hsw := sw_kp (xs := ys) (a := j) (b := j - 1) (lo := a) (hi := b) (by omega) (by omega) (by omega) (by omega) (by omega) (by omega)
              have hsk := fun s => sw_key (xs := ys) (a := j) (b := j - 1) (by omega) (by omega) s
              by_cases hc : (edG ys j).1 < (edG ys (j - 1)).1
              · obtain ⟨H3, hs3, hr3, hp3, hn3⟩ := edSt (edG ys (j - 1)) hrow2 (hp2.hide.trans hh) (by rw [hp2.lo]; exact hlo) (k := j) (by omega)
                obtain ⟨H4, hs4, hr4, hp4, hn4⟩ := edSt (edG ys j) hr3 (hp3.hide.trans (hp2.hide.trans hh)) (by rw [hp3.lo, hp2.lo]; exact hlo) (k := j - 1) (by rw [List.length_set]; omega)
                have hrdA := edRd hrow2 (k := j) (by omega)
                have hrdB := edRd hrow2 (k := j - 1) (by omega)
                have hcc : (edG ys j).1 - (edG ys (j - 1)).1 < 0 := by omega
                (repeat' (first | refine rc_reg ?_ | refine rc_seq ?_ | refine rk_done ?_ | refine rn_seq_n ?_ | refine rc_blk ?_ | refine rc_skip ?_ | refine rc_exit ?_ | refine rc_ret ?_ | refine rc_scp ?_ | refine rn_seq_e ?_ | refine rn_seq_r ?_ | refine rn_blk_n ?_ | refine rn_blk_r ?_ | refine rn_blk_e ?_ | refine rn_scp_n ?_ | refine rn_scp_e ?_ | refine rn_scp_r ?_ | refine rk_sk ?_ | refine rn_blk_x (by decide) ?_ | ((first | apply rk_mv' | apply rk_p1 | apply rk_p2 | apply rk_r1 | apply rk_ln | apply rk_ls); · (first | (simp (disch := omega) only [evl, Nat.reduceEqDiff, Nat.reduceAdd, reduceIte, reduceCtorEq, h0, h1, h2, h3, h8, h9, hixA, hixB, hrdA, hrdB] <;> exact rfl) | exact rfl)) | ((first | apply rc_cond | apply rk_gd); (· (first | (simp (disch := omega) only [evl, Nat.reduceEqDiff, Nat.reduceAdd, reduceIte, reduceCtorEq, h0, h1, h2, h3, h8, h9, hixA, hixB, hrdA, hrdB] <;> exact rfl) | exact rfl)); all_goals (intro hb; try simp only [bvl, ne_eq, Bool.not_true, Bool.not_false, reduceCtorEq, not_true_eq_false] at hb)) | (refine rk_gd_u ?_ ?_; · (first | (simp (disch := omega) only [evl, Nat.reduceEqDiff, Nat.reduceAdd, reduceIte, reduceCtorEq, h0, h1, h2, h3, h8, h9, hixA, hixB, hrdA, hrdB] <;> exact rfl) | exact rfl))))
                apply rk_st
                · (simp (disch := omega) only [evl, Nat.reduceEqDiff, Nat.reduceAdd, reduceIte, reduceCtorEq])
                  exact hs3
                simp only [hOut_f]
                (repeat' (first | refine rc_reg ?_ | refine rc_seq ?_ | refine rk_done ?_ | refine rn_seq_n ?_ | refine rc_blk ?_ | refine rc_skip ?_ | refine rc_exit ?_ | refine rc_ret ?_ | refine rc_scp ?_ | refine rn_seq_e ?_ | refine rn_seq_r ?_ | refine rn_blk_n ?_ | refine rn_blk_r ?_ | refine rn_blk_e ?_ | refine rn_scp_n ?_ | refine rn_scp_e ?_ | refine rn_scp_r ?_ | refine rk_sk ?_ | refine rn_blk_x (by decide) ?_ | ((first | apply rk_mv' | apply rk_p1 | apply rk_p2 | apply rk_r1 | apply rk_ln | apply rk_ls); · (first | (simp (disch := omega) only [evl, Nat.reduceEqDiff, Nat.reduceAdd, reduceIte, reduceCtorEq, hixB] <;> exact rfl) | exact rfl)) | ((first | apply rc_cond | apply rk_gd); (· (first | (simp (disch := omega) only [evl, Nat.reduceEqDiff, Nat.reduceAdd, reduceIte, reduceCtorEq, hixB] <;> exact rfl) | exact rfl)); all_goals (intro hb; try simp only [bvl, ne_eq, Bool.not_true, Bool.not_false, reduceCtorEq, not_true_eq_false] at hb)) | (refine rk_gd_u ?_ ?_; · (first | (simp (disch := omega) only [evl, Nat.reduceEqDiff, Nat.reduceAdd, reduceIte, reduceCtorEq, hixB] <;> exact rfl) | exact rfl))))
                apply rk_st
                · (simp (disch := omega) only [evl, Nat.reduceEqDiff, Nat.reduceAdd, reduceIte, reduceCtorEq])
                  exact hs4
                simp only [hOut_f]
                (repeat' (first | refine rc_reg ?_ | refine rc_seq ?_ | refine rk_done ?_ | refine rn_seq_n ?_ | refine rc_blk ?_ | refine rc_skip ?_ | refine rc_exit ?_ | refine rc_ret ?_ | refine rc_scp ?_ | refine rn_seq_e ?_ | refine rn_seq_r ?_ | refine rn_blk_n ?_ | refine rn_blk_r ?_ | refine rn_blk_e ?_ | refine rn_scp_n ?_ | refine rn_scp_e ?_ | refine rn_scp_r ?_ | refine rk_sk ?_ | refine rn_blk_x (by decide) ?_ | ((first | apply rk_mv' | apply rk_p1 | apply rk_p2 | apply rk_r1 | apply rk_ln | apply rk_ls); · (first | (simp (disch := omega) only [evl, Nat.reduceEqDiff, Nat.reduceAdd, reduceIte, reduceCtorEq, h9] <;> exact rfl) | exact rfl)) | ((first | apply rc_cond | apply rk_gd); (· (first | (simp (disch := omega) only [evl, Nat.reduceEqDiff, Nat.reduceAdd, reduceIte, reduceCtorEq, h9] <;> exact rfl) | exact rfl)); all_goals (intro hb; try simp only [bvl, ne_eq, Bool.not_true, Bool.not_false, reduceCtorEq, not_true_eq_false] at hb)) | (refine rk_gd_u ?_ ?_; · (first | (simp (disch := omega) only [evl, Nat.reduceEqDiff, Nat.reduceAdd, reduceIte, reduceCtorEq, h9] <;> exact rfl) | exact rfl))))
                refine rn_nil ?_; refine lpq_n (j - 1) (by omega) ?_
                refine ⟨j - 1, sw ys j (j - 1), rfl, by omega, by omega, (by (first | (simp (disch := omega) only [evl, Nat.reduceEqDiff, Nat.reduceAdd, reduceIte, reduceCtorEq, h0] <;> exact rfl) | exact rfl)), (by (first | (simp (disch := omega) only [evl, Nat.reduceEqDiff, Nat.reduceAdd, reduceIte, reduceCtorEq, h1] <;> exact rfl) | exact rfl)), (by (first | (simp (disch := omega) only [evl, Nat.reduceEqDiff, Nat.reduceAdd, reduceIte, reduceCtorEq, h2] <;> exact rfl) | exact rfl)), (by (first | (simp (disch := omega) only [evl, Nat.reduceEqDiff, Nat.reduceAdd, reduceIte, reduceCtorEq, h3] <;> exact rfl) | exact rfl)), (by (first | (simp (disch := omega) only [evl, Nat.reduceEqDiff, Nat.reduceAdd, reduceIte, reduceCtorEq, h8] <;> exact rfl) | exact rfl)), ?_, (hp2.trans hp3 (r := (· ≠ i)) fun i hi h => ⟨h, h⟩).trans hp4 (r := (· ≠ i)) fun i hi h => ⟨h, h⟩, hr4, hkp.trans hsw (Nat.le_refl _) (Nat.le_refl _) (Nat.le_refl _) (Nat.le_refl _), ?_⟩
                · (simp (disch := omega) only [evl, Nat.reduceEqDiff, Nat.reduceAdd, reduceIte, reduceCtorEq])
                  rw [show (j : Int) - 1 = ((j - 1 : Nat) : Int) from by omega]
                · intro s t hs hst htu htj
                  rw [hsk s, hsk t]
                  have hcc' : key ys j < key ys (j - 1) := hc
                  by_cases h1 : t = j
                  · rw [if_neg htj, if_pos h1]
                    by_cases h2 : s = j - 1
                    · rw [if_pos h2]; omega
                    · rw [if_neg h2, if_neg (by omega)]
                      exact Hst.out s (j - 1) hs (by omega) (by omega) (by omega)
                  · rw [if_neg htj, if_neg h1]
                    by_cases h2 : s = j - 1
                    · rw [if_pos h2]; exact Hst.out j t (by omega) (by omega) htu h1
                    · rw [if_neg h2]
                      by_cases h3 : s = j
                      · rw [if_pos h3]; exact Hst.out (j - 1) t (by omega) (by omega) htu h1
                      · rw [if_neg h3]; exact Hst.out s t hs hst htu h1
              · have hcc : ¬ ((edG ys j).1 - (edG ys (j - 1)).1 < 0) := by omega
                (repeat' (first | refine rc_reg ?_ | refine rc_seq ?_ | refine rk_done ?_ | refine rn_seq_n ?_ | refine rc_blk ?_ | refine rc_skip ?_ | refine rc_exit ?_ | refine rc_ret ?_ | refine rc_scp ?_ | refine rn_seq_e ?_ | refine rn_seq_r ?_ | refine rn_blk_n ?_ | refine rn_blk_r ?_ | refine rn_blk_e ?_ | refine rn_scp_n ?_ | refine rn_scp_e ?_ | refine rn_scp_r ?_ | refine rk_sk ?_ | refine rn_blk_x (by decide) ?_ | ((first | apply rk_mv' | apply rk_p1 | apply rk_p2 | apply rk_r1 | apply rk_ln | apply rk_ls); · (first | (simp (disch := omega) only [evl, Nat.reduceEqDiff, Nat.reduceAdd, reduceIte, reduceCtorEq, h0, h1, h2, h3, h8, h9, hixA, hixB, hrdA, hrdB] <;> exact rfl) | exact rfl)) | ((first | apply rc_cond | apply rk_gd); (· (first | (simp (disch := omega) only [evl, Nat.reduceEqDiff, Nat.reduceAdd, reduceIte, reduceCtorEq, h0, h1, h2, h3, h8, h9, hixA, hixB, hrdA, hrdB] <;> exact rfl) | exact rfl)); all_goals (intro hb; try simp only [bvl, ne_eq, Bool.not_true, Bool.not_false, reduceCtorEq, not_true_eq_false] at hb)) | (refine rk_gd_u ?_ ?_; · (first | (simp (disch := omega) only [evl, Nat.reduceEqDiff, Nat.reduceAdd, reduceIte, reduceCtorEq, h0, h1, h2, h3, h8, h9, hixA, hixB, hrdA, hrdB] <;> exact rfl) | exact rfl))))
                refine rn_nil ?_; refine lpq_e ?_
                refine ⟨rfl, (by (first | (simp (disch := omega) only [evl, Nat.reduceEqDiff, Nat.reduceAdd, reduceIte, reduceCtorEq, h0] <;> exact rfl) | exact rfl)), (by (first | (simp (disch := omega) only [evl, Nat.reduceEqDiff, Nat.reduceAdd, reduceIte, reduceCtorEq, h1] <;> exact rfl) | exact rfl)), (by (first | (simp (disch := omega) only [evl, Nat.reduceEqDiff, Nat.reduceAdd, reduceIte, reduceCtorEq, h2] <;> exact rfl) | exact rfl)), (by (first | (simp (disch := omega) only [evl, Nat.reduceEqDiff, Nat.reduceAdd, reduceIte, reduceCtorEq, h3] <;> exact rfl) | exact rfl)), (by (first | (simp (disch := omega) only [evl, Nat.reduceEqDiff, Nat.reduceAdd, reduceIte, reduceCtorEq, h8] <;> exact rfl) | exact rfl)), hp2, ys, hrow2, hkp, ?_⟩
                intro s t hs hst htu
                by_cases htj : t = j
                · subst htj
                  have hcc' : key ys (t - 1) ≤ key ys t := by show (edG ys (t - 1)).1 ≤ (edG ys t).1; omega
                  by_cases h2 : s = t - 1
                  · subst h2; exact hcc'
                  · exact Int.le_trans (Hst.out s (t - 1) hs (by omega) (by omega) (by omega)) hcc'
                · exact Hst.out s t hs hst htu htj
            · (repeat' (first | refine rc_reg ?_ | refine rc_seq ?_ | refine rk_done ?_ | refine rn_seq_n ?_ | refine rc_blk ?_ | refine rc_skip ?_ | refine rc_exit ?_ | refine rc_ret ?_ | refine rc_scp ?_ | refine rn_seq_e ?_ | refine rn_seq_r ?_ | refine rn_blk_n ?_ | refine rn_blk_r ?_ | refine rn_blk_e ?_ | refine rn_scp_n ?_ | refine rn_scp_e ?_ | refine rn_scp_r ?_ | refine rk_sk ?_ | refine rn_blk_x (by decide) ?_ | ((first | apply rk_mv' | apply rk_p1 | apply rk_p2 | apply rk_r1 | apply rk_ln | apply rk_ls); · (first | (simp (disch := omega) only [evl, Nat.reduceEqDiff, Nat.reduceAdd, reduceIte, reduceCtorEq, h0, h1, h2, h3, h8, h9] <;> exact rfl) | exact rfl)) | ((first | apply rc_cond | apply rk_gd); (· (first | (simp (disch := omega) only [evl, Nat.reduceEqDiff, Nat.reduceAdd, reduceIte, reduceCtorEq, h0, h1, h2, h3, h8, h9] <;> exact rfl) | exact rfl)); all_goals (intro hb; try simp only [bvl, ne_eq, Bool.not_true, Bool.not_false, reduceCtorEq, not_true_eq_false] at hb)) | (refine rk_gd_u ?_ ?_; · (first | (simp (disch := omega) only [evl, Nat.reduceEqDiff, Nat.reduceAdd, reduceIte, reduceCtorEq, h0, h1, h2, h3, h8, h9] <;> exact rfl) | exact rfl))))
              refine rn_nil ?_; refine lpq_e ?_
              refine ⟨rfl, (by (first | (simp (disch := omega) only [evl, Nat.reduceEqDiff, Nat.reduceAdd, reduceIte, reduceCtorEq, h0] <;> exact rfl) | exact rfl)), (by (first | (simp (disch := omega) only [evl, Nat.reduceEqDiff, Nat.reduceAdd, reduceIte, reduceCtorEq, h1] <;> exact rfl) | exact rfl)), (by (first | (simp (disch := omega) only [evl, Nat.reduceEqDiff, Nat.reduceAdd, reduceIte, reduceCtorEq, h2] <;> exact rfl) | exact rfl)), (by (first | (simp (disch := omega) only [evl, Nat.reduceEqDiff, Nat.reduceAdd, reduceIte, reduceCtorEq, h3] <;> exact rfl) | exact rfl)), (by (first | (simp (disch := omega) only [evl, Nat.reduceEqDiff, Nat.reduceAdd, reduceIte, reduceCtorEq, h8] <;> exact rfl) | exact rfl)), hp, ys, hrow, hkp, ?_⟩
              intro s t hs hst htu
              exact Hst.out s t hs hst htu (by omega)
          · exact ⟨u, ys, rfl, by omega, Nat.le_refl _, (by (first | (simp (disch := omega) only [evl, Nat.reduceEqDiff, Nat.reduceAdd, reduceIte, reduceCtorEq, h0] <;> exact rfl) | exact rfl)), (by (first | (simp (disch := omega) only [evl, Nat.reduceEqDiff, Nat.reduceAdd, reduceIte, reduceCtorEq, h1] <;> exact rfl) | exact rfl)), (by (first | (simp (disch := omega) only [evl, Nat.reduceEqDiff, Nat.reduceAdd, reduceIte, reduceCtorEq, h2] <;> exact rfl) | exact rfl)), (by (first | (simp (disch := omega) only [evl, Nat.reduceEqDiff, Nat.reduceAdd, reduceIte, reduceCtorEq, h3] <;> exact rfl) | exact rfl)), (by (first | (simp (disch := omega) only [evl, Nat.reduceEqDiff, Nat.reduceAdd, reduceIte, reduceCtorEq, h8] <;> exact rfl) | exact rfl)), (by (first | (simp (disch := omega) only [evl, Nat.reduceEqDiff, Nat.reduceAdd, reduceIte, reduceCtorEq] <;> exact rfl) | exact rfl)), hp, hrow, hkp, fun s t hs hst' htu htj => hst s t hs hst' (by omega)⟩
        · rintro ex T' H2 ⟨rfl, h0, h1, h2, h3, h8, hp, ys', hrow, hkp, hst⟩
          (repeat' (first | refine rc_reg ?_ | refine rc_seq ?_ | refine rk_done ?_ | refine rn_seq_n ?_ | refine rc_blk ?_ | refine rc_skip ?_ | refine rc_exit ?_ | refine rc_ret ?_ | refine rc_scp ?_ | refine rn_seq_e ?_ | refine rn_seq_r ?_ | refine rn_blk_n ?_ | refine rn_blk_r ?_ | refine rn_blk_e ?_ | refine rn_scp_n ?_ | refine rn_scp_e ?_ | refine rn_scp_r ?_ | refine rk_sk ?_ | refine rn_blk_x (by decide) ?_ | ((first | apply rk_mv' | apply rk_p1 | apply rk_p2 | apply rk_r1 | apply rk_ln | apply rk_ls); · (first | (simp (disch := omega) only [evl, Nat.reduceEqDiff, Nat.reduceAdd, reduceIte, reduceCtorEq, h8] <;> exact rfl) | exact rfl)) | ((first | apply rc_cond | apply rk_gd); (· (first | (simp (disch := omega) only [evl, Nat.reduceEqDiff, Nat.reduceAdd, reduceIte, reduceCtorEq, h8] <;> exact rfl) | exact rfl)); all_goals (intro hb; try simp only [bvl, ne_eq, Bool.not_true, Bool.not_false, reduceCtorEq, not_true_eq_false] at hb)) | (refine rk_gd_u ?_ ?_; · (first | (simp (disch := omega) only [evl, Nat.reduceEqDiff, Nat.reduceAdd, reduceIte, reduceCtorEq, h8] <;> exact rfl) | exact rfl))))
          refine rn_nil ?_; refine lpq_n (b - (u + 1)) (by omega) ?_
          exact ⟨u + 1, ys', rfl, by omega, (by (first | (simp (disch := omega) only [evl, Nat.reduceEqDiff, Nat.reduceAdd, reduceIte, reduceCtorEq, h0] <;> exact rfl) | exact rfl)), (by (first | (simp (disch := omega) only [evl, Nat.reduceEqDiff, Nat.reduceAdd, reduceIte, reduceCtorEq, h1] <;> exact rfl) | exact rfl)), (by (first | (simp (disch := omega) only [evl, Nat.reduceEqDiff, Nat.reduceAdd, reduceIte, reduceCtorEq, h2] <;> exact rfl) | exact rfl)), (by (first | (simp (disch := omega) only [evl, Nat.reduceEqDiff, Nat.reduceAdd, reduceIte, reduceCtorEq, h3] <;> exact rfl) | exact rfl)), (by (first | (simp (disch := omega) only [evl, Nat.reduceEqDiff, Nat.reduceAdd, reduceIte, reduceCtorEq] <;> exact rfl) | exact rfl)), by omega, hp, hrow, hkp, hst⟩
      · (repeat' (first | refine rc_reg ?_ | refine rc_seq ?_ | refine rk_done ?_ | refine rn_seq_n ?_ | refine rc_blk ?_ | refine rc_skip ?_ | refine rc_exit ?_ | refine rc_ret ?_ | refine rc_scp ?_ | refine rn_seq_e ?_ | refine rn_seq_r ?_ | refine rn_blk_n ?_ | refine rn_blk_r ?_ | refine rn_blk_e ?_ | refine rn_scp_n ?_ | refine rn_scp_e ?_ | refine rn_scp_r ?_ | refine rk_sk ?_ | refine rn_blk_x (by decide) ?_ | ((first | apply rk_mv' | apply rk_p1 | apply rk_p2 | apply rk_r1 | apply rk_ln | apply rk_ls); · (first | (simp (disch := omega) only [evl, Nat.reduceEqDiff, Nat.reduceAdd, reduceIte, reduceCtorEq, h2, h8] <;> exact rfl) | exact rfl)) | ((first | apply rc_cond | apply rk_gd); (· (first | (simp (disch := omega) only [evl, Nat.reduceEqDiff, Nat.reduceAdd, reduceIte, reduceCtorEq, h2, h8] <;> exact rfl) | exact rfl)); all_goals (intro hb; try simp only [bvl, ne_eq, Bool.not_true, Bool.not_false, reduceCtorEq, not_true_eq_false] at hb)) | (refine rk_gd_u ?_ ?_; · (first | (simp (disch := omega) only [evl, Nat.reduceEqDiff, Nat.reduceAdd, reduceIte, reduceCtorEq, h2, h8] <;> exact rfl) | exact rfl))))
        refine rn_nil ?_; refine lpq_e ?_
        exact ⟨rfl, hp, ys, hrow, hkp, fun s t hs hst' htb => hst s t hs hst' (by omega)⟩
    · exact ⟨a + 1, xs, rfl, Nat.le_refl _, (by (first | (simp (disch := omega) only [evl, Nat.reduceEqDiff, Nat.reduceAdd, reduceIte, reduceCtorEq] <;> exact rfl) | exact rfl)), (by (first | (simp (disch := omega) only [evl, Nat.reduceEqDiff, Nat.reduceAdd, reduceIte, reduceCtorEq] <;> exact rfl) | exact rfl)), (by (first | (simp (disch := omega) only [evl, Nat.reduceEqDiff, Nat.reduceAdd, reduceIte, reduceCtorEq] <;> exact rfl) | exact rfl)), (by (first | (simp (disch := omega) only [evl, Nat.reduceEqDiff, Nat.reduceAdd, reduceIte, reduceCtorEq] <;> exact rfl) | exact rfl)), (by (first | (simp (disch := omega) only [evl, Nat.reduceEqDiff, Nat.reduceAdd, reduceIte, reduceCtorEq] <;> exact rfl) | exact rfl)), by omega, HP.refl _ _, hr, Kp.refl _ _ _, fun s t hs hst htb => by omega⟩
  · rintro ex T' H' ⟨rfl, hres⟩
    (repeat' (first | refine rc_reg ?_ | refine rc_seq ?_ | refine rk_done ?_ | refine rn_seq_n ?_ | refine rc_blk ?_ | refine rc_skip ?_ | refine rc_exit ?_ | refine rc_ret ?_ | refine rc_scp ?_ | refine rn_seq_e ?_ | refine rn_seq_r ?_ | refine rn_blk_n ?_ | refine rn_blk_r ?_ | refine rn_blk_e ?_ | refine rn_scp_n ?_ | refine rn_scp_e ?_ | refine rn_scp_r ?_ | refine rk_sk ?_ | refine rn_blk_x (by decide) ?_ | ((first | apply rk_mv' | apply rk_p1 | apply rk_p2 | apply rk_r1 | apply rk_ln | apply rk_ls); · (first | (simp (disch := omega) only [evl, Nat.reduceEqDiff, Nat.reduceAdd, reduceIte, reduceCtorEq] <;> exact rfl) | exact rfl)) | ((first | apply rc_cond | apply rk_gd); (· (first | (simp (disch := omega) only [evl, Nat.reduceEqDiff, Nat.reduceAdd, reduceIte, reduceCtorEq] <;> exact rfl) | exact rfl)); all_goals (intro hb; try simp only [bvl, ne_eq, Bool.not_true, Bool.not_false, reduceCtorEq, not_true_eq_false] at hb)) | (refine rk_gd_u ?_ ?_; · (first | (simp (disch := omega) only [evl, Nat.reduceEqDiff, Nat.reduceAdd, reduceIte, reduceCtorEq] <;> exact rfl) | exact rfl))))
    refine rn_nil ?_; exact fq_nor (resV_0 _) hres
end Go.Proofs.Ytnkomaedmblemaa

set_option linter.unusedSimpArgs false
set_option linter.unusedVariables false
set_option maxRecDepth 100000
namespace Go.Proofs.Ytnkomaedmblemaa
open Go.Ev Exl

/-! ### Half of a sum -/
theorem fwu {n : Int} (h0 : 0 ≤ n) (h1 : n ≤ 9223372036854775807) : fw .u64 n = n := by
  rw [fw_eq]
  unfold IntKind.wrap
  simp [IntKind.bits, IntKind.signed]
  omega
theorem cv_u {n : Int} (k : IntKind) (h0 : 0 ≤ n) (h1 : n ≤ 9223372036854775807) : cvI .u64 (.int k n) = some (.int .u64 n) := by
  show some (AV.int .u64 (fw .u64 n)) = _
  rw [fwu h0 h1]
theorem cv_i {n : Int} (k : IntKind) (h0 : 0 ≤ n) (h1 : n ≤ 9223372036854775807) : cvI .i64 (.int k n) = some (.int .i64 n) := by
  show some (AV.int .i64 (fw .i64 n)) = _
  rw [fw64 (by omega) h1]
theorem shr1 (s : AV → AV → Option AV) {n : Int} : binF .shr s (.int .u64 n) (.int .u64 1) = some (.int .u64 (n / 2)) := by
  show shrF .u64 n 1 = _
  rw [shrF_eq]
  show some (AV.int .u64 (n.fdiv (2 ^ min (1 : Int).toNat (IntKind.bits .u64)))) = _
  rw [show (2 : Int) ^ min (1 : Int).toNat (IntKind.bits .u64) = 2 from by decide, Int.fdiv_eq_ediv_of_nonneg _ (by decide)]

/-! ### Plain law of the merge -/
theorem Kp.mid {xs ys : List Ed} {a b : Nat} (h : Kp xs ys a b) (hab : a ≤ b) (hb : b ≤ xs.length) : ((ys.drop a).take (b - a)).Perm ((xs.drop a).take (b - a)) := by
  have hl := h.len
  have e : ∀ zs : List Ed, zs = zs.take a ++ (zs.drop a).take (b - a) ++ zs.drop b := fun zs => by
    have h1 : (zs.drop a).take (b - a) ++ (zs.drop a).drop (b - a) = zs.drop a := List.take_append_drop _ _
    rw [List.drop_drop, show a + (b - a) = b from by omega] at h1
    rw [List.append_assoc, h1, List.take_append_drop]
  have e1 : ys.take a = xs.take a := List.ext_getElem? fun j => by
    by_cases hj : j < a
    · rw [List.getElem?_take_of_lt hj, List.getElem?_take_of_lt hj, h.out j (.inl hj)]
    · rw [List.getElem?_eq_none (by simp; omega), List.getElem?_eq_none (by simp; omega)]
  have e2 : ys.drop b = xs.drop b := List.ext_getElem? fun j => by
    rw [List.getElem?_drop, List.getElem?_drop, h.out _ (.inr (by omega))]
  have hp := h.perm
  rw [e ys, e xs, e1, e2] at hp
  exact (List.perm_append_left_iff _).1 ((List.perm_append_right_iff _).1 hp)
theorem Kp_inn {xs ys : List Ed} {a b : Nat} (h : Kp xs ys a b) (hab : a ≤ b) (hb : b ≤ xs.length) {s : Nat} (h1 : a ≤ s) (h2 : s < b) : ∃ s', a ≤ s' ∧ s' < b ∧ key ys s = key xs s' := by
  have hl := h.len
  have hm := (h.mid hab hb).mem_iff (a := edG ys s)
  have hin : edG ys s ∈ (ys.drop a).take (b - a) := by
    rw [edG_el (by omega)]
    rw [List.mem_iff_getElem?]
    exact ⟨s - a, by rw [List.getElem?_take_of_lt (by omega), List.getElem?_drop, show a + (s - a) = s from by omega, List.getElem?_eq_getElem (by omega)]⟩
  obtain ⟨k, hk⟩ := List.mem_iff_getElem?.1 (hm.1 hin)
  have hkl : k < b - a := by
    have := (List.getElem?_eq_some_iff.1 hk).1
    simp at this; omega
  rw [List.getElem?_take_of_lt hkl, List.getElem?_drop] at hk
  refine ⟨a + k, by omega, by omega, ?_⟩
  unfold key
  rw [edG_get (by omega)] at hk
  injection hk with hk
  rw [← hk]
theorem srt_kp {xs ys : List Ed} {a b lo hi : Nat} (h : srt xs lo hi) (hk : Kp xs ys a b) (hd : hi ≤ a ∨ b ≤ lo) : srt ys lo hi := fun s t h1 h2 h3 => by
  rw [hk.key (by omega), hk.key (by omega)]; exact h s t h1 h2 h3
/-- All of the first part ahead of all of the second. -/
def par (xs : List Ed) (a mid b : Nat) : Prop := ∀ s t, a ≤ s → s < mid → mid ≤ t → t < b → key xs s ≤ key xs t
theorem par_kp1 {xs ys : List Ed} {a mid b : Nat} (h : par xs a mid b) (hk : Kp xs ys a mid) (h1 : a ≤ mid) (h2 : mid ≤ xs.length) : par ys a mid b := fun s t hs hm hm' ht => by
  obtain ⟨s', h3, h4, h5⟩ := Kp_inn hk h1 h2 hs hm
  rw [h5, hk.key (.inr hm')]; exact h s' t h3 h4 hm' ht
theorem par_kp2 {xs ys : List Ed} {a mid b : Nat} (h : par xs a mid b) (hk : Kp xs ys mid b) (h1 : mid ≤ b) (h2 : b ≤ xs.length) : par ys a mid b := fun s t hs hm hm' ht => by
  obtain ⟨t', h3, h4, h5⟩ := Kp_inn hk h1 h2 hm' ht
  rw [h5, hk.key (.inl hm)]; exact h s t' hs hm h3 h4
theorem par_srt {xs : List Ed} {a mid b : Nat} (h : par xs a mid b) (h1 : srt xs a mid) (h2 : srt xs mid b) : srt xs a b := fun s t hs hst ht => by
  by_cases h3 : t < mid
  · exact h1 s t hs hst h3
  · by_cases h4 : mid ≤ s
    · exact h2 s t h4 hst ht
    · exact h s t hs (by omega) (by omega) ht
/-- A rotation keeps the elements. -/
theorem rot_kp {xs ys : List Ed} {a m b : Nat} (ham : a ≤ m) (hmb : m ≤ b) (hb : b ≤ xs.length) (hl : ys.length = xs.length) (h : ∀ j, ys[j]? = rot xs a m b j) : Kp xs ys a b := by
  refine ⟨hl, ?_, fun j hj => ?_⟩
  · have e1 : xs = xs.take a ++ ((xs.drop a).take (m - a) ++ (xs.drop m).take (b - m)) ++ xs.drop b := by
      refine List.ext_getElem? fun j => ?_
      by_cases h1 : j < a
      · rw [List.append_assoc, List.getElem?_append_left (by simp; omega), List.getElem?_take_of_lt h1]
      · rw [List.append_assoc, List.getElem?_append_right (by simp; omega), List.length_take, Nat.min_eq_left (by omega)]
        by_cases h2 : j < m
        · rw [List.append_assoc, List.getElem?_append_left (by simp; omega), List.getElem?_take_of_lt (by omega), List.getElem?_drop, show a + (j - a) = j from by omega]
        · rw [List.append_assoc, List.getElem?_append_right (by simp; omega), List.length_take, List.length_drop, Nat.min_eq_left (by omega)]
          by_cases h3 : j < b
          · rw [List.getElem?_append_left (by simp; omega), List.getElem?_take_of_lt (by omega), List.getElem?_drop, show m + (j - a - (m - a)) = j from by omega]
          · rw [List.getElem?_append_right (by simp; omega), List.getElem?_drop, List.length_take, List.length_drop, Nat.min_eq_left (by omega), show b + (j - a - (m - a) - (b - m)) = j from by omega]
    have e2 : ys = xs.take a ++ ((xs.drop m).take (b - m) ++ (xs.drop a).take (m - a)) ++ xs.drop b := by
      refine List.ext_getElem? fun j => ?_
      rw [h j]
      unfold rot
      by_cases h1 : j < a
      · rw [if_neg (by omega), if_neg (by omega), List.append_assoc, List.getElem?_append_left (by simp; omega), List.getElem?_take_of_lt h1]
      · rw [List.append_assoc, List.getElem?_append_right (by simp; omega), List.length_take, Nat.min_eq_left (by omega)]
        by_cases h2 : j < a + (b - m)
        · rw [if_pos ⟨by omega, h2⟩, List.append_assoc, List.getElem?_append_left (by simp; omega), List.getElem?_take_of_lt (by omega), List.getElem?_drop, show m + (j - a) = j + (m - a) from by omega]
        · rw [if_neg (by omega), List.append_assoc, List.getElem?_append_right (by simp; omega), List.length_take, List.length_drop, Nat.min_eq_left (by omega)]
          by_cases h3 : j < b
          · rw [if_pos ⟨by omega, h3⟩, List.getElem?_append_left (by simp; omega), List.getElem?_take_of_lt (by omega), List.getElem?_drop, show a + (j - a - (b - m)) = j - (b - m) from by omega]
          · rw [if_neg (by omega), List.getElem?_append_right (by simp; omega), List.getElem?_drop, List.length_take, List.length_drop, Nat.min_eq_left (by omega), show b + (j - a - (b - m) - (m - a)) = j from by omega]
    have hp : (xs.take a ++ ((xs.drop m).take (b - m) ++ (xs.drop a).take (m - a)) ++ xs.drop b).Perm (xs.take a ++ ((xs.drop a).take (m - a) ++ (xs.drop m).take (b - m)) ++ xs.drop b) :=
      List.Perm.append_right _ (List.Perm.append_left _ List.perm_append_comm)
    rw [← e1, ← e2] at hp
    exact hp
  · rw [h j]; unfold rot; rw [if_neg (by omega), if_neg (by omega)]
theorem rot_key {xs ys : List Ed} {a m b : Nat} (h : ∀ j, ys[j]? = rot xs a m b j) (j : Nat) : key ys j = if a ≤ j ∧ j < a + (b - m) then key xs (j + (m - a)) else if a + (b - m) ≤ j ∧ j < b then key xs (j - (b - m)) else key xs j := by
  unfold key edG
  rw [List.getD_eq_getElem?_getD, h j]
  unfold rot
  split
  · rw [← List.getD_eq_getElem?_getD]
  · split
    · rw [← List.getD_eq_getElem?_getD]
    · rw [← List.getD_eq_getElem?_getD]
/-- What a rotation at the right places brings. -/
theorem rot_par {xs ys : List Ed} {a st m en b mid : Nat} (h1 : a ≤ st) (h2 : st ≤ m) (h3 : m ≤ en) (h4 : en ≤ b) (hmid : st + en = mid + m) (hs : srt xs a m) (hs2 : srt xs m b)
    (hc : st = a ∨ en = b ∨ key xs (st - 1) ≤ key xs en) (hd : st = m ∨ en = m ∨ key xs (en - 1) ≤ key xs st) (h : ∀ j, ys[j]? = rot xs st m en j) :
    par ys a mid b ∧ srt ys a st ∧ srt ys st mid ∧ srt ys mid en ∧ srt ys en b := by
  have hk := rot_key h
  refine ⟨fun s t g1 g2 g3 g4 => ?_, fun s t g1 g2 g3 => ?_, fun s t g1 g2 g3 => ?_, fun s t g1 g2 g3 => ?_, fun s t g1 g2 g3 => ?_⟩
  · -- from the first part to the second
    have A : ∀ u, a ≤ u → u < st → ∀ w, en ≤ w → w < b → key xs u ≤ key xs w := fun u q1 q2 w q3 q4 => by
      rcases hc with hc | hc | hc
      · omega
      · omega
      · have e1 : key xs u ≤ key xs (st - 1) := by
          by_cases hu : u = st - 1
          · subst hu; exact Int.le_refl _
          · exact hs u (st - 1) q1 (by omega) (by omega)
        have e2 : key xs en ≤ key xs w := by
          by_cases hw : w = en
          · subst hw; exact Int.le_refl _
          · exact hs2 en w h3 (by omega) q4
        omega
    have B : ∀ u, m ≤ u → u < en → ∀ w, st ≤ w → w < m → key xs u ≤ key xs w := fun u q1 q2 w q3 q4 => by
      rcases hd with hd | hd | hd
      · omega
      · omega
      · have e1 : key xs u ≤ key xs (en - 1) := by
          by_cases hu : u = en - 1
          · subst hu; exact Int.le_refl _
          · exact hs2 u (en - 1) q1 (by omega) (by omega)
        have e2 : key xs st ≤ key xs w := by
          by_cases hw : w = st
          · subst hw; exact Int.le_refl _
          · exact hs st w h1 (by omega) q4
        omega
    rw [hk s, hk t]
    by_cases p1 : s < st
    · rw [if_neg (by omega), if_neg (by omega)]
      by_cases p2 : t < en
      · rw [if_neg (by omega), if_pos (by omega)]
        exact hs _ _ g1 (by omega) (by omega)
      · rw [if_neg (by omega), if_neg (by omega)]
        exact A s g1 p1 t (by omega) g4
    · rw [if_pos (by omega)]
      by_cases p2 : t < en
      · rw [if_neg (by omega), if_pos (by omega)]
        exact B _ (by omega) (by omega) _ (by omega) (by omega)
      · rw [if_neg (by omega), if_neg (by omega)]
        exact hs2 _ _ (by omega) (by omega) g4
  · rw [hk s, hk t, if_neg (by omega), if_neg (by omega), if_neg (by omega), if_neg (by omega)]
    exact hs s t g1 g2 (by omega)
  · rw [hk s, hk t, if_pos (by omega), if_pos (by omega)]
    exact hs2 _ _ (by omega) (by omega) (by omega)
  · rw [hk s, hk t, if_neg (by omega), if_pos (by omega), if_neg (by omega), if_pos (by omega)]
    exact hs _ _ (by omega) (by omega) (by omega)
  · rw [hk s, hk t, if_neg (by omega), if_neg (by omega), if_neg (by omega), if_neg (by omega)]
    exact hs2 s t (by omega) g2 g3
end Go.Proofs.Ytnkomaedmblemaa

set_option linter.unusedSimpArgs false
set_option linter.unusedVariables false
set_option maxRecDepth 100000
namespace Go.Proofs.Ytnkomaedmblemaa
open Go.Ev Exl

/-- What stays in a call of symMerge. -/
structure Sy (T : Tr AV) (i n c a m b : Nat) (op : Bool) : Prop where
  t0 : gT T 0 = .sl i 0 n c op
  t1 : gT T 1 = .int .i64 a
  t2 : gT T 2 = .int .i64 m
  t3 : gT T 3 = .int .i64 b
  t4 : gT T 4 = .fn (.func 58) [] []

set_option maxHeartbeats 8000000 in
theorem loop0_ok (T : Tr AV) (H : AH) (xs : List Ed) (i c a m b : Nat) (op op' : Bool) (hT : Sy T i xs.length c a m b op) (h10 : gT T 10 = .int .i64 m) (h11 : gT T 11 = .int .i64 b)
    (hr : Row H i false op' 66 2 (edC xs)) (hi : i < H.next) (hh : H.hide = []) (ham : a < m) (hmb : m ≤ b) (hb : b ≤ xs.length) (hl : xs.length ≤ 1000000) (hbd : Bd xs) :
    LpE look f75b0 T H fun ex T' H' => ex = .exit 0 ∧ Sy T' i xs.length c a m b op ∧ HX H H' ∧ ∃ p : Nat, gT T' 10 = .int .i64 p ∧ m ≤ p ∧ p ≤ b ∧ (p = m ∨ key xs (p - 1) < key xs a) ∧ (p = b ∨ key xs a ≤ key xs p) := by
  refine lp_ind f75l0_eq (fun k T H' => ∃ p q : Nat, k = q - p ∧ Sy T i xs.length c a m b op ∧ gT T 10 = .int .i64 p ∧ gT T 11 = .int .i64 q ∧ HX H H' ∧ m ≤ p ∧ p ≤ q ∧ q ≤ b ∧ (p = m ∨ key xs (p - 1) < key xs a) ∧ (q = b ∨ key xs a ≤ key xs q)) _ ?_ (b - m) _ _ ?_
  · intro k T H1 hI
    obtain ⟨p, q, hk, ⟨h0, h1, h2, h3, h4⟩, h10, h11, hx, hmp, hpq, hqb, hP, hQ⟩ := hI
    unfold f75l0
    by_cases hlt : p < q
    · have hcv : cvI .u64 (.int .i64 ((p : Int) + q)) = some (.int .u64 ((p : Int) + q)) := cv_u _ (by omega) (by omega)
      have hsh : ∀ s, binF .shr s (.int .u64 ((p : Int) + q)) (.int .u64 1) = some (.int .u64 (((p + q) / 2 : Nat) : Int)) := fun s => by
        rw [shr1]; exact congrArg (fun x => some (AV.int .u64 x)) (by omega)
      have hcv2 : cvI .i64 (.int .u64 (((p + q) / 2 : Nat) : Int)) = some (.int .i64 (((p + q) / 2 : Nat) : Int)) := cv_i _ (by omega) (by omega)
      have hh1 : p ≤ (p + q) / 2 ∧ (p + q) / 2 < q := by omega
      generalize (p + q) / 2 = h at *
      have hixA := edIx (i := i) (n := xs.length) (c := c) (op := op) (e := (h : Int)) (by omega) (by omega)
      have hixB := edIx (i := i) (n := xs.length) (c := c) (op := op) (e := (a : Int)) (by omega) (by omega)
      rw [Int.toNat_natCast] at hixA hixB
      have hrow := hr.hx hx hi
      have hrdA := edRd hrow (k := h) (by omega)
      have hrdB := edRd hrow (k := a) (by omega)
      have hbA := hbd.at (k := h) (by omega)
      have hbB := hbd.at (k := a) (by omega)
      (repeat' (first | refine rc_reg ?_ | refine rc_seq ?_ | refine rk_done ?_ | refine rn_seq_n ?_ | refine rc_blk ?_ | refine rc_skip ?_ | refine rc_exit ?_ | refine rc_ret ?_ | refine rc_scp ?_ | refine rn_seq_e ?_ | refine rn_seq_r ?_ | refine rn_blk_n ?_ | refine rn_blk_r ?_ | refine rn_blk_e ?_ | refine rn_scp_n ?_ | refine rn_scp_e ?_ | refine rn_scp_r ?_ | refine rk_sk ?_ | refine rn_blk_x (by decide) ?_ | ((first | apply rk_mv' | apply rk_p1 | apply rk_p2 | apply rk_r1 | apply rk_ln | apply rk_ls); · (first | (simp (disch := omega) only [evl, Nat.reduceEqDiff, Nat.reduceAdd, reduceIte, reduceCtorEq, h0, h1, h4, h10, h11, hcv, hsh, hcv2, hixA, hixB, hrdA, hrdB] <;> exact rfl) | exact rfl)) | ((first | apply rc_cond | apply rk_gd); (· (first | (simp (disch := omega) only [evl, Nat.reduceEqDiff, Nat.reduceAdd, reduceIte, reduceCtorEq, h0, h1, h4, h10, h11, hcv, hsh, hcv2, hixA, hixB, hrdA, hrdB] <;> exact rfl) | exact rfl)); all_goals (intro hb; try simp only [bvl, ne_eq, Bool.not_true, Bool.not_false, reduceCtorEq, not_true_eq_false] at hb)) | (refine rk_gd_u ?_ ?_; · (first | (simp (disch := omega) only [evl, Nat.reduceEqDiff, Nat.reduceAdd, reduceIte, reduceCtorEq, h0, h1, h4, h10, h11, hcv, hsh, hcv2, hixA, hixB, hrdA, hrdB] <;> exact rfl) | exact rfl))))
      refine rk_cn (g := 58) (args := [edV (edG xs h), edV (edG xs a)]) (by (simp (disch := omega) only [evl, Nat.reduceEqDiff, Nat.reduceAdd, reduceIte, reduceCtorEq, h4]); rfl) (cmp_ok H1 _ _ (hx.hide.trans hh) hbA hbB) ?_
      rintro r H2 ⟨hx2, rfl⟩
      simp only [hOut_f]
      by_cases hc : (edG xs h).1 < (edG xs a).1
      · have hcc : (edG xs h).1 - (edG xs a).1 < 0 := by omega
        (repeat' (first | refine rc_reg ?_ | refine rc_seq ?_ | refine rk_done ?_ | refine rn_seq_n ?_ | refine rc_blk ?_ | refine rc_skip ?_ | refine rc_exit ?_ | refine rc_ret ?_ | refine rc_scp ?_ | refine rn_seq_e ?_ | refine rn_seq_r ?_ | refine rn_blk_n ?_ | refine rn_blk_r ?_ | refine rn_blk_e ?_ | refine rn_scp_n ?_ | refine rn_scp_e ?_ | refine rn_scp_r ?_ | refine rk_sk ?_ | refine rn_blk_x (by decide) ?_ | ((first | apply rk_mv' | apply rk_p1 | apply rk_p2 | apply rk_r1 | apply rk_ln | apply rk_ls); · (first | (simp (disch := omega) only [evl, Nat.reduceEqDiff, Nat.reduceAdd, reduceIte, reduceCtorEq] <;> exact rfl) | exact rfl)) | ((first | apply rc_cond | apply rk_gd); (· (first | (simp (disch := omega) only [evl, Nat.reduceEqDiff, Nat.reduceAdd, reduceIte, reduceCtorEq] <;> exact rfl) | exact rfl)); all_goals (intro hb; try simp only [bvl, ne_eq, Bool.not_true, Bool.not_false, reduceCtorEq, not_true_eq_false] at hb)) | (refine rk_gd_u ?_ ?_; · (first | (simp (disch := omega) only [evl, Nat.reduceEqDiff, Nat.reduceAdd, reduceIte, reduceCtorEq] <;> exact rfl) | exact rfl))))
        refine rn_nil ?_; refine lpq_n (q - (h + 1)) (by omega) ?_
        exact ⟨h + 1, q, rfl, ⟨(by (first | (simp (disch := omega) only [evl, Nat.reduceEqDiff, Nat.reduceAdd, reduceIte, reduceCtorEq, h0] <;> exact rfl) | exact rfl)), (by (first | (simp (disch := omega) only [evl, Nat.reduceEqDiff, Nat.reduceAdd, reduceIte, reduceCtorEq, h1] <;> exact rfl) | exact rfl)), (by (first | (simp (disch := omega) only [evl, Nat.reduceEqDiff, Nat.reduceAdd, reduceIte, reduceCtorEq, h2] <;> exact rfl) | exact rfl)), (by (first | (simp (disch := omega) only [evl, Nat.reduceEqDiff, Nat.reduceAdd, reduceIte, reduceCtorEq, h3] <;> exact rfl) | exact rfl)), (by (first | (simp (disch := omega) only [evl, Nat.reduceEqDiff, Nat.reduceAdd, reduceIte, reduceCtorEq, h4] <;> exact rfl) | exact rfl))⟩, (by (first | (simp (disch := omega) only [evl, Nat.reduceEqDiff, Nat.reduceAdd, reduceIte, reduceCtorEq] <;> exact rfl) | exact rfl)), (by (first | (simp (disch := omega) only [evl, Nat.reduceEqDiff, Nat.reduceAdd, reduceIte, reduceCtorEq, h11] <;> exact rfl) | exact rfl)), hx.trans hx2, by omega, by omega, hqb, .inr hc, hQ⟩
      · have hcc : ¬ ((edG xs h).1 - (edG xs a).1 < 0) := by omega
        (repeat' (first | refine rc_reg ?_ | refine rc_seq ?_ | refine rk_done ?_ | refine rn_seq_n ?_ | refine rc_blk ?_ | refine rc_skip ?_ | refine rc_exit ?_ | refine rc_ret ?_ | refine rc_scp ?_ | refine rn_seq_e ?_ | refine rn_seq_r ?_ | refine rn_blk_n ?_ | refine rn_blk_r ?_ | refine rn_blk_e ?_ | refine rn_scp_n ?_ | refine rn_scp_e ?_ | refine rn_scp_r ?_ | refine rk_sk ?_ | refine rn_blk_x (by decide) ?_ | ((first | apply rk_mv' | apply rk_p1 | apply rk_p2 | apply rk_r1 | apply rk_ln | apply rk_ls); · (first | (simp (disch := omega) only [evl, Nat.reduceEqDiff, Nat.reduceAdd, reduceIte, reduceCtorEq] <;> exact rfl) | exact rfl)) | ((first | apply rc_cond | apply rk_gd); (· (first | (simp (disch := omega) only [evl, Nat.reduceEqDiff, Nat.reduceAdd, reduceIte, reduceCtorEq] <;> exact rfl) | exact rfl)); all_goals (intro hb; try simp only [bvl, ne_eq, Bool.not_true, Bool.not_false, reduceCtorEq, not_true_eq_false] at hb)) | (refine rk_gd_u ?_ ?_; · (first | (simp (disch := omega) only [evl, Nat.reduceEqDiff, Nat.reduceAdd, reduceIte, reduceCtorEq] <;> exact rfl) | exact rfl))))
        refine rn_nil ?_; refine lpq_n (h - p) (by omega) ?_
        exact ⟨p, h, rfl, ⟨(by (first | (simp (disch := omega) only [evl, Nat.reduceEqDiff, Nat.reduceAdd, reduceIte, reduceCtorEq, h0] <;> exact rfl) | exact rfl)), (by (first | (simp (disch := omega) only [evl, Nat.reduceEqDiff, Nat.reduceAdd, reduceIte, reduceCtorEq, h1] <;> exact rfl) | exact rfl)), (by (first | (simp (disch := omega) only [evl, Nat.reduceEqDiff, Nat.reduceAdd, reduceIte, reduceCtorEq, h2] <;> exact rfl) | exact rfl)), (by (first | (simp (disch := omega) only [evl, Nat.reduceEqDiff, Nat.reduceAdd, reduceIte, reduceCtorEq, h3] <;> exact rfl) | exact rfl)), (by (first | (simp (disch := omega) only [evl, Nat.reduceEqDiff, Nat.reduceAdd, reduceIte, reduceCtorEq, h4] <;> exact rfl) | exact rfl))⟩, (by (first | (simp (disch := omega) only [evl, Nat.reduceEqDiff, Nat.reduceAdd, reduceIte, reduceCtorEq, h10] <;> exact rfl) | exact rfl)), (by (first | (simp (disch := omega) only [evl, Nat.reduceEqDiff, Nat.reduceAdd, reduceIte, reduceCtorEq] <;> exact rfl) | exact rfl)), hx.trans hx2, hmp, by omega, by omega, hP, .inr (by show (edG xs a).1 ≤ (edG xs h).1; omega)⟩
    · (repeat' (first | refine rc_reg ?_ | refine rc_seq ?_ | refine rk_done ?_ | refine rn_seq_n ?_ | refine rc_blk ?_ | refine rc_skip ?_ | refine rc_exit ?_ | refine rc_ret ?_ | refine rc_scp ?_ | refine rn_seq_e ?_ | refine rn_seq_r ?_ | refine rn_blk_n ?_ | refine rn_blk_r ?_ | refine rn_blk_e ?_ | refine rn_scp_n ?_ | refine rn_scp_e ?_ | refine rn_scp_r ?_ | refine rk_sk ?_ | refine rn_blk_x (by decide) ?_ | ((first | apply rk_mv' | apply rk_p1 | apply rk_p2 | apply rk_r1 | apply rk_ln | apply rk_ls); · (first | (simp (disch := omega) only [evl, Nat.reduceEqDiff, Nat.reduceAdd, reduceIte, reduceCtorEq, h10, h11] <;> exact rfl) | exact rfl)) | ((first | apply rc_cond | apply rk_gd); (· (first | (simp (disch := omega) only [evl, Nat.reduceEqDiff, Nat.reduceAdd, reduceIte, reduceCtorEq, h10, h11] <;> exact rfl) | exact rfl)); all_goals (intro hb; try simp only [bvl, ne_eq, Bool.not_true, Bool.not_false, reduceCtorEq, not_true_eq_false] at hb)) | (refine rk_gd_u ?_ ?_; · (first | (simp (disch := omega) only [evl, Nat.reduceEqDiff, Nat.reduceAdd, reduceIte, reduceCtorEq, h10, h11] <;> exact rfl) | exact rfl))))
      refine rn_nil ?_; refine lpq_e ?_
      obtain rfl : p = q := by omega
      exact ⟨rfl, ⟨(by (first | (simp (disch := omega) only [evl, Nat.reduceEqDiff, Nat.reduceAdd, reduceIte, reduceCtorEq, h0] <;> exact rfl) | exact rfl)), (by (first | (simp (disch := omega) only [evl, Nat.reduceEqDiff, Nat.reduceAdd, reduceIte, reduceCtorEq, h1] <;> exact rfl) | exact rfl)), (by (first | (simp (disch := omega) only [evl, Nat.reduceEqDiff, Nat.reduceAdd, reduceIte, reduceCtorEq, h2] <;> exact rfl) | exact rfl)), (by (first | (simp (disch := omega) only [evl, Nat.reduceEqDiff, Nat.reduceAdd, reduceIte, reduceCtorEq, h3] <;> exact rfl) | exact rfl)), (by (first | (simp (disch := omega) only [evl, Nat.reduceEqDiff, Nat.reduceAdd, reduceIte, reduceCtorEq, h4] <;> exact rfl) | exact rfl))⟩, hx, p, (by (first | (simp (disch := omega) only [evl, Nat.reduceEqDiff, Nat.reduceAdd, reduceIte, reduceCtorEq, h10] <;> exact rfl) | exact rfl)), hmp, hqb, hP, hQ⟩
  · exact ⟨m, b, rfl, hT, h10, h11, HX.refl _, Nat.le_refl _, hmb, Nat.le_refl _, .inl rfl, .inl rfl⟩

set_option maxHeartbeats 8000000 in
theorem loop1_ok (T : Tr AV) (H : AH) (xs : List Ed) (i c a m b p : Nat) (op op' : Bool) (hT : Sy T i xs.length c a m b op) (h10 : gT T 10 = .int .i64 p) (h13 : gT T 13 = .int .i64 a)
    (hr : Row H i false op' 66 2 (edC xs)) (hlo : H.lo ≤ i) (hh : H.hide = []) (hap : a < p) (hpb : p ≤ b) (hb : b ≤ xs.length) (hl : xs.length ≤ 1000000) :
    LpE look f75b1 T H fun ex T' H' => ex = .exit 2 ∧ HP (· ≠ i) H H' ∧ ∃ ys, Row H' i false op' 66 2 (edC ys) ∧ Kp xs ys a b ∧ ∀ s, key ys s = if a ≤ s ∧ s < p - 1 then key xs (s + 1) else if s = p - 1 then key xs a else key xs s := by
  refine lp_ind f75l1_eq (fun k T H' => ∃ (q : Nat) (ys : List Ed), k = p - 1 - q ∧ a ≤ q ∧ q ≤ p - 1 ∧ Sy T i xs.length c a m b op ∧ gT T 10 = .int .i64 p ∧ gT T 13 = .int .i64 q ∧ HP (· ≠ i) H H' ∧ Row H' i false op' 66 2 (edC ys) ∧ Kp xs ys a b ∧ ∀ s, key ys s = if a ≤ s ∧ s < q then key xs (s + 1) else if s = q then key xs a else key xs s) _ ?_ (p - 1 - a) _ _ ?_
  · intro k T H1 hI
    obtain ⟨q, ys, hk, haq, hqp, ⟨h0, h1, h2, h3, h4⟩, h10, h13, hp, hrow, hkp, hkey⟩ := hI
    unfold f75l1
    have hyl := hkp.len
    have Hkey := Hd.mk hkey
    clear hkey
    by_cases hlt : q < p - 1
    · have hixA := edIx (i := i) (n := xs.length) (c := c) (op := op) (e := (q : Int) + 1) (by omega) (by omega)
      have hixB := edIx (i := i) (n := xs.length) (c := c) (op := op) (e := (q : Int)) (by omega) (by omega)
      rw [show ((q : Int) + 1).toNat = q + 1 from by omega] at hixA
      rw [Int.toNat_natCast] at hixB
      have hrdA := edRd hrow (k := q + 1) (by omega)
      have hrdB := edRd hrow (k := q) (by omega)
      have hsw := sw_kp (xs := ys) (a := q) (b := q + 1) (lo := a) (hi := b) (by omega) (by omega) (by omega) (by omega) (by omega) (by omega)
      have hsk := fun s => sw_key (xs := ys) (a := q) (b := q + 1) (by omega) (by omega) s
      obtain ⟨H3, hs3, hr3, hp3, hn3⟩ := edSt (edG ys (q + 1)) hrow (hp.hide.trans hh) (by rw [hp.lo]; exact hlo) (k := q) (by omega)
      obtain ⟨H4, hs4, hr4, hp4, hn4⟩ := edSt (edG ys q) hr3 (hp3.hide.trans (hp.hide.trans hh)) (by rw [hp3.lo, hp.lo]; exact hlo) (k := q + 1) (by rw [List.length_set]; omega)
      (repeat' (first | refine rc_reg ?_ | refine rc_seq ?_ | refine rk_done ?_ | refine rn_seq_n ?_ | refine rc_blk ?_ | refine rc_skip ?_ | refine rc_exit ?_ | refine rc_ret ?_ | refine rc_scp ?_ | refine rn_seq_e ?_ | refine rn_seq_r ?_ | refine rn_blk_n ?_ | refine rn_blk_r ?_ | refine rn_blk_e ?_ | refine rn_scp_n ?_ | refine rn_scp_e ?_ | refine rn_scp_r ?_ | refine rk_sk ?_ | refine rn_blk_x (by decide) ?_ | ((first | apply rk_mv' | apply rk_p1 | apply rk_p2 | apply rk_r1 | apply rk_ln | apply rk_ls); · (first | (simp (disch := omega) only [evl, Nat.reduceEqDiff, Nat.reduceAdd, reduceIte, reduceCtorEq, h0, h10, h13, hixA, hixB, hrdA, hrdB] <;> exact rfl) | exact rfl)) | ((first | apply rc_cond | apply rk_gd); (· (first | (simp (disch := omega) only [evl, Nat.reduceEqDiff, Nat.reduceAdd, reduceIte, reduceCtorEq, h0, h10, h13, hixA, hixB, hrdA, hrdB] <;> exact rfl) | exact rfl)); all_goals (intro hb; try simp only [bvl, ne_eq, Bool.not_true, Bool.not_false, reduceCtorEq, not_true_eq_false] at hb)) | (refine rk_gd_u ?_ ?_; · (first | (simp (disch := omega) only [evl, Nat.reduceEqDiff, Nat.reduceAdd, reduceIte, reduceCtorEq, h0, h10, h13, hixA, hixB, hrdA, hrdB] <;> exact rfl) | exact rfl))))
      apply rk_st
      · (simp (disch := omega) only [evl, Nat.reduceEqDiff, Nat.reduceAdd, reduceIte, reduceCtorEq])
        exact hs3
      simp only [hOut_f]
      (repeat' (first | refine rc_reg ?_ | refine rc_seq ?_ | refine rk_done ?_ | refine rn_seq_n ?_ | refine rc_blk ?_ | refine rc_skip ?_ | refine rc_exit ?_ | refine rc_ret ?_ | refine rc_scp ?_ | refine rn_seq_e ?_ | refine rn_seq_r ?_ | refine rn_blk_n ?_ | refine rn_blk_r ?_ | refine rn_blk_e ?_ | refine rn_scp_n ?_ | refine rn_scp_e ?_ | refine rn_scp_r ?_ | refine rk_sk ?_ | refine rn_blk_x (by decide) ?_ | ((first | apply rk_mv' | apply rk_p1 | apply rk_p2 | apply rk_r1 | apply rk_ln | apply rk_ls); · (first | (simp (disch := omega) only [evl, Nat.reduceEqDiff, Nat.reduceAdd, reduceIte, reduceCtorEq, hixA] <;> exact rfl) | exact rfl)) | ((first | apply rc_cond | apply rk_gd); (· (first | (simp (disch := omega) only [evl, Nat.reduceEqDiff, Nat.reduceAdd, reduceIte, reduceCtorEq, hixA] <;> exact rfl) | exact rfl)); all_goals (intro hb; try simp only [bvl, ne_eq, Bool.not_true, Bool.not_false, reduceCtorEq, not_true_eq_false] at hb)) | (refine rk_gd_u ?_ ?_; · (first | (simp (disch := omega) only [evl, Nat.reduceEqDiff, Nat.reduceAdd, reduceIte, reduceCtorEq, hixA] <;> exact rfl) | exact rfl))))
      apply rk_st
      · (simp (disch := omega) only [evl, Nat.reduceEqDiff, Nat.reduceAdd, reduceIte, reduceCtorEq])
        exact hs4
      simp only [hOut_f]
      (repeat' (first | refine rc_reg ?_ | refine rc_seq ?_ | refine rk_done ?_ | refine rn_seq_n ?_ | refine rc_blk ?_ | refine rc_skip ?_ | refine rc_exit ?_ | refine rc_ret ?_ | refine rc_scp ?_ | refine rn_seq_e ?_ | refine rn_seq_r ?_ | refine rn_blk_n ?_ | refine rn_blk_r ?_ | refine rn_blk_e ?_ | refine rn_scp_n ?_ | refine rn_scp_e ?_ | refine rn_scp_r ?_ | refine rk_sk ?_ | refine rn_blk_x (by decide) ?_ | ((first | apply rk_mv' | apply rk_p1 | apply rk_p2 | apply rk_r1 | apply rk_ln | apply rk_ls); · (first | (simp (disch := omega) only [evl, Nat.reduceEqDiff, Nat.reduceAdd, reduceIte, reduceCtorEq, h13] <;> exact rfl) | exact rfl)) | ((first | apply rc_cond | apply rk_gd); (· (first | (simp (disch := omega) only [evl, Nat.reduceEqDiff, Nat.reduceAdd, reduceIte, reduceCtorEq, h13] <;> exact rfl) | exact rfl)); all_goals (intro hb; try simp only [bvl, ne_eq, Bool.not_true, Bool.not_false, reduceCtorEq, not_true_eq_false] at hb)) | (refine rk_gd_u ?_ ?_; · (first | (simp (disch := omega) only [evl, Nat.reduceEqDiff, Nat.reduceAdd, reduceIte, reduceCtorEq, h13] <;> exact rfl) | exact rfl))))
      refine rn_nil ?_; refine lpq_n (p - 1 - (q + 1)) (by omega) ?_
      refine ⟨q + 1, sw ys q (q + 1), rfl, by omega, by omega, ⟨(by (first | (simp (disch := omega) only [evl, Nat.reduceEqDiff, Nat.reduceAdd, reduceIte, reduceCtorEq, h0] <;> exact rfl) | exact rfl)), (by (first | (simp (disch := omega) only [evl, Nat.reduceEqDiff, Nat.reduceAdd, reduceIte, reduceCtorEq, h1] <;> exact rfl) | exact rfl)), (by (first | (simp (disch := omega) only [evl, Nat.reduceEqDiff, Nat.reduceAdd, reduceIte, reduceCtorEq, h2] <;> exact rfl) | exact rfl)), (by (first | (simp (disch := omega) only [evl, Nat.reduceEqDiff, Nat.reduceAdd, reduceIte, reduceCtorEq, h3] <;> exact rfl) | exact rfl)), (by (first | (simp (disch := omega) only [evl, Nat.reduceEqDiff, Nat.reduceAdd, reduceIte, reduceCtorEq, h4] <;> exact rfl) | exact rfl))⟩, (by (first | (simp (disch := omega) only [evl, Nat.reduceEqDiff, Nat.reduceAdd, reduceIte, reduceCtorEq, h10] <;> exact rfl) | exact rfl)), (by (first | (simp (disch := omega) only [evl, Nat.reduceEqDiff, Nat.reduceAdd, reduceIte, reduceCtorEq] <;> exact rfl) | exact rfl)), (hp.trans hp3 (r := (· ≠ i)) fun i hi h => ⟨h, h⟩).trans hp4 (r := (· ≠ i)) fun i hi h => ⟨h, h⟩, hr4, hkp.trans hsw (Nat.le_refl _) (Nat.le_refl _) (Nat.le_refl _) (Nat.le_refl _), fun s => ?_⟩
      rw [hsk s]
      by_cases g1 : s = q + 1
      · rw [if_pos g1, Hkey.out q, if_neg (by omega), if_pos rfl, if_neg (by omega), if_pos g1]
      · rw [if_neg g1]
        by_cases g2 : s = q
        · rw [if_pos g2, Hkey.out (q + 1), if_neg (by omega), if_neg (by omega), if_pos (by omega), g2]
        · rw [if_neg g2, Hkey.out s]
          by_cases g3 : a ≤ s ∧ s < q
          · rw [if_pos g3, if_pos (by omega)]
          · rw [if_neg g3, if_neg g2, if_neg (by omega), if_neg g1]
    · (repeat' (first | refine rc_reg ?_ | refine rc_seq ?_ | refine rk_done ?_ | refine rn_seq_n ?_ | refine rc_blk ?_ | refine rc_skip ?_ | refine rc_exit ?_ | refine rc_ret ?_ | refine rc_scp ?_ | refine rn_seq_e ?_ | refine rn_seq_r ?_ | refine rn_blk_n ?_ | refine rn_blk_r ?_ | refine rn_blk_e ?_ | refine rn_scp_n ?_ | refine rn_scp_e ?_ | refine rn_scp_r ?_ | refine rk_sk ?_ | refine rn_blk_x (by decide) ?_ | ((first | apply rk_mv' | apply rk_p1 | apply rk_p2 | apply rk_r1 | apply rk_ln | apply rk_ls); · (first | (simp (disch := omega) only [evl, Nat.reduceEqDiff, Nat.reduceAdd, reduceIte, reduceCtorEq, h10, h13] <;> exact rfl) | exact rfl)) | ((first | apply rc_cond | apply rk_gd); (· (first | (simp (disch := omega) only [evl, Nat.reduceEqDiff, Nat.reduceAdd, reduceIte, reduceCtorEq, h10, h13] <;> exact rfl) | exact rfl)); all_goals (intro hb; try simp only [bvl, ne_eq, Bool.not_true, Bool.not_false, reduceCtorEq, not_true_eq_false] at hb)) | (refine rk_gd_u ?_ ?_; · (first | (simp (disch := omega) only [evl, Nat.reduceEqDiff, Nat.reduceAdd, reduceIte, reduceCtorEq, h10, h13] <;> exact rfl) | exact rfl))))
      refine rn_nil ?_; refine lpq_e ?_
      obtain rfl : q = p - 1 := by omega
      exact ⟨rfl, hp, ys, hrow, hkp, Hkey.out⟩
  · refine ⟨a, xs, rfl, Nat.le_refl _, by omega, hT, h10, h13, HP.refl _ _, hr, Kp.refl _ _ _, fun s => ?_⟩
    rw [if_neg (by omega)]
    split
    · next h => rw [h]
    · rfl

set_option maxHeartbeats 8000000 in
theorem loop2_ok (T : Tr AV) (H : AH) (xs : List Ed) (i c a m b : Nat) (op op' : Bool) (hT : Sy T i xs.length c a m b op) (h14 : gT T 14 = .int .i64 a) (h15 : gT T 15 = .int .i64 m)
    (hr : Row H i false op' 66 2 (edC xs)) (hi : i < H.next) (hh : H.hide = []) (ham : a ≤ m) (hmb : m < b) (hb : b ≤ xs.length) (hl : xs.length ≤ 1000000) (hbd : Bd xs) :
    LpE look f75b2 T H fun ex T' H' => ex = .exit 4 ∧ Sy T' i xs.length c a m b op ∧ HX H H' ∧ ∃ p : Nat, gT T' 14 = .int .i64 p ∧ a ≤ p ∧ p ≤ m ∧ (p = a ∨ key xs (p - 1) ≤ key xs m) ∧ (p = m ∨ key xs m ≤ key xs p) := by
  refine lp_ind f75l2_eq (fun k T H' => ∃ p q : Nat, k = q - p ∧ Sy T i xs.length c a m b op ∧ gT T 14 = .int .i64 p ∧ gT T 15 = .int .i64 q ∧ HX H H' ∧ a ≤ p ∧ p ≤ q ∧ q ≤ m ∧ (p = a ∨ key xs (p - 1) ≤ key xs m) ∧ (q = m ∨ key xs m ≤ key xs q)) _ ?_ (m - a) _ _ ?_
  · intro k T H1 hI
    obtain ⟨p, q, hk, ⟨h0, h1, h2, h3, h4⟩, h14, h15, hx, hmp, hpq, hqb, hP, hQ⟩ := hI
    unfold f75l2
    by_cases hlt : p < q
    · have hcv : cvI .u64 (.int .i64 ((p : Int) + q)) = some (.int .u64 ((p : Int) + q)) := cv_u _ (by omega) (by omega)
      have hsh : ∀ s, binF .shr s (.int .u64 ((p : Int) + q)) (.int .u64 1) = some (.int .u64 (((p + q) / 2 : Nat) : Int)) := fun s => by
        rw [shr1]; exact congrArg (fun x => some (AV.int .u64 x)) (by omega)
      have hcv2 : cvI .i64 (.int .u64 (((p + q) / 2 : Nat) : Int)) = some (.int .i64 (((p + q) / 2 : Nat) : Int)) := cv_i _ (by omega) (by omega)
      have hh1 : p ≤ (p + q) / 2 ∧ (p + q) / 2 < q := by omega
      generalize (p + q) / 2 = h at *
      have hixA := edIx (i := i) (n := xs.length) (c := c) (op := op) (e := (h : Int)) (by omega) (by omega)
      have hixB := edIx (i := i) (n := xs.length) (c := c) (op := op) (e := (m : Int)) (by omega) (by omega)
      rw [Int.toNat_natCast] at hixA hixB
      have hrow := hr.hx hx hi
      have hrdA := edRd hrow (k := h) (by omega)
      have hrdB := edRd hrow (k := m) (by omega)
      have hbA := hbd.at (k := h) (by omega)
      have hbB := hbd.at (k := m) (by omega)
      (repeat' (first | refine rc_reg ?_ | refine rc_seq ?_ | refine rk_done ?_ | refine rn_seq_n ?_ | refine rc_blk ?_ | refine rc_skip ?_ | refine rc_exit ?_ | refine rc_ret ?_ | refine rc_scp ?_ | refine rn_seq_e ?_ | refine rn_seq_r ?_ | refine rn_blk_n ?_ | refine rn_blk_r ?_ | refine rn_blk_e ?_ | refine rn_scp_n ?_ | refine rn_scp_e ?_ | refine rn_scp_r ?_ | refine rk_sk ?_ | refine rn_blk_x (by decide) ?_ | ((first | apply rk_mv' | apply rk_p1 | apply rk_p2 | apply rk_r1 | apply rk_ln | apply rk_ls); · (first | (simp (disch := omega) only [evl, Nat.reduceEqDiff, Nat.reduceAdd, reduceIte, reduceCtorEq, h0, h2, h4, h14, h15, hcv, hsh, hcv2, hixA, hixB, hrdA, hrdB] <;> exact rfl) | exact rfl)) | ((first | apply rc_cond | apply rk_gd); (· (first | (simp (disch := omega) only [evl, Nat.reduceEqDiff, Nat.reduceAdd, reduceIte, reduceCtorEq, h0, h2, h4, h14, h15, hcv, hsh, hcv2, hixA, hixB, hrdA, hrdB] <;> exact rfl) | exact rfl)); all_goals (intro hb; try simp only [bvl, ne_eq, Bool.not_true, Bool.not_false, reduceCtorEq, not_true_eq_false] at hb)) | (refine rk_gd_u ?_ ?_; · (first | (simp (disch := omega) only [evl, Nat.reduceEqDiff, Nat.reduceAdd, reduceIte, reduceCtorEq, h0, h2, h4, h14, h15, hcv, hsh, hcv2, hixA, hixB, hrdA, hrdB] <;> exact rfl) | exact rfl))))
      refine rk_cn (g := 58) (args := [edV (edG xs m), edV (edG xs h)]) (by (simp (disch := omega) only [evl, Nat.reduceEqDiff, Nat.reduceAdd, reduceIte, reduceCtorEq, h4]); rfl) (cmp_ok H1 _ _ (hx.hide.trans hh) hbB hbA) ?_
      rintro r H2 ⟨hx2, rfl⟩
      simp only [hOut_f]
      by_cases hc : (edG xs m).1 < (edG xs h).1
      · have hcc : (edG xs m).1 - (edG xs h).1 < 0 := by omega
        (repeat' (first | refine rc_reg ?_ | refine rc_seq ?_ | refine rk_done ?_ | refine rn_seq_n ?_ | refine rc_blk ?_ | refine rc_skip ?_ | refine rc_exit ?_ | refine rc_ret ?_ | refine rc_scp ?_ | refine rn_seq_e ?_ | refine rn_seq_r ?_ | refine rn_blk_n ?_ | refine rn_blk_r ?_ | refine rn_blk_e ?_ | refine rn_scp_n ?_ | refine rn_scp_e ?_ | refine rn_scp_r ?_ | refine rk_sk ?_ | refine rn_blk_x (by decide) ?_ | ((first | apply rk_mv' | apply rk_p1 | apply rk_p2 | apply rk_r1 | apply rk_ln | apply rk_ls); · (first | (simp (disch := omega) only [evl, Nat.reduceEqDiff, Nat.reduceAdd, reduceIte, reduceCtorEq] <;> exact rfl) | exact rfl)) | ((first | apply rc_cond | apply rk_gd); (· (first | (simp (disch := omega) only [evl, Nat.reduceEqDiff, Nat.reduceAdd, reduceIte, reduceCtorEq] <;> exact rfl) | exact rfl)); all_goals (intro hb; try simp only [bvl, ne_eq, Bool.not_true, Bool.not_false, reduceCtorEq, not_true_eq_false] at hb)) | (refine rk_gd_u ?_ ?_; · (first | (simp (disch := omega) only [evl, Nat.reduceEqDiff, Nat.reduceAdd, reduceIte, reduceCtorEq] <;> exact rfl) | exact rfl))))
        refine rn_nil ?_; refine lpq_n (h - p) (by omega) ?_
        exact ⟨p, h, rfl, ⟨(by (first | (simp (disch := omega) only [evl, Nat.reduceEqDiff, Nat.reduceAdd, reduceIte, reduceCtorEq, h0] <;> exact rfl) | exact rfl)), (by (first | (simp (disch := omega) only [evl, Nat.reduceEqDiff, Nat.reduceAdd, reduceIte, reduceCtorEq, h1] <;> exact rfl) | exact rfl)), (by (first | (simp (disch := omega) only [evl, Nat.reduceEqDiff, Nat.reduceAdd, reduceIte, reduceCtorEq, h2] <;> exact rfl) | exact rfl)), (by (first | (simp (disch := omega) only [evl, Nat.reduceEqDiff, Nat.reduceAdd, reduceIte, reduceCtorEq, h3] <;> exact rfl) | exact rfl)), (by (first | (simp (disch := omega) only [evl, Nat.reduceEqDiff, Nat.reduceAdd, reduceIte, reduceCtorEq, h4] <;> exact rfl) | exact rfl))⟩, (by (first | (simp (disch := omega) only [evl, Nat.reduceEqDiff, Nat.reduceAdd, reduceIte, reduceCtorEq, h14] <;> exact rfl) | exact rfl)), (by (first | (simp (disch := omega) only [evl, Nat.reduceEqDiff, Nat.reduceAdd, reduceIte, reduceCtorEq] <;> exact rfl) | exact rfl)), hx.trans hx2, hmp, by omega, by omega, hP, .inr (by show (edG xs m).1 ≤ (edG xs h).1; omega)⟩
      · have hcc : ¬ ((edG xs m).1 - (edG xs h).1 < 0) := by omega
        (repeat' (first | refine rc_reg ?_ | refine rc_seq ?_ | refine rk_done ?_ | refine rn_seq_n ?_ | refine rc_blk ?_ | refine rc_skip ?_ | refine rc_exit ?_ | refine rc_ret ?_ | refine rc_scp ?_ | refine rn_seq_e ?_ | refine rn_seq_r ?_ | refine rn_blk_n ?_ | refine rn_blk_r ?_ | refine rn_blk_e ?_ | refine rn_scp_n ?_ | refine rn_scp_e ?_ | refine rn_scp_r ?_ | refine rk_sk ?_ | refine rn_blk_x (by decide) ?_ | ((first | apply rk_mv' | apply rk_p1 | apply rk_p2 | apply rk_r1 | apply rk_ln | apply rk_ls); · (first | (simp (disch := omega) only [evl, Nat.reduceEqDiff, Nat.reduceAdd, reduceIte, reduceCtorEq] <;> exact rfl) | exact rfl)) | ((first | apply rc_cond | apply rk_gd); (· (first | (simp (disch := omega) only [evl, Nat.reduceEqDiff, Nat.reduceAdd, reduceIte, reduceCtorEq] <;> exact rfl) | exact rfl)); all_goals (intro hb; try simp only [bvl, ne_eq, Bool.not_true, Bool.not_false, reduceCtorEq, not_true_eq_false] at hb)) | (refine rk_gd_u ?_ ?_; · (first | (simp (disch := omega) only [evl, Nat.reduceEqDiff, Nat.reduceAdd, reduceIte, reduceCtorEq] <;> exact rfl) | exact rfl))))
        refine rn_nil ?_; refine lpq_n (q - (h + 1)) (by omega) ?_
        exact ⟨h + 1, q, rfl, ⟨(by (first | (simp (disch := omega) only [evl, Nat.reduceEqDiff, Nat.reduceAdd, reduceIte, reduceCtorEq, h0] <;> exact rfl) | exact rfl)), (by (first | (simp (disch := omega) only [evl, Nat.reduceEqDiff, Nat.reduceAdd, reduceIte, reduceCtorEq, h1] <;> exact rfl) | exact rfl)), (by (first | (simp (disch := omega) only [evl, Nat.reduceEqDiff, Nat.reduceAdd, reduceIte, reduceCtorEq, h2] <;> exact rfl) | exact rfl)), (by (first | (simp (disch := omega) only [evl, Nat.reduceEqDiff, Nat.reduceAdd, reduceIte, reduceCtorEq, h3] <;> exact rfl) | exact rfl)), (by (first | (simp (disch := omega) only [evl, Nat.reduceEqDiff, Nat.reduceAdd, reduceIte, reduceCtorEq, h4] <;> exact rfl) | exact rfl))⟩, (by (first | (simp (disch := omega) only [evl, Nat.reduceEqDiff, Nat.reduceAdd, reduceIte, reduceCtorEq] <;> exact rfl) | exact rfl)), (by (first | (simp (disch := omega) only [evl, Nat.reduceEqDiff, Nat.reduceAdd, reduceIte, reduceCtorEq, h15] <;> exact rfl) | exact rfl)), hx.trans hx2, by omega, by omega, hqb, .inr (by show (edG xs (h + 1 - 1)).1 ≤ (edG xs m).1; rw [Nat.add_sub_cancel]; omega), hQ⟩
    · (repeat' (first | refine rc_reg ?_ | refine rc_seq ?_ | refine rk_done ?_ | refine rn_seq_n ?_ | refine rc_blk ?_ | refine rc_skip ?_ | refine rc_exit ?_ | refine rc_ret ?_ | refine rc_scp ?_ | refine rn_seq_e ?_ | refine rn_seq_r ?_ | refine rn_blk_n ?_ | refine rn_blk_r ?_ | refine rn_blk_e ?_ | refine rn_scp_n ?_ | refine rn_scp_e ?_ | refine rn_scp_r ?_ | refine rk_sk ?_ | refine rn_blk_x (by decide) ?_ | ((first | apply rk_mv' | apply rk_p1 | apply rk_p2 | apply rk_r1 | apply rk_ln | apply rk_ls); · (first | (simp (disch := omega) only [evl, Nat.reduceEqDiff, Nat.reduceAdd, reduceIte, reduceCtorEq, h14, h15] <;> exact rfl) | exact rfl)) | ((first | apply rc_cond | apply rk_gd); (· (first | (simp (disch := omega) only [evl, Nat.reduceEqDiff, Nat.reduceAdd, reduceIte, reduceCtorEq, h14, h15] <;> exact rfl) | exact rfl)); all_goals (intro hb; try simp only [bvl, ne_eq, Bool.not_true, Bool.not_false, reduceCtorEq, not_true_eq_false] at hb)) | (refine rk_gd_u ?_ ?_; · (first | (simp (disch := omega) only [evl, Nat.reduceEqDiff, Nat.reduceAdd, reduceIte, reduceCtorEq, h14, h15] <;> exact rfl) | exact rfl))))
      refine rn_nil ?_; refine lpq_e ?_
      obtain rfl : p = q := by omega
      exact ⟨rfl, ⟨(by (first | (simp (disch := omega) only [evl, Nat.reduceEqDiff, Nat.reduceAdd, reduceIte, reduceCtorEq, h0] <;> exact rfl) | exact rfl)), (by (first | (simp (disch := omega) only [evl, Nat.reduceEqDiff, Nat.reduceAdd, reduceIte, reduceCtorEq, h1] <;> exact rfl) | exact rfl)), (by (first | (simp (disch := omega) only [evl, Nat.reduceEqDiff, Nat.reduceAdd, reduceIte, reduceCtorEq, h2] <;> exact rfl) | exact rfl)), (by (first | (simp (disch := omega) only [evl, Nat.reduceEqDiff, Nat.reduceAdd, reduceIte, reduceCtorEq, h3] <;> exact rfl) | exact rfl)), (by (first | (simp (disch := omega) only [evl, Nat.reduceEqDiff, Nat.reduceAdd, reduceIte, reduceCtorEq, h4] <;> exact rfl) | exact rfl))⟩, hx, p, (by (first | (simp (disch := omega) only [evl, Nat.reduceEqDiff, Nat.reduceAdd, reduceIte, reduceCtorEq, h14] <;> exact rfl) | exact rfl)), hmp, hqb, hP, hQ⟩
  · exact ⟨a, m, rfl, hT, h14, h15, HX.refl _, Nat.le_refl _, ham, Nat.le_refl _, .inl rfl, .inl rfl⟩
end Go.Proofs.Ytnkomaedmblemaa

set_option linter.unusedSimpArgs false
set_option linter.unusedVariables false
set_option maxRecDepth 100000
namespace Go.Proofs.Ytnkomaedmblemaa
open Go.Ev Exl

set_option maxHeartbeats 8000000 in
theorem loop3_ok (T : Tr AV) (H : AH) (xs : List Ed) (i c a m b p : Nat) (op op' : Bool) (hT : Sy T i xs.length c a m b op) (h14 : gT T 14 = .int .i64 p) (h17 : gT T 17 = .int .i64 m)
    (hr : Row H i false op' 66 2 (edC xs)) (hlo : H.lo ≤ i) (hh : H.hide = []) (hap : a ≤ p) (hpm : p ≤ m) (hmb : m < b) (hb : b ≤ xs.length) (hl : xs.length ≤ 1000000) :
    LpE look f75b3 T H fun ex T' H' => ex = .exit 6 ∧ HP (· ≠ i) H H' ∧ ∃ ys, Row H' i false op' 66 2 (edC ys) ∧ Kp xs ys a b ∧ ∀ s, key ys s = if p < s ∧ s ≤ m then key xs (s - 1) else if s = p then key xs m else key xs s := by
  refine lp_ind f75l3_eq (fun k T H' => ∃ (q : Nat) (ys : List Ed), k = q - p ∧ p ≤ q ∧ q ≤ m ∧ Sy T i xs.length c a m b op ∧ gT T 14 = .int .i64 p ∧ gT T 17 = .int .i64 q ∧ HP (· ≠ i) H H' ∧ Row H' i false op' 66 2 (edC ys) ∧ Kp xs ys a b ∧ ∀ s, key ys s = if q < s ∧ s ≤ m then key xs (s - 1) else if s = q then key xs m else key xs s) _ ?_ (m - p) _ _ ?_
  · intro k T H1 hI
    obtain ⟨q, ys, hk, hpq, hqm, ⟨h0, h1, h2, h3, h4⟩, h14, h17, hp, hrow, hkp, hkey⟩ := hI
    unfold f75l3
    have hyl := hkp.len
    have Hkey := Hd.mk hkey
    clear hkey
    by_cases hlt : p < q
    · have hixA := edIx (i := i) (n := xs.length) (c := c) (op := op) (e := (q : Int) - 1) (by omega) (by omega)
      have hixB := edIx (i := i) (n := xs.length) (c := c) (op := op) (e := (q : Int)) (by omega) (by omega)
      rw [show ((q : Int) - 1).toNat = q - 1 from by omega] at hixA
      rw [Int.toNat_natCast] at hixB
      have hrdA := edRd hrow (k := q - 1) (by omega)
      have hrdB := edRd hrow (k := q) (by omega)
      have hsw := sw_kp (xs := ys) (a := q) (b := q - 1) (lo := a) (hi := b) (by omega) (by omega) (by omega) (by omega) (by omega) (by omega)
      have hsk := fun s => sw_key (xs := ys) (a := q) (b := q - 1) (by omega) (by omega) s
      obtain ⟨H3, hs3, hr3, hp3, hn3⟩ := edSt (edG ys (q - 1)) hrow (hp.hide.trans hh) (by rw [hp.lo]; exact hlo) (k := q) (by omega)
      obtain ⟨H4, hs4, hr4, hp4, hn4⟩ := edSt (edG ys q) hr3 (hp3.hide.trans (hp.hide.trans hh)) (by rw [hp3.lo, hp.lo]; exact hlo) (k := q - 1) (by rw [List.length_set]; omega)
      (repeat' (first | refine rc_reg ?_ | refine rc_seq ?_ | refine rk_done ?_ | refine rn_seq_n ?_ | refine rc_blk ?_ | refine rc_skip ?_ | refine rc_exit ?_ | refine rc_ret ?_ | refine rc_scp ?_ | refine rn_seq_e ?_ | refine rn_seq_r ?_ | refine rn_blk_n ?_ | refine rn_blk_r ?_ | refine rn_blk_e ?_ | refine rn_scp_n ?_ | refine rn_scp_e ?_ | refine rn_scp_r ?_ | refine rk_sk ?_ | refine rn_blk_x (by decide) ?_ | ((first | apply rk_mv' | apply rk_p1 | apply rk_p2 | apply rk_r1 | apply rk_ln | apply rk_ls); · (first | (simp (disch := omega) only [evl, Nat.reduceEqDiff, Nat.reduceAdd, reduceIte, reduceCtorEq, h0, h14, h17, hixA, hixB, hrdA, hrdB] <;> exact rfl) | exact rfl)) | ((first | apply rc_cond | apply rk_gd); (· (first | (simp (disch := omega) only [evl, Nat.reduceEqDiff, Nat.reduceAdd, reduceIte, reduceCtorEq, h0, h14, h17, hixA, hixB, hrdA, hrdB] <;> exact rfl) | exact rfl)); all_goals (intro hb; try simp only [bvl, ne_eq, Bool.not_true, Bool.not_false, reduceCtorEq, not_true_eq_false] at hb)) | (refine rk_gd_u ?_ ?_; · (first | (simp (disch := omega) only [evl, Nat.reduceEqDiff, Nat.reduceAdd, reduceIte, reduceCtorEq, h0, h14, h17, hixA, hixB, hrdA, hrdB] <;> exact rfl) | exact rfl))))
      apply rk_st
      · (simp (disch := omega) only [evl, Nat.reduceEqDiff, Nat.reduceAdd, reduceIte, reduceCtorEq])
        exact hs3
      simp only [hOut_f]
      (repeat' (first | refine rc_reg ?_ | refine rc_seq ?_ | refine rk_done ?_ | refine rn_seq_n ?_ | refine rc_blk ?_ | refine rc_skip ?_ | refine rc_exit ?_ | refine rc_ret ?_ | refine rc_scp ?_ | refine rn_seq_e ?_ | refine rn_seq_r ?_ | refine rn_blk_n ?_ | refine rn_blk_r ?_ | refine rn_blk_e ?_ | refine rn_scp_n ?_ | refine rn_scp_e ?_ | refine rn_scp_r ?_ | refine rk_sk ?_ | refine rn_blk_x (by decide) ?_ | ((first | apply rk_mv' | apply rk_p1 | apply rk_p2 | apply rk_r1 | apply rk_ln | apply rk_ls); · (first | (simp (disch := omega) only [evl, Nat.reduceEqDiff, Nat.reduceAdd, reduceIte, reduceCtorEq, hixA] <;> exact rfl) | exact rfl)) | ((first | apply rc_cond | apply rk_gd); (· (first | (simp (disch := omega) only [evl, Nat.reduceEqDiff, Nat.reduceAdd, reduceIte, reduceCtorEq, hixA] <;> exact rfl) | exact rfl)); all_goals (intro hb; try simp only [bvl, ne_eq, Bool.not_true, Bool.not_false, reduceCtorEq, not_true_eq_false] at hb)) | (refine rk_gd_u ?_ ?_; · (first | (simp (disch := omega) only [evl, Nat.reduceEqDiff, Nat.reduceAdd, reduceIte, reduceCtorEq, hixA] <;> exact rfl) | exact rfl))))
      apply rk_st
      · (simp (disch := omega) only [evl, Nat.reduceEqDiff, Nat.reduceAdd, reduceIte, reduceCtorEq])
        exact hs4
      simp only [hOut_f]
      (repeat' (first | refine rc_reg ?_ | refine rc_seq ?_ | refine rk_done ?_ | refine rn_seq_n ?_ | refine rc_blk ?_ | refine rc_skip ?_ | refine rc_exit ?_ | refine rc_ret ?_ | refine rc_scp ?_ | refine rn_seq_e ?_ | refine rn_seq_r ?_ | refine rn_blk_n ?_ | refine rn_blk_r ?_ | refine rn_blk_e ?_ | refine rn_scp_n ?_ | refine rn_scp_e ?_ | refine rn_scp_r ?_ | refine rk_sk ?_ | refine rn_blk_x (by decide) ?_ | ((first | apply rk_mv' | apply rk_p1 | apply rk_p2 | apply rk_r1 | apply rk_ln | apply rk_ls); · (first | (simp (disch := omega) only [evl, Nat.reduceEqDiff, Nat.reduceAdd, reduceIte, reduceCtorEq, h17] <;> exact rfl) | exact rfl)) | ((first | apply rc_cond | apply rk_gd); (· (first | (simp (disch := omega) only [evl, Nat.reduceEqDiff, Nat.reduceAdd, reduceIte, reduceCtorEq, h17] <;> exact rfl) | exact rfl)); all_goals (intro hb; try simp only [bvl, ne_eq, Bool.not_true, Bool.not_false, reduceCtorEq, not_true_eq_false] at hb)) | (refine rk_gd_u ?_ ?_; · (first | (simp (disch := omega) only [evl, Nat.reduceEqDiff, Nat.reduceAdd, reduceIte, reduceCtorEq, h17] <;> exact rfl) | exact rfl))))
      refine rn_nil ?_; refine lpq_n (q - 1 - p) (by omega) ?_
      refine ⟨q - 1, sw ys q (q - 1), rfl, by omega, by omega, ⟨(by (first | (simp (disch := omega) only [evl, Nat.reduceEqDiff, Nat.reduceAdd, reduceIte, reduceCtorEq, h0] <;> exact rfl) | exact rfl)), (by (first | (simp (disch := omega) only [evl, Nat.reduceEqDiff, Nat.reduceAdd, reduceIte, reduceCtorEq, h1] <;> exact rfl) | exact rfl)), (by (first | (simp (disch := omega) only [evl, Nat.reduceEqDiff, Nat.reduceAdd, reduceIte, reduceCtorEq, h2] <;> exact rfl) | exact rfl)), (by (first | (simp (disch := omega) only [evl, Nat.reduceEqDiff, Nat.reduceAdd, reduceIte, reduceCtorEq, h3] <;> exact rfl) | exact rfl)), (by (first | (simp (disch := omega) only [evl, Nat.reduceEqDiff, Nat.reduceAdd, reduceIte, reduceCtorEq, h4] <;> exact rfl) | exact rfl))⟩, (by (first | (simp (disch := omega) only [evl, Nat.reduceEqDiff, Nat.reduceAdd, reduceIte, reduceCtorEq, h14] <;> exact rfl) | exact rfl)), ?_, (hp.trans hp3 (r := (· ≠ i)) fun i hi h => ⟨h, h⟩).trans hp4 (r := (· ≠ i)) fun i hi h => ⟨h, h⟩, hr4, hkp.trans hsw (Nat.le_refl _) (Nat.le_refl _) (Nat.le_refl _) (Nat.le_refl _), fun s => ?_⟩
      · (simp (disch := omega) only [evl, Nat.reduceEqDiff, Nat.reduceAdd, reduceIte, reduceCtorEq])
        rw [show (q : Int) - 1 = ((q - 1 : Nat) : Int) from by omega]
      rw [hsk s]
      by_cases g1 : s = q - 1
      · rw [if_pos g1, Hkey.out q, if_neg (by omega), if_pos rfl, if_neg (by omega), if_pos g1]
      · rw [if_neg g1]
        by_cases g2 : s = q
        · rw [if_pos g2, Hkey.out (q - 1), if_neg (by omega), if_neg (by omega), if_pos (by omega), g2]
        · rw [if_neg g2, Hkey.out s]
          by_cases g3 : q < s ∧ s ≤ m
          · rw [if_pos g3, if_pos (by omega)]
          · rw [if_neg g3, if_neg g2, if_neg (by omega), if_neg g1]
    · (repeat' (first | refine rc_reg ?_ | refine rc_seq ?_ | refine rk_done ?_ | refine rn_seq_n ?_ | refine rc_blk ?_ | refine rc_skip ?_ | refine rc_exit ?_ | refine rc_ret ?_ | refine rc_scp ?_ | refine rn_seq_e ?_ | refine rn_seq_r ?_ | refine rn_blk_n ?_ | refine rn_blk_r ?_ | refine rn_blk_e ?_ | refine rn_scp_n ?_ | refine rn_scp_e ?_ | refine rn_scp_r ?_ | refine rk_sk ?_ | refine rn_blk_x (by decide) ?_ | ((first | apply rk_mv' | apply rk_p1 | apply rk_p2 | apply rk_r1 | apply rk_ln | apply rk_ls); · (first | (simp (disch := omega) only [evl, Nat.reduceEqDiff, Nat.reduceAdd, reduceIte, reduceCtorEq, h14, h17] <;> exact rfl) | exact rfl)) | ((first | apply rc_cond | apply rk_gd); (· (first | (simp (disch := omega) only [evl, Nat.reduceEqDiff, Nat.reduceAdd, reduceIte, reduceCtorEq, h14, h17] <;> exact rfl) | exact rfl)); all_goals (intro hb; try simp only [bvl, ne_eq, Bool.not_true, Bool.not_false, reduceCtorEq, not_true_eq_false] at hb)) | (refine rk_gd_u ?_ ?_; · (first | (simp (disch := omega) only [evl, Nat.reduceEqDiff, Nat.reduceAdd, reduceIte, reduceCtorEq, h14, h17] <;> exact rfl) | exact rfl))))
      refine rn_nil ?_; refine lpq_e ?_
      obtain rfl : q = p := by omega
      exact ⟨rfl, hp, ys, hrow, hkp, Hkey.out⟩
  · refine ⟨m, xs, rfl, hpm, Nat.le_refl _, hT, h14, h17, HP.refl _ _, hr, Kp.refl _ _ _, fun s => ?_⟩
    rw [if_neg (by omega)]
    split
    · next h => rw [h]
    · rfl

set_option maxHeartbeats 8000000 in
theorem loop4_ok (T : Tr AV) (H : AH) (xs : List Ed) (i c a m b lo0 hi0 md : Nat) (op op' : Bool) (hT : Sy T i xs.length c a m b op) (h18 : gT T 18 = .int .i64 md) (h19 : gT T 19 = .int .i64 (md + m : Nat)) (h20 : gT T 20 = .int .i64 lo0) (h21 : gT T 21 = .int .i64 hi0) (h22 : gT T 22 = .int .i64 (md + m - 1 : Nat))
    (hr : Row H i false op' 66 2 (edC xs)) (hi : i < H.next) (hh : H.hide = []) (hlh : lo0 ≤ hi0) (hb : b ≤ xs.length) (hl : xs.length ≤ 1000000) (hbd : Bd xs) (hin : ∀ c, lo0 ≤ c → c < hi0 → c < b ∧ c < md + m ∧ md + m - 1 - c < b) :
    LpE look f75b4 T H fun ex T' H' => ex = .exit 8 ∧ Sy T' i xs.length c a m b op ∧ gT T' 18 = .int .i64 md ∧ gT T' 19 = .int .i64 (md + m : Nat) ∧ HX H H' ∧ ∃ p : Nat, gT T' 20 = .int .i64 p ∧ lo0 ≤ p ∧ p ≤ hi0 ∧ (p = lo0 ∨ key xs (p - 1) ≤ key xs (md + m - p)) ∧ (p = hi0 ∨ key xs (md + m - 1 - p) ≤ key xs p) := by
  refine lp_ind f75l4_eq (fun k T H' => ∃ p q : Nat, k = q - p ∧ Sy T i xs.length c a m b op ∧ gT T 18 = .int .i64 md ∧ gT T 19 = .int .i64 (md + m : Nat) ∧ gT T 20 = .int .i64 p ∧ gT T 21 = .int .i64 q ∧ gT T 22 = .int .i64 (md + m - 1 : Nat) ∧ HX H H' ∧ lo0 ≤ p ∧ p ≤ q ∧ q ≤ hi0 ∧ (p = lo0 ∨ key xs (p - 1) ≤ key xs (md + m - p)) ∧ (q = hi0 ∨ key xs (md + m - 1 - q) ≤ key xs q)) _ ?_ (hi0 - lo0) _ _ ?_
  · intro k T H1 hI
    obtain ⟨p, q, hk, ⟨h0, h1, h2, h3, h4⟩, h18, h19, h20, h21, h22, hx, hmp, hpq, hqb, hP, hQ⟩ := hI
    unfold f75l4
    by_cases hlt : p < q
    · have hh1 : p ≤ (p + q) / 2 ∧ (p + q) / 2 < q := by omega
      have hq0 := hin (q - 1) (by omega) (by omega)
      have hi1 := hin ((p + q) / 2) (by omega) (by omega)
      have hcv : cvI .u64 (.int .i64 ((p : Int) + q)) = some (.int .u64 ((p : Int) + q)) := cv_u _ (by omega) (by omega)
      have hsh : ∀ s, binF .shr s (.int .u64 ((p : Int) + q)) (.int .u64 1) = some (.int .u64 (((p + q) / 2 : Nat) : Int)) := fun s => by
        rw [shr1]; exact congrArg (fun x => some (AV.int .u64 x)) (by omega)
      have hcv2 : cvI .i64 (.int .u64 (((p + q) / 2 : Nat) : Int)) = some (.int .i64 (((p + q) / 2 : Nat) : Int)) := cv_i _ (by omega) (by omega)
      generalize (p + q) / 2 = h at *
      obtain ⟨w, hw⟩ : ∃ w : Nat, w = md + m - 1 := ⟨_, rfl⟩
      rw [← hw] at h22
      have hixA := edIx (i := i) (n := xs.length) (c := c) (op := op) (e := (w : Int) - h) (by omega) (by omega)
      have hixB := edIx (i := i) (n := xs.length) (c := c) (op := op) (e := (h : Int)) (by omega) (by omega)
      rw [show ((w : Int) - h).toNat = w - h from by omega] at hixA
      rw [Int.toNat_natCast] at hixB
      have hrow := hr.hx hx hi
      have hrdA := edRd hrow (k := w - h) (by omega)
      have hrdB := edRd hrow (k := h) (by omega)
      have hbA := hbd.at (k := w - h) (by omega)
      have hbB := hbd.at (k := h) (by omega)
      (repeat' (first | refine rc_reg ?_ | refine rc_seq ?_ | refine rk_done ?_ | refine rn_seq_n ?_ | refine rc_blk ?_ | refine rc_skip ?_ | refine rc_exit ?_ | refine rc_ret ?_ | refine rc_scp ?_ | refine rn_seq_e ?_ | refine rn_seq_r ?_ | refine rn_blk_n ?_ | refine rn_blk_r ?_ | refine rn_blk_e ?_ | refine rn_scp_n ?_ | refine rn_scp_e ?_ | refine rn_scp_r ?_ | refine rk_sk ?_ | refine rn_blk_x (by decide) ?_ | ((first | apply rk_mv' | apply rk_p1 | apply rk_p2 | apply rk_r1 | apply rk_ln | apply rk_ls); · (first | (simp (disch := omega) only [evl, Nat.reduceEqDiff, Nat.reduceAdd, reduceIte, reduceCtorEq, h0, h4, h20, h21, h22, hcv, hsh, hcv2, hixA, hixB, hrdA, hrdB] <;> exact rfl) | exact rfl)) | ((first | apply rc_cond | apply rk_gd); (· (first | (simp (disch := omega) only [evl, Nat.reduceEqDiff, Nat.reduceAdd, reduceIte, reduceCtorEq, h0, h4, h20, h21, h22, hcv, hsh, hcv2, hixA, hixB, hrdA, hrdB] <;> exact rfl) | exact rfl)); all_goals (intro hb; try simp only [bvl, ne_eq, Bool.not_true, Bool.not_false, reduceCtorEq, not_true_eq_false] at hb)) | (refine rk_gd_u ?_ ?_; · (first | (simp (disch := omega) only [evl, Nat.reduceEqDiff, Nat.reduceAdd, reduceIte, reduceCtorEq, h0, h4, h20, h21, h22, hcv, hsh, hcv2, hixA, hixB, hrdA, hrdB] <;> exact rfl) | exact rfl))))
      refine rk_cn (g := 58) (args := [edV (edG xs (w - h)), edV (edG xs h)]) (by (simp (disch := omega) only [evl, Nat.reduceEqDiff, Nat.reduceAdd, reduceIte, reduceCtorEq, h4]); rfl) (cmp_ok H1 _ _ (hx.hide.trans hh) hbA hbB) ?_
      rintro r H2 ⟨hx2, rfl⟩
      simp only [hOut_f]
      by_cases hc : (edG xs (w - h)).1 < (edG xs h).1
      · have hcc : (edG xs (w - h)).1 - (edG xs h).1 < 0 := by omega
        (repeat' (first | refine rc_reg ?_ | refine rc_seq ?_ | refine rk_done ?_ | refine rn_seq_n ?_ | refine rc_blk ?_ | refine rc_skip ?_ | refine rc_exit ?_ | refine rc_ret ?_ | refine rc_scp ?_ | refine rn_seq_e ?_ | refine rn_seq_r ?_ | refine rn_blk_n ?_ | refine rn_blk_r ?_ | refine rn_blk_e ?_ | refine rn_scp_n ?_ | refine rn_scp_e ?_ | refine rn_scp_r ?_ | refine rk_sk ?_ | refine rn_blk_x (by decide) ?_ | ((first | apply rk_mv' | apply rk_p1 | apply rk_p2 | apply rk_r1 | apply rk_ln | apply rk_ls); · (first | (simp (disch := omega) only [evl, Nat.reduceEqDiff, Nat.reduceAdd, reduceIte, reduceCtorEq] <;> exact rfl) | exact rfl)) | ((first | apply rc_cond | apply rk_gd); (· (first | (simp (disch := omega) only [evl, Nat.reduceEqDiff, Nat.reduceAdd, reduceIte, reduceCtorEq] <;> exact rfl) | exact rfl)); all_goals (intro hb; try simp only [bvl, ne_eq, Bool.not_true, Bool.not_false, reduceCtorEq, not_true_eq_false] at hb)) | (refine rk_gd_u ?_ ?_; · (first | (simp (disch := omega) only [evl, Nat.reduceEqDiff, Nat.reduceAdd, reduceIte, reduceCtorEq] <;> exact rfl) | exact rfl))))
        refine rn_nil ?_; refine lpq_n (h - p) (by omega) ?_
        refine ⟨p, h, rfl, ⟨(by (first | (simp (disch := omega) only [evl, Nat.reduceEqDiff, Nat.reduceAdd, reduceIte, reduceCtorEq, h0] <;> exact rfl) | exact rfl)), (by (first | (simp (disch := omega) only [evl, Nat.reduceEqDiff, Nat.reduceAdd, reduceIte, reduceCtorEq, h1] <;> exact rfl) | exact rfl)), (by (first | (simp (disch := omega) only [evl, Nat.reduceEqDiff, Nat.reduceAdd, reduceIte, reduceCtorEq, h2] <;> exact rfl) | exact rfl)), (by (first | (simp (disch := omega) only [evl, Nat.reduceEqDiff, Nat.reduceAdd, reduceIte, reduceCtorEq, h3] <;> exact rfl) | exact rfl)), (by (first | (simp (disch := omega) only [evl, Nat.reduceEqDiff, Nat.reduceAdd, reduceIte, reduceCtorEq, h4] <;> exact rfl) | exact rfl))⟩, (by (first | (simp (disch := omega) only [evl, Nat.reduceEqDiff, Nat.reduceAdd, reduceIte, reduceCtorEq, h18] <;> exact rfl) | exact rfl)), (by (first | (simp (disch := omega) only [evl, Nat.reduceEqDiff, Nat.reduceAdd, reduceIte, reduceCtorEq, h19] <;> exact rfl) | exact rfl)), (by (first | (simp (disch := omega) only [evl, Nat.reduceEqDiff, Nat.reduceAdd, reduceIte, reduceCtorEq, h20] <;> exact rfl) | exact rfl)), (by (first | (simp (disch := omega) only [evl, Nat.reduceEqDiff, Nat.reduceAdd, reduceIte, reduceCtorEq] <;> exact rfl) | exact rfl)), ?_, hx.trans hx2, hmp, by omega, by omega, hP, .inr ?_⟩
        · rw [← hw]; (simp (disch := omega) only [evl, Nat.reduceEqDiff, Nat.reduceAdd, reduceIte, reduceCtorEq, h22])
        · rw [← hw]; show (edG xs (w - h)).1 ≤ (edG xs h).1; omega
      · have hcc : ¬ ((edG xs (w - h)).1 - (edG xs h).1 < 0) := by omega
        (repeat' (first | refine rc_reg ?_ | refine rc_seq ?_ | refine rk_done ?_ | refine rn_seq_n ?_ | refine rc_blk ?_ | refine rc_skip ?_ | refine rc_exit ?_ | refine rc_ret ?_ | refine rc_scp ?_ | refine rn_seq_e ?_ | refine rn_seq_r ?_ | refine rn_blk_n ?_ | refine rn_blk_r ?_ | refine rn_blk_e ?_ | refine rn_scp_n ?_ | refine rn_scp_e ?_ | refine rn_scp_r ?_ | refine rk_sk ?_ | refine rn_blk_x (by decide) ?_ | ((first | apply rk_mv' | apply rk_p1 | apply rk_p2 | apply rk_r1 | apply rk_ln | apply rk_ls); · (first | (simp (disch := omega) only [evl, Nat.reduceEqDiff, Nat.reduceAdd, reduceIte, reduceCtorEq] <;> exact rfl) | exact rfl)) | ((first | apply rc_cond | apply rk_gd); (· (first | (simp (disch := omega) only [evl, Nat.reduceEqDiff, Nat.reduceAdd, reduceIte, reduceCtorEq] <;> exact rfl) | exact rfl)); all_goals (intro hb; try simp only [bvl, ne_eq, Bool.not_true, Bool.not_false, reduceCtorEq, not_true_eq_false] at hb)) | (refine rk_gd_u ?_ ?_; · (first | (simp (disch := omega) only [evl, Nat.reduceEqDiff, Nat.reduceAdd, reduceIte, reduceCtorEq] <;> exact rfl) | exact rfl))))
        refine rn_nil ?_; refine lpq_n (q - (h + 1)) (by omega) ?_
        refine ⟨h + 1, q, rfl, ⟨(by (first | (simp (disch := omega) only [evl, Nat.reduceEqDiff, Nat.reduceAdd, reduceIte, reduceCtorEq, h0] <;> exact rfl) | exact rfl)), (by (first | (simp (disch := omega) only [evl, Nat.reduceEqDiff, Nat.reduceAdd, reduceIte, reduceCtorEq, h1] <;> exact rfl) | exact rfl)), (by (first | (simp (disch := omega) only [evl, Nat.reduceEqDiff, Nat.reduceAdd, reduceIte, reduceCtorEq, h2] <;> exact rfl) | exact rfl)), (by (first | (simp (disch := omega) only [evl, Nat.reduceEqDiff, Nat.reduceAdd, reduceIte, reduceCtorEq, h3] <;> exact rfl) | exact rfl)), (by (first | (simp (disch := omega) only [evl, Nat.reduceEqDiff, Nat.reduceAdd, reduceIte, reduceCtorEq, h4] <;> exact rfl) | exact rfl))⟩, (by (first | (simp (disch := omega) only [evl, Nat.reduceEqDiff, Nat.reduceAdd, reduceIte, reduceCtorEq, h18] <;> exact rfl) | exact rfl)), (by (first | (simp (disch := omega) only [evl, Nat.reduceEqDiff, Nat.reduceAdd, reduceIte, reduceCtorEq, h19] <;> exact rfl) | exact rfl)), (by (first | (simp (disch := omega) only [evl, Nat.reduceEqDiff, Nat.reduceAdd, reduceIte, reduceCtorEq] <;> exact rfl) | exact rfl)), (by (first | (simp (disch := omega) only [evl, Nat.reduceEqDiff, Nat.reduceAdd, reduceIte, reduceCtorEq, h21] <;> exact rfl) | exact rfl)), ?_, hx.trans hx2, by omega, by omega, hqb, .inr ?_, hQ⟩
        · rw [← hw]; (simp (disch := omega) only [evl, Nat.reduceEqDiff, Nat.reduceAdd, reduceIte, reduceCtorEq, h22])
        · show (edG xs (h + 1 - 1)).1 ≤ (edG xs (md + m - (h + 1))).1
          rw [Nat.add_sub_cancel, show md + m - (h + 1) = w - h from by omega]; omega
    · (repeat' (first | refine rc_reg ?_ | refine rc_seq ?_ | refine rk_done ?_ | refine rn_seq_n ?_ | refine rc_blk ?_ | refine rc_skip ?_ | refine rc_exit ?_ | refine rc_ret ?_ | refine rc_scp ?_ | refine rn_seq_e ?_ | refine rn_seq_r ?_ | refine rn_blk_n ?_ | refine rn_blk_r ?_ | refine rn_blk_e ?_ | refine rn_scp_n ?_ | refine rn_scp_e ?_ | refine rn_scp_r ?_ | refine rk_sk ?_ | refine rn_blk_x (by decide) ?_ | ((first | apply rk_mv' | apply rk_p1 | apply rk_p2 | apply rk_r1 | apply rk_ln | apply rk_ls); · (first | (simp (disch := omega) only [evl, Nat.reduceEqDiff, Nat.reduceAdd, reduceIte, reduceCtorEq, h20, h21] <;> exact rfl) | exact rfl)) | ((first | apply rc_cond | apply rk_gd); (· (first | (simp (disch := omega) only [evl, Nat.reduceEqDiff, Nat.reduceAdd, reduceIte, reduceCtorEq, h20, h21] <;> exact rfl) | exact rfl)); all_goals (intro hb; try simp only [bvl, ne_eq, Bool.not_true, Bool.not_false, reduceCtorEq, not_true_eq_false] at hb)) | (refine rk_gd_u ?_ ?_; · (first | (simp (disch := omega) only [evl, Nat.reduceEqDiff, Nat.reduceAdd, reduceIte, reduceCtorEq, h20, h21] <;> exact rfl) | exact rfl))))
      refine rn_nil ?_; refine lpq_e ?_
      obtain rfl : p = q := by omega
      exact ⟨rfl, ⟨(by (first | (simp (disch := omega) only [evl, Nat.reduceEqDiff, Nat.reduceAdd, reduceIte, reduceCtorEq, h0] <;> exact rfl) | exact rfl)), (by (first | (simp (disch := omega) only [evl, Nat.reduceEqDiff, Nat.reduceAdd, reduceIte, reduceCtorEq, h1] <;> exact rfl) | exact rfl)), (by (first | (simp (disch := omega) only [evl, Nat.reduceEqDiff, Nat.reduceAdd, reduceIte, reduceCtorEq, h2] <;> exact rfl) | exact rfl)), (by (first | (simp (disch := omega) only [evl, Nat.reduceEqDiff, Nat.reduceAdd, reduceIte, reduceCtorEq, h3] <;> exact rfl) | exact rfl)), (by (first | (simp (disch := omega) only [evl, Nat.reduceEqDiff, Nat.reduceAdd, reduceIte, reduceCtorEq, h4] <;> exact rfl) | exact rfl))⟩, (by (first | (simp (disch := omega) only [evl, Nat.reduceEqDiff, Nat.reduceAdd, reduceIte, reduceCtorEq, h18] <;> exact rfl) | exact rfl)), (by (first | (simp (disch := omega) only [evl, Nat.reduceEqDiff, Nat.reduceAdd, reduceIte, reduceCtorEq, h19] <;> exact rfl) | exact rfl)), hx, p, (by (first | (simp (disch := omega) only [evl, Nat.reduceEqDiff, Nat.reduceAdd, reduceIte, reduceCtorEq, h20] <;> exact rfl) | exact rfl)), hmp, hqb, hP, hQ⟩
  · exact ⟨lo0, hi0, rfl, hT, h18, h19, h20, h21, h22, HX.refl _, Nat.le_refl _, hlh, Nat.le_refl _, .inl rfl, .inl rfl⟩
end Go.Proofs.Ytnkomaedmblemaa
