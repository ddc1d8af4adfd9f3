import Derived.Test.YtnkomaedmblemaaStD
import Derived.Test.YtnkomaedmblemaaCtB
import Derived.Test.YtnkomaedmblemaaExB
set_option linter.unusedSimpArgs false
set_option linter.unusedVariables false
set_option maxRecDepth 100000
namespace Go.Proofs.Ytnkomaedmblemaa
open Go.Ev Exl

theorem MkR.tup {H H' : AH} {f : Bool → Bool → Bool} {l m : List P} {r : AV} (h : MkR H f l m r H') : ∃ a e, r = .tup [a, .int .i64 e] := by
  rcases h.2 with ⟨_, rfl⟩ | ⟨_, _, s, rfl, _⟩ <;> exact ⟨_, _, rfl⟩
theorem mk_key {H1 H2 H3 : AH} {f : Bool → Bool → Bool} {l m : List P} {r r' : AV} (h1 : MkR H1 f l m r H2) (h2 : MkR H2 f l m r' H3) :
    HX H1 H2 ∧ HX H2 H3 ∧ ∃ (e : Int) (xs : List (Int × Int)) (a b : AV), r = .tup [a, .int .i64 e] ∧ r' = .tup [b, .int .i64 e] ∧ Ap H2 a xs.length (exC xs) 43 2 H1.next ∧ Ap H3 b xs.length (exC xs) 43 2 H2.next ∧ xs.length ≤ 4096 := by
  obtain ⟨hx, h1⟩ := h1
  obtain ⟨hx', h2⟩ := h2
  refine ⟨hx, hx', ?_⟩
  rcases h1 with ⟨hno, rfl⟩ | ⟨hok, hom, s, rfl, hap⟩
  · rcases h2 with ⟨_, rfl⟩ | ⟨hok, hom, _⟩
    · exact ⟨2, [], .nilSl, .nilSl, rfl, rfl, Ap.nil _ _ _ _, Ap.nil _ _ _ _, Nat.zero_le _⟩
    · exact absurd ⟨hok, hom⟩ hno
  · rcases h2 with ⟨hno, _⟩ | ⟨_, _, o, rfl, hap2⟩
    · exact absurd ⟨hok, hom⟩ hno
    · exact ⟨0, mkX f l m, s, o, rfl, rfl, hap, hap2, runsTo_len _ 4096⟩

set_option maxHeartbeats 16000000 in
theorem makes_ok (H : AH) (v u : AV) (l m : List P) (hs : SlX H v l) (hu : SlX H u m) (hh : H.hide = []) (hlo : H.lo ≤ H.next) (hl : l.length ≤ 9223372036854775807) (hm : m.length ≤ 9223372036854775807) :
    FnE look 3 [v, u] H fun r H' => r = .bool true ∧ HX H H' := by
  refine fn_intro f3_eq (noext rfl) rfl ?_
  unfold f3c
  have hlen := fun H' => len_el (H' := H') u22 hs.is
  have hlen2 := fun H' => len_el (H' := H') u22 hu.is
  by_cases hbig : 300 < l.length
  · (repeat' (first | refine rc_reg ?_ | refine rc_seq ?_ | refine rk_done ?_ | refine rn_seq_n ?_ | refine rc_blk ?_ | refine rc_skip ?_ | refine rc_exit ?_ | refine rc_ret ?_ | refine rc_scp ?_ | refine rn_seq_e ?_ | refine rn_seq_r ?_ | refine rn_blk_n ?_ | refine rn_blk_r ?_ | refine rn_blk_e ?_ | refine rn_scp_n ?_ | refine rn_scp_e ?_ | refine rn_scp_r ?_ | refine rk_sk ?_ | refine rn_blk_x (by decide) ?_ | ((first | apply rk_mv' | apply rk_p1 | apply rk_p2 | apply rk_r1 | apply rk_ln | apply rk_ls); · (first | (simp (disch := omega) only [evl, Nat.reduceEqDiff, Nat.reduceAdd, reduceIte, reduceCtorEq, hlen, hlen2] <;> exact rfl) | exact rfl)) | ((first | apply rc_cond | apply rk_gd); (· (first | (simp (disch := omega) only [evl, Nat.reduceEqDiff, Nat.reduceAdd, reduceIte, reduceCtorEq, hlen, hlen2] <;> exact rfl) | exact rfl)); all_goals (intro hb; try simp only [bvl, ne_eq, Bool.not_true, Bool.not_false, reduceCtorEq, not_true_eq_false] at hb)) | (refine rk_gd_u ?_ ?_; · (first | (simp (disch := omega) only [evl, Nat.reduceEqDiff, Nat.reduceAdd, reduceIte, reduceCtorEq, hlen, hlen2] <;> exact rfl) | exact rfl))))
    refine rk_cl (by (simp (disch := omega) only [evl, Nat.reduceEqDiff, Nat.reduceAdd, reduceIte, reduceCtorEq]); exact awake_ok H) ?_
    rintro r H1 ⟨rfl, rfl⟩
    simp only [hOut_f]
    (repeat' (first | refine rc_reg ?_ | refine rc_seq ?_ | refine rk_done ?_ | refine rn_seq_n ?_ | refine rc_blk ?_ | refine rc_skip ?_ | refine rc_exit ?_ | refine rc_ret ?_ | refine rc_scp ?_ | refine rn_seq_e ?_ | refine rn_seq_r ?_ | refine rn_blk_n ?_ | refine rn_blk_r ?_ | refine rn_blk_e ?_ | refine rn_scp_n ?_ | refine rn_scp_e ?_ | refine rn_scp_r ?_ | refine rk_sk ?_ | refine rn_blk_x (by decide) ?_ | ((first | apply rk_mv' | apply rk_p1 | apply rk_p2 | apply rk_r1 | apply rk_ln | apply rk_ls); · (first | (simp (disch := omega) only [evl, Nat.reduceEqDiff, Nat.reduceAdd, reduceIte, reduceCtorEq] <;> exact rfl) | exact rfl)) | ((first | apply rc_cond | apply rk_gd); (· (first | (simp (disch := omega) only [evl, Nat.reduceEqDiff, Nat.reduceAdd, reduceIte, reduceCtorEq] <;> exact rfl) | exact rfl)); all_goals (intro hb; try simp only [bvl, ne_eq, Bool.not_true, Bool.not_false, reduceCtorEq, not_true_eq_false] at hb)) | (refine rk_gd_u ?_ ?_; · (first | (simp (disch := omega) only [evl, Nat.reduceEqDiff, Nat.reduceAdd, reduceIte, reduceCtorEq] <;> exact rfl) | exact rfl))))
    refine rn_nil ?_; refine fq_ret (resV_1 _ _) ⟨?_, HX.refl _⟩
    (simp (disch := omega) only [evl, Nat.reduceEqDiff, Nat.reduceAdd, reduceIte, reduceCtorEq])
  by_cases hbig2 : 300 < m.length
  · (repeat' (first | refine rc_reg ?_ | refine rc_seq ?_ | refine rk_done ?_ | refine rn_seq_n ?_ | refine rc_blk ?_ | refine rc_skip ?_ | refine rc_exit ?_ | refine rc_ret ?_ | refine rc_scp ?_ | refine rn_seq_e ?_ | refine rn_seq_r ?_ | refine rn_blk_n ?_ | refine rn_blk_r ?_ | refine rn_blk_e ?_ | refine rn_scp_n ?_ | refine rn_scp_e ?_ | refine rn_scp_r ?_ | refine rk_sk ?_ | refine rn_blk_x (by decide) ?_ | ((first | apply rk_mv' | apply rk_p1 | apply rk_p2 | apply rk_r1 | apply rk_ln | apply rk_ls); · (first | (simp (disch := omega) only [evl, Nat.reduceEqDiff, Nat.reduceAdd, reduceIte, reduceCtorEq, hlen, hlen2] <;> exact rfl) | exact rfl)) | ((first | apply rc_cond | apply rk_gd); (· (first | (simp (disch := omega) only [evl, Nat.reduceEqDiff, Nat.reduceAdd, reduceIte, reduceCtorEq, hlen, hlen2] <;> exact rfl) | exact rfl)); all_goals (intro hb; try simp only [bvl, ne_eq, Bool.not_true, Bool.not_false, reduceCtorEq, not_true_eq_false] at hb)) | (refine rk_gd_u ?_ ?_; · (first | (simp (disch := omega) only [evl, Nat.reduceEqDiff, Nat.reduceAdd, reduceIte, reduceCtorEq, hlen, hlen2] <;> exact rfl) | exact rfl))))
    refine rk_cl (by (simp (disch := omega) only [evl, Nat.reduceEqDiff, Nat.reduceAdd, reduceIte, reduceCtorEq]); exact awake_ok H) ?_
    rintro r H1 ⟨rfl, rfl⟩
    simp only [hOut_f]
    (repeat' (first | refine rc_reg ?_ | refine rc_seq ?_ | refine rk_done ?_ | refine rn_seq_n ?_ | refine rc_blk ?_ | refine rc_skip ?_ | refine rc_exit ?_ | refine rc_ret ?_ | refine rc_scp ?_ | refine rn_seq_e ?_ | refine rn_seq_r ?_ | refine rn_blk_n ?_ | refine rn_blk_r ?_ | refine rn_blk_e ?_ | refine rn_scp_n ?_ | refine rn_scp_e ?_ | refine rn_scp_r ?_ | refine rk_sk ?_ | refine rn_blk_x (by decide) ?_ | ((first | apply rk_mv' | apply rk_p1 | apply rk_p2 | apply rk_r1 | apply rk_ln | apply rk_ls); · (first | (simp (disch := omega) only [evl, Nat.reduceEqDiff, Nat.reduceAdd, reduceIte, reduceCtorEq] <;> exact rfl) | exact rfl)) | ((first | apply rc_cond | apply rk_gd); (· (first | (simp (disch := omega) only [evl, Nat.reduceEqDiff, Nat.reduceAdd, reduceIte, reduceCtorEq] <;> exact rfl) | exact rfl)); all_goals (intro hb; try simp only [bvl, ne_eq, Bool.not_true, Bool.not_false, reduceCtorEq, not_true_eq_false] at hb)) | (refine rk_gd_u ?_ ?_; · (first | (simp (disch := omega) only [evl, Nat.reduceEqDiff, Nat.reduceAdd, reduceIte, reduceCtorEq] <;> exact rfl) | exact rfl))))
    refine rn_nil ?_; refine fq_ret (resV_1 _ _) ⟨?_, HX.refl _⟩
    (simp (disch := omega) only [evl, Nat.reduceEqDiff, Nat.reduceAdd, reduceIte, reduceCtorEq])
  (repeat' (first | refine rc_reg ?_ | refine rc_seq ?_ | refine rk_done ?_ | refine rn_seq_n ?_ | refine rc_blk ?_ | refine rc_skip ?_ | refine rc_exit ?_ | refine rc_ret ?_ | refine rc_scp ?_ | refine rn_seq_e ?_ | refine rn_seq_r ?_ | refine rn_blk_n ?_ | refine rn_blk_r ?_ | refine rn_blk_e ?_ | refine rn_scp_n ?_ | refine rn_scp_e ?_ | refine rn_scp_r ?_ | refine rk_sk ?_ | refine rn_blk_x (by decide) ?_ | ((first | apply rk_mv' | apply rk_p1 | apply rk_p2 | apply rk_r1 | apply rk_ln | apply rk_ls); · (first | (simp (disch := omega) only [evl, Nat.reduceEqDiff, Nat.reduceAdd, reduceIte, reduceCtorEq, hlen, hlen2] <;> exact rfl) | exact rfl)) | ((first | apply rc_cond | apply rk_gd); (· (first | (simp (disch := omega) only [evl, Nat.reduceEqDiff, Nat.reduceAdd, reduceIte, reduceCtorEq, hlen, hlen2] <;> exact rfl) | exact rfl)); all_goals (intro hb; try simp only [bvl, ne_eq, Bool.not_true, Bool.not_false, reduceCtorEq, not_true_eq_false] at hb)) | (refine rk_gd_u ?_ ?_; · (first | (simp (disch := omega) only [evl, Nat.reduceEqDiff, Nat.reduceAdd, reduceIte, reduceCtorEq, hlen, hlen2] <;> exact rfl) | exact rfl))))
  refine rk_cl (by (simp (disch := omega) only [evl, Nat.reduceEqDiff, Nat.reduceAdd, reduceIte, reduceCtorEq]); exact copyX_ok H v l hs hh hlo (by omega)) ?_
  rintro r H1 ⟨hx1, i0, c0, op0, op0', e0, z0, rfl, hr1, hi0, hi1⟩
  simp only [hOut_f]
  have hn1 := hx1.next
  (repeat' (first | refine rc_reg ?_ | refine rc_seq ?_ | refine rk_done ?_ | refine rn_seq_n ?_ | refine rc_blk ?_ | refine rc_skip ?_ | refine rc_exit ?_ | refine rc_ret ?_ | refine rc_scp ?_ | refine rn_seq_e ?_ | refine rn_seq_r ?_ | refine rn_blk_n ?_ | refine rn_blk_r ?_ | refine rn_blk_e ?_ | refine rn_scp_n ?_ | refine rn_scp_e ?_ | refine rn_scp_r ?_ | refine rk_sk ?_ | refine rn_blk_x (by decide) ?_ | ((first | apply rk_mv' | apply rk_p1 | apply rk_p2 | apply rk_r1 | apply rk_ln | apply rk_ls); · (first | (simp (disch := omega) only [evl, Nat.reduceEqDiff, Nat.reduceAdd, reduceIte, reduceCtorEq] <;> exact rfl) | exact rfl)) | ((first | apply rc_cond | apply rk_gd); (· (first | (simp (disch := omega) only [evl, Nat.reduceEqDiff, Nat.reduceAdd, reduceIte, reduceCtorEq] <;> exact rfl) | exact rfl)); all_goals (intro hb; try simp only [bvl, ne_eq, Bool.not_true, Bool.not_false, reduceCtorEq, not_true_eq_false] at hb)) | (refine rk_gd_u ?_ ?_; · (first | (simp (disch := omega) only [evl, Nat.reduceEqDiff, Nat.reduceAdd, reduceIte, reduceCtorEq] <;> exact rfl) | exact rfl))))
  refine rk_cl (by (simp (disch := omega) only [evl, Nat.reduceEqDiff, Nat.reduceAdd, reduceIte, reduceCtorEq]); exact copyX_ok H1 u m (hu.hx hx1) (hx1.hide.trans hh) (by rw [hx1.lo]; omega) (by omega)) ?_
  rintro r H2 ⟨hx2, i1, c1, op1, op1', e1, z1, rfl, hr2, hi2, hi3⟩
  simp only [hOut_f]
  have hn2 := hx2.next
  have hxA := hx1.trans hx2
  -- the four lists stay
  have kv : ∀ H', HP (· < H2.next) H2 H' → SlX H' v l := fun H' hp => SlZ.hp (hs.hx hxA) hp fun i o c op hv => by have := SlZ.lt hs hv; omega
  have ku : ∀ H', HP (· < H2.next) H2 H' → SlX H' u m := fun H' hp => SlZ.hp (hu.hx hxA) hp fun i o c op hv => by have := SlZ.lt hu hv; omega
  have hin1 : SlX H1 (.sl i0 0 l.length c0 op0) l := hr1.slZ hi1 (exC_len l)
  have kin : ∀ H', HP (· < H2.next) H2 H' → SlX H' (.sl i0 0 l.length c0 op0) l := fun H' hp => SlZ.hp (hin1.hx hx2) hp fun i o c op hv => by cases hv; omega
  have hby2 : SlX H2 (.sl i1 0 m.length c1 op1) m := hr2.slZ hi3 (exC_len m)
  have kby : ∀ H', HP (· < H2.next) H2 H' → SlX H' (.sl i1 0 m.length c1 op1) m := fun H' hp => SlZ.hp hby2 hp fun i o c op hv => by cases hv; omega
  have khh : ∀ H', HP (· < H2.next) H2 H' → H'.hide = [] := fun H' hp => hp.hide.trans (hxA.hide.trans hh)
  have klo : ∀ H', HP (· < H2.next) H2 H' → H'.lo ≤ H2.next ∧ H'.lo ≤ H'.next := fun H' hp => by
    have := hp.next
    rw [hp.lo, hxA.lo]; omega
  have hpT0 : HP (· < H2.next) H2 H2 := HP.refl _ _
  clear hr1 hr2 hin1 hby2

  (repeat' (first | refine rc_reg ?_ | refine rc_seq ?_ | refine rk_done ?_ | refine rn_seq_n ?_ | refine rc_blk ?_ | refine rc_skip ?_ | refine rc_exit ?_ | refine rc_ret ?_ | refine rc_scp ?_ | refine rn_seq_e ?_ | refine rn_seq_r ?_ | refine rn_blk_n ?_ | refine rn_blk_r ?_ | refine rn_blk_e ?_ | refine rn_scp_n ?_ | refine rn_scp_e ?_ | refine rn_scp_r ?_ | refine rk_sk ?_ | refine rn_blk_x (by decide) ?_ | ((first | apply rk_mv' | apply rk_p1 | apply rk_p2 | apply rk_r1 | apply rk_ln | apply rk_ls); · (first | (simp (disch := omega) only [evl, Nat.reduceEqDiff, Nat.reduceAdd, reduceIte, reduceCtorEq] <;> exact rfl) | exact rfl)) | ((first | apply rc_cond | apply rk_gd); (· (first | (simp (disch := omega) only [evl, Nat.reduceEqDiff, Nat.reduceAdd, reduceIte, reduceCtorEq] <;> exact rfl) | exact rfl)); all_goals (intro hb; try simp only [bvl, ne_eq, Bool.not_true, Bool.not_false, reduceCtorEq, not_true_eq_false] at hb)) | (refine rk_gd_u ?_ ?_; · (first | (simp (disch := omega) only [evl, Nat.reduceEqDiff, Nat.reduceAdd, reduceIte, reduceCtorEq] <;> exact rfl) | exact rfl))))
  refine rk_cl (by (simp (disch := omega) only [evl, Nat.reduceEqDiff, Nat.reduceAdd, reduceIte, reduceCtorEq]); exact add_ok H2 _ _ l m (kin _ hpT0) (kby _ hpT0) (khh _ hpT0) (klo _ hpT0).2 (by omega) (by omega)) ?_
  rintro r H3a ⟨hmk, _⟩
  simp only [hOut_f]
  obtain ⟨a0, x0, rfl⟩ := hmk.tup
  have hpA0 : HP (· < H2.next) H2 H3a := hpT0.trans (hmk.1.hp fun _ => True) fun j hj h => ⟨h, trivial⟩
  (repeat' (first | refine rc_reg ?_ | refine rc_seq ?_ | refine rk_done ?_ | refine rn_seq_n ?_ | refine rc_blk ?_ | refine rc_skip ?_ | refine rc_exit ?_ | refine rc_ret ?_ | refine rc_scp ?_ | refine rn_seq_e ?_ | refine rn_seq_r ?_ | refine rn_blk_n ?_ | refine rn_blk_r ?_ | refine rn_blk_e ?_ | refine rn_scp_n ?_ | refine rn_scp_e ?_ | refine rn_scp_r ?_ | refine rk_sk ?_ | refine rn_blk_x (by decide) ?_ | ((first | apply rk_mv' | apply rk_p1 | apply rk_p2 | apply rk_r1 | apply rk_ln | apply rk_ls); · (first | (simp (disch := omega) only [evl, Nat.reduceEqDiff, Nat.reduceAdd, reduceIte, reduceCtorEq] <;> exact rfl) | exact rfl)) | ((first | apply rc_cond | apply rk_gd); (· (first | (simp (disch := omega) only [evl, Nat.reduceEqDiff, Nat.reduceAdd, reduceIte, reduceCtorEq] <;> exact rfl) | exact rfl)); all_goals (intro hb; try simp only [bvl, ne_eq, Bool.not_true, Bool.not_false, reduceCtorEq, not_true_eq_false] at hb)) | (refine rk_gd_u ?_ ?_; · (first | (simp (disch := omega) only [evl, Nat.reduceEqDiff, Nat.reduceAdd, reduceIte, reduceCtorEq] <;> exact rfl) | exact rfl))))
  refine rk_cl (by (simp (disch := omega) only [evl, Nat.reduceEqDiff, Nat.reduceAdd, reduceIte, reduceCtorEq]); exact addRef_ok H3a v u l m (kv _ hpA0) (ku _ hpA0) (khh _ hpA0) (klo _ hpA0).2 (by omega) (by omega)) ?_
  intro r H3b hmk'
  simp only [hOut_f]
  have hpB0 : HP (· < H2.next) H2 H3b := hpA0.trans (hmk'.1.hp fun _ => True) fun j hj h => ⟨h, trivial⟩
  obtain ⟨_, hxb0, e0', xs0, a0', b0, hra, rfl, hapa0, hapb0, hxl0⟩ := mk_key hmk hmk'
  cases hra
  clear hmk hmk'
  have hapa0 := hapa0.hx hxb0
  (repeat' (first | refine rc_reg ?_ | refine rc_seq ?_ | refine rk_done ?_ | refine rn_seq_n ?_ | refine rc_blk ?_ | refine rc_skip ?_ | refine rc_exit ?_ | refine rc_ret ?_ | refine rc_scp ?_ | refine rn_seq_e ?_ | refine rn_seq_r ?_ | refine rn_blk_n ?_ | refine rn_blk_r ?_ | refine rn_blk_e ?_ | refine rn_scp_n ?_ | refine rn_scp_e ?_ | refine rn_scp_r ?_ | refine rk_sk ?_ | refine rn_blk_x (by decide) ?_ | ((first | apply rk_mv' | apply rk_p1 | apply rk_p2 | apply rk_r1 | apply rk_ln | apply rk_ls); · (first | (simp (disch := omega) only [evl, Nat.reduceEqDiff, Nat.reduceAdd, reduceIte, reduceCtorEq] <;> exact rfl) | exact rfl)) | ((first | apply rc_cond | apply rk_gd); (· (first | (simp (disch := omega) only [evl, Nat.reduceEqDiff, Nat.reduceAdd, reduceIte, reduceCtorEq] <;> exact rfl) | exact rfl)); all_goals (intro hb; try simp only [bvl, ne_eq, Bool.not_true, Bool.not_false, reduceCtorEq, not_true_eq_false] at hb)) | (refine rk_gd_u ?_ ?_; · (first | (simp (disch := omega) only [evl, Nat.reduceEqDiff, Nat.reduceAdd, reduceIte, reduceCtorEq] <;> exact rfl) | exact rfl))))
  refine rk_cl (by (simp (disch := omega) only [evl, Nat.reduceEqDiff, Nat.reduceAdd, reduceIte, reduceCtorEq]); exact sameX_ok H3b a0 b0 xs0 xs0 hapa0.slZ hapb0.slZ (by omega) (by omega)) ?_
  rintro r H3c ⟨rfl, rfl⟩
  simp only [hOut_f, decide_true]

  (repeat' (first | refine rc_reg ?_ | refine rc_seq ?_ | refine rk_done ?_ | refine rn_seq_n ?_ | refine rc_blk ?_ | refine rc_skip ?_ | refine rc_exit ?_ | refine rc_ret ?_ | refine rc_scp ?_ | refine rn_seq_e ?_ | refine rn_seq_r ?_ | refine rn_blk_n ?_ | refine rn_blk_r ?_ | refine rn_blk_e ?_ | refine rn_scp_n ?_ | refine rn_scp_e ?_ | refine rn_scp_r ?_ | refine rk_sk ?_ | refine rn_blk_x (by decide) ?_ | ((first | apply rk_mv' | apply rk_p1 | apply rk_p2 | apply rk_r1 | apply rk_ln | apply rk_ls); · (first | (simp (disch := omega) only [evl, Nat.reduceEqDiff, Nat.reduceAdd, reduceIte, reduceCtorEq] <;> exact rfl) | exact rfl)) | ((first | apply rc_cond | apply rk_gd); (· (first | (simp (disch := omega) only [evl, Nat.reduceEqDiff, Nat.reduceAdd, reduceIte, reduceCtorEq] <;> exact rfl) | exact rfl)); all_goals (intro hb; try simp only [bvl, ne_eq, Bool.not_true, Bool.not_false, reduceCtorEq, not_true_eq_false] at hb)) | (refine rk_gd_u ?_ ?_; · (first | (simp (disch := omega) only [evl, Nat.reduceEqDiff, Nat.reduceAdd, reduceIte, reduceCtorEq] <;> exact rfl) | exact rfl))))
  refine rk_cl (by (simp (disch := omega) only [evl, Nat.reduceEqDiff, Nat.reduceAdd, reduceIte, reduceCtorEq]); exact overX_ok H3c a0 xs0.length H2.next (exC xs0) hapa0 (khh _ hpB0) (by have := (klo _ hpB0).1; have := hpT0.next; omega) (by omega)) ?_
  intro r H3e hpo0
  simp only [hOut_f]
  have hpT1 : HP (· < H2.next) H2 H3e := hpB0.trans hpo0 fun j hj h => ⟨h, Ap.blk hapa0 (by have := hpT0.next; omega)⟩

  (repeat' (first | refine rc_reg ?_ | refine rc_seq ?_ | refine rk_done ?_ | refine rn_seq_n ?_ | refine rc_blk ?_ | refine rc_skip ?_ | refine rc_exit ?_ | refine rc_ret ?_ | refine rc_scp ?_ | refine rn_seq_e ?_ | refine rn_seq_r ?_ | refine rn_blk_n ?_ | refine rn_blk_r ?_ | refine rn_blk_e ?_ | refine rn_scp_n ?_ | refine rn_scp_e ?_ | refine rn_scp_r ?_ | refine rk_sk ?_ | refine rn_blk_x (by decide) ?_ | ((first | apply rk_mv' | apply rk_p1 | apply rk_p2 | apply rk_r1 | apply rk_ln | apply rk_ls); · (first | (simp (disch := omega) only [evl, Nat.reduceEqDiff, Nat.reduceAdd, reduceIte, reduceCtorEq] <;> exact rfl) | exact rfl)) | ((first | apply rc_cond | apply rk_gd); (· (first | (simp (disch := omega) only [evl, Nat.reduceEqDiff, Nat.reduceAdd, reduceIte, reduceCtorEq] <;> exact rfl) | exact rfl)); all_goals (intro hb; try simp only [bvl, ne_eq, Bool.not_true, Bool.not_false, reduceCtorEq, not_true_eq_false] at hb)) | (refine rk_gd_u ?_ ?_; · (first | (simp (disch := omega) only [evl, Nat.reduceEqDiff, Nat.reduceAdd, reduceIte, reduceCtorEq] <;> exact rfl) | exact rfl))))
  refine rk_cl (by (simp (disch := omega) only [evl, Nat.reduceEqDiff, Nat.reduceAdd, reduceIte, reduceCtorEq]); exact cut_ok H3e _ _ l m (kin _ hpT1) (kby _ hpT1) (khh _ hpT1) (klo _ hpT1).2 (by omega) (by omega)) ?_
  rintro r H4a ⟨hmk, _⟩
  simp only [hOut_f]
  obtain ⟨a1, x1, rfl⟩ := hmk.tup
  have hpA1 : HP (· < H2.next) H2 H4a := hpT1.trans (hmk.1.hp fun _ => True) fun j hj h => ⟨h, trivial⟩
  (repeat' (first | refine rc_reg ?_ | refine rc_seq ?_ | refine rk_done ?_ | refine rn_seq_n ?_ | refine rc_blk ?_ | refine rc_skip ?_ | refine rc_exit ?_ | refine rc_ret ?_ | refine rc_scp ?_ | refine rn_seq_e ?_ | refine rn_seq_r ?_ | refine rn_blk_n ?_ | refine rn_blk_r ?_ | refine rn_blk_e ?_ | refine rn_scp_n ?_ | refine rn_scp_e ?_ | refine rn_scp_r ?_ | refine rk_sk ?_ | refine rn_blk_x (by decide) ?_ | ((first | apply rk_mv' | apply rk_p1 | apply rk_p2 | apply rk_r1 | apply rk_ln | apply rk_ls); · (first | (simp (disch := omega) only [evl, Nat.reduceEqDiff, Nat.reduceAdd, reduceIte, reduceCtorEq] <;> exact rfl) | exact rfl)) | ((first | apply rc_cond | apply rk_gd); (· (first | (simp (disch := omega) only [evl, Nat.reduceEqDiff, Nat.reduceAdd, reduceIte, reduceCtorEq] <;> exact rfl) | exact rfl)); all_goals (intro hb; try simp only [bvl, ne_eq, Bool.not_true, Bool.not_false, reduceCtorEq, not_true_eq_false] at hb)) | (refine rk_gd_u ?_ ?_; · (first | (simp (disch := omega) only [evl, Nat.reduceEqDiff, Nat.reduceAdd, reduceIte, reduceCtorEq] <;> exact rfl) | exact rfl))))
  refine rk_cl (by (simp (disch := omega) only [evl, Nat.reduceEqDiff, Nat.reduceAdd, reduceIte, reduceCtorEq]); exact cutRef_ok H4a v u l m (kv _ hpA1) (ku _ hpA1) (khh _ hpA1) (klo _ hpA1).2 (by omega) (by omega)) ?_
  intro r H4b hmk'
  simp only [hOut_f]
  have hpB1 : HP (· < H2.next) H2 H4b := hpA1.trans (hmk'.1.hp fun _ => True) fun j hj h => ⟨h, trivial⟩
  obtain ⟨_, hxb1, e1', xs1, a1', b1, hra, rfl, hapa1, hapb1, hxl1⟩ := mk_key hmk hmk'
  cases hra
  clear hmk hmk'
  have hapa1 := hapa1.hx hxb1
  (repeat' (first | refine rc_reg ?_ | refine rc_seq ?_ | refine rk_done ?_ | refine rn_seq_n ?_ | refine rc_blk ?_ | refine rc_skip ?_ | refine rc_exit ?_ | refine rc_ret ?_ | refine rc_scp ?_ | refine rn_seq_e ?_ | refine rn_seq_r ?_ | refine rn_blk_n ?_ | refine rn_blk_r ?_ | refine rn_blk_e ?_ | refine rn_scp_n ?_ | refine rn_scp_e ?_ | refine rn_scp_r ?_ | refine rk_sk ?_ | refine rn_blk_x (by decide) ?_ | ((first | apply rk_mv' | apply rk_p1 | apply rk_p2 | apply rk_r1 | apply rk_ln | apply rk_ls); · (first | (simp (disch := omega) only [evl, Nat.reduceEqDiff, Nat.reduceAdd, reduceIte, reduceCtorEq] <;> exact rfl) | exact rfl)) | ((first | apply rc_cond | apply rk_gd); (· (first | (simp (disch := omega) only [evl, Nat.reduceEqDiff, Nat.reduceAdd, reduceIte, reduceCtorEq] <;> exact rfl) | exact rfl)); all_goals (intro hb; try simp only [bvl, ne_eq, Bool.not_true, Bool.not_false, reduceCtorEq, not_true_eq_false] at hb)) | (refine rk_gd_u ?_ ?_; · (first | (simp (disch := omega) only [evl, Nat.reduceEqDiff, Nat.reduceAdd, reduceIte, reduceCtorEq] <;> exact rfl) | exact rfl))))
  refine rk_cl (by (simp (disch := omega) only [evl, Nat.reduceEqDiff, Nat.reduceAdd, reduceIte, reduceCtorEq]); exact sameX_ok H4b a1 b1 xs1 xs1 hapa1.slZ hapb1.slZ (by omega) (by omega)) ?_
  rintro r H4c ⟨rfl, rfl⟩
  simp only [hOut_f, decide_true]

  (repeat' (first | refine rc_reg ?_ | refine rc_seq ?_ | refine rk_done ?_ | refine rn_seq_n ?_ | refine rc_blk ?_ | refine rc_skip ?_ | refine rc_exit ?_ | refine rc_ret ?_ | refine rc_scp ?_ | refine rn_seq_e ?_ | refine rn_seq_r ?_ | refine rn_blk_n ?_ | refine rn_blk_r ?_ | refine rn_blk_e ?_ | refine rn_scp_n ?_ | refine rn_scp_e ?_ | refine rn_scp_r ?_ | refine rk_sk ?_ | refine rn_blk_x (by decide) ?_ | ((first | apply rk_mv' | apply rk_p1 | apply rk_p2 | apply rk_r1 | apply rk_ln | apply rk_ls); · (first | (simp (disch := omega) only [evl, Nat.reduceEqDiff, Nat.reduceAdd, reduceIte, reduceCtorEq] <;> exact rfl) | exact rfl)) | ((first | apply rc_cond | apply rk_gd); (· (first | (simp (disch := omega) only [evl, Nat.reduceEqDiff, Nat.reduceAdd, reduceIte, reduceCtorEq] <;> exact rfl) | exact rfl)); all_goals (intro hb; try simp only [bvl, ne_eq, Bool.not_true, Bool.not_false, reduceCtorEq, not_true_eq_false] at hb)) | (refine rk_gd_u ?_ ?_; · (first | (simp (disch := omega) only [evl, Nat.reduceEqDiff, Nat.reduceAdd, reduceIte, reduceCtorEq] <;> exact rfl) | exact rfl))))
  refine rk_cl (by (simp (disch := omega) only [evl, Nat.reduceEqDiff, Nat.reduceAdd, reduceIte, reduceCtorEq]); exact overX_ok H4c a1 xs1.length H3e.next (exC xs1) hapa1 (khh _ hpB1) (by have := (klo _ hpB1).1; have := hpT1.next; omega) (by omega)) ?_
  intro r H4e hpo1
  simp only [hOut_f]
  have hpT2 : HP (· < H2.next) H2 H4e := hpB1.trans hpo1 fun j hj h => ⟨h, Ap.blk hapa1 (by have := hpT1.next; omega)⟩

  (repeat' (first | refine rc_reg ?_ | refine rc_seq ?_ | refine rk_done ?_ | refine rn_seq_n ?_ | refine rc_blk ?_ | refine rc_skip ?_ | refine rc_exit ?_ | refine rc_ret ?_ | refine rc_scp ?_ | refine rn_seq_e ?_ | refine rn_seq_r ?_ | refine rn_blk_n ?_ | refine rn_blk_r ?_ | refine rn_blk_e ?_ | refine rn_scp_n ?_ | refine rn_scp_e ?_ | refine rn_scp_r ?_ | refine rk_sk ?_ | refine rn_blk_x (by decide) ?_ | ((first | apply rk_mv' | apply rk_p1 | apply rk_p2 | apply rk_r1 | apply rk_ln | apply rk_ls); · (first | (simp (disch := omega) only [evl, Nat.reduceEqDiff, Nat.reduceAdd, reduceIte, reduceCtorEq] <;> exact rfl) | exact rfl)) | ((first | apply rc_cond | apply rk_gd); (· (first | (simp (disch := omega) only [evl, Nat.reduceEqDiff, Nat.reduceAdd, reduceIte, reduceCtorEq] <;> exact rfl) | exact rfl)); all_goals (intro hb; try simp only [bvl, ne_eq, Bool.not_true, Bool.not_false, reduceCtorEq, not_true_eq_false] at hb)) | (refine rk_gd_u ?_ ?_; · (first | (simp (disch := omega) only [evl, Nat.reduceEqDiff, Nat.reduceAdd, reduceIte, reduceCtorEq] <;> exact rfl) | exact rfl))))
  refine rk_cl (by (simp (disch := omega) only [evl, Nat.reduceEqDiff, Nat.reduceAdd, reduceIte, reduceCtorEq]); exact both_ok H4e _ _ l m (kin _ hpT2) (kby _ hpT2) (khh _ hpT2) (klo _ hpT2).2 (by omega) (by omega)) ?_
  rintro r H5a ⟨hmk, _⟩
  simp only [hOut_f]
  obtain ⟨a2, x2, rfl⟩ := hmk.tup
  have hpA2 : HP (· < H2.next) H2 H5a := hpT2.trans (hmk.1.hp fun _ => True) fun j hj h => ⟨h, trivial⟩
  (repeat' (first | refine rc_reg ?_ | refine rc_seq ?_ | refine rk_done ?_ | refine rn_seq_n ?_ | refine rc_blk ?_ | refine rc_skip ?_ | refine rc_exit ?_ | refine rc_ret ?_ | refine rc_scp ?_ | refine rn_seq_e ?_ | refine rn_seq_r ?_ | refine rn_blk_n ?_ | refine rn_blk_r ?_ | refine rn_blk_e ?_ | refine rn_scp_n ?_ | refine rn_scp_e ?_ | refine rn_scp_r ?_ | refine rk_sk ?_ | refine rn_blk_x (by decide) ?_ | ((first | apply rk_mv' | apply rk_p1 | apply rk_p2 | apply rk_r1 | apply rk_ln | apply rk_ls); · (first | (simp (disch := omega) only [evl, Nat.reduceEqDiff, Nat.reduceAdd, reduceIte, reduceCtorEq] <;> exact rfl) | exact rfl)) | ((first | apply rc_cond | apply rk_gd); (· (first | (simp (disch := omega) only [evl, Nat.reduceEqDiff, Nat.reduceAdd, reduceIte, reduceCtorEq] <;> exact rfl) | exact rfl)); all_goals (intro hb; try simp only [bvl, ne_eq, Bool.not_true, Bool.not_false, reduceCtorEq, not_true_eq_false] at hb)) | (refine rk_gd_u ?_ ?_; · (first | (simp (disch := omega) only [evl, Nat.reduceEqDiff, Nat.reduceAdd, reduceIte, reduceCtorEq] <;> exact rfl) | exact rfl))))
  refine rk_cl (by (simp (disch := omega) only [evl, Nat.reduceEqDiff, Nat.reduceAdd, reduceIte, reduceCtorEq]); exact bothRef_ok H5a v u l m (kv _ hpA2) (ku _ hpA2) (khh _ hpA2) (klo _ hpA2).2 (by omega) (by omega)) ?_
  intro r H5b hmk'
  simp only [hOut_f]
  have hpB2 : HP (· < H2.next) H2 H5b := hpA2.trans (hmk'.1.hp fun _ => True) fun j hj h => ⟨h, trivial⟩
  obtain ⟨_, hxb2, e2', xs2, a2', b2, hra, rfl, hapa2, hapb2, hxl2⟩ := mk_key hmk hmk'
  cases hra
  clear hmk hmk'
  have hapa2 := hapa2.hx hxb2
  (repeat' (first | refine rc_reg ?_ | refine rc_seq ?_ | refine rk_done ?_ | refine rn_seq_n ?_ | refine rc_blk ?_ | refine rc_skip ?_ | refine rc_exit ?_ | refine rc_ret ?_ | refine rc_scp ?_ | refine rn_seq_e ?_ | refine rn_seq_r ?_ | refine rn_blk_n ?_ | refine rn_blk_r ?_ | refine rn_blk_e ?_ | refine rn_scp_n ?_ | refine rn_scp_e ?_ | refine rn_scp_r ?_ | refine rk_sk ?_ | refine rn_blk_x (by decide) ?_ | ((first | apply rk_mv' | apply rk_p1 | apply rk_p2 | apply rk_r1 | apply rk_ln | apply rk_ls); · (first | (simp (disch := omega) only [evl, Nat.reduceEqDiff, Nat.reduceAdd, reduceIte, reduceCtorEq] <;> exact rfl) | exact rfl)) | ((first | apply rc_cond | apply rk_gd); (· (first | (simp (disch := omega) only [evl, Nat.reduceEqDiff, Nat.reduceAdd, reduceIte, reduceCtorEq] <;> exact rfl) | exact rfl)); all_goals (intro hb; try simp only [bvl, ne_eq, Bool.not_true, Bool.not_false, reduceCtorEq, not_true_eq_false] at hb)) | (refine rk_gd_u ?_ ?_; · (first | (simp (disch := omega) only [evl, Nat.reduceEqDiff, Nat.reduceAdd, reduceIte, reduceCtorEq] <;> exact rfl) | exact rfl))))
  refine rk_cl (by (simp (disch := omega) only [evl, Nat.reduceEqDiff, Nat.reduceAdd, reduceIte, reduceCtorEq]); exact sameX_ok H5b a2 b2 xs2 xs2 hapa2.slZ hapb2.slZ (by omega) (by omega)) ?_
  rintro r H5c ⟨rfl, rfl⟩
  simp only [hOut_f, decide_true]

  (repeat' (first | refine rc_reg ?_ | refine rc_seq ?_ | refine rk_done ?_ | refine rn_seq_n ?_ | refine rc_blk ?_ | refine rc_skip ?_ | refine rc_exit ?_ | refine rc_ret ?_ | refine rc_scp ?_ | refine rn_seq_e ?_ | refine rn_seq_r ?_ | refine rn_blk_n ?_ | refine rn_blk_r ?_ | refine rn_blk_e ?_ | refine rn_scp_n ?_ | refine rn_scp_e ?_ | refine rn_scp_r ?_ | refine rk_sk ?_ | refine rn_blk_x (by decide) ?_ | ((first | apply rk_mv' | apply rk_p1 | apply rk_p2 | apply rk_r1 | apply rk_ln | apply rk_ls); · (first | (simp (disch := omega) only [evl, Nat.reduceEqDiff, Nat.reduceAdd, reduceIte, reduceCtorEq] <;> exact rfl) | exact rfl)) | ((first | apply rc_cond | apply rk_gd); (· (first | (simp (disch := omega) only [evl, Nat.reduceEqDiff, Nat.reduceAdd, reduceIte, reduceCtorEq] <;> exact rfl) | exact rfl)); all_goals (intro hb; try simp only [bvl, ne_eq, Bool.not_true, Bool.not_false, reduceCtorEq, not_true_eq_false] at hb)) | (refine rk_gd_u ?_ ?_; · (first | (simp (disch := omega) only [evl, Nat.reduceEqDiff, Nat.reduceAdd, reduceIte, reduceCtorEq] <;> exact rfl) | exact rfl))))
  refine rk_cl (by (simp (disch := omega) only [evl, Nat.reduceEqDiff, Nat.reduceAdd, reduceIte, reduceCtorEq]); exact within20_ok H5c _ _ l m (kin _ hpB2) (kby _ hpB2) (khh _ hpB2) (klo _ hpB2).2 (by omega) (by omega)) ?_
  rintro r H5d ⟨hxd, hrd⟩
  simp only [hOut_f]
  have hpD : HP (· < H2.next) H2 H5d := hpB2.trans (hxd.hp fun _ => True) fun j hj h => ⟨h, trivial⟩
  obtain ⟨q, rfl⟩ : ∃ q, r = .bool q := by rcases hrd with ⟨_, rfl⟩ | ⟨_, _, rfl⟩ <;> exact ⟨_, rfl⟩
  (repeat' (first | refine rc_reg ?_ | refine rc_seq ?_ | refine rk_done ?_ | refine rn_seq_n ?_ | refine rc_blk ?_ | refine rc_skip ?_ | refine rc_exit ?_ | refine rc_ret ?_ | refine rc_scp ?_ | refine rn_seq_e ?_ | refine rn_seq_r ?_ | refine rn_blk_n ?_ | refine rn_blk_r ?_ | refine rn_blk_e ?_ | refine rn_scp_n ?_ | refine rn_scp_e ?_ | refine rn_scp_r ?_ | refine rk_sk ?_ | refine rn_blk_x (by decide) ?_ | ((first | apply rk_mv' | apply rk_p1 | apply rk_p2 | apply rk_r1 | apply rk_ln | apply rk_ls); · (first | (simp (disch := omega) only [evl, Nat.reduceEqDiff, Nat.reduceAdd, reduceIte, reduceCtorEq] <;> exact rfl) | exact rfl)) | ((first | apply rc_cond | apply rk_gd); (· (first | (simp (disch := omega) only [evl, Nat.reduceEqDiff, Nat.reduceAdd, reduceIte, reduceCtorEq] <;> exact rfl) | exact rfl)); all_goals (intro hb; try simp only [bvl, ne_eq, Bool.not_true, Bool.not_false, reduceCtorEq, not_true_eq_false] at hb)) | (refine rk_gd_u ?_ ?_; · (first | (simp (disch := omega) only [evl, Nat.reduceEqDiff, Nat.reduceAdd, reduceIte, reduceCtorEq] <;> exact rfl) | exact rfl))))
  refine rk_cl (by (simp (disch := omega) only [evl, Nat.reduceEqDiff, Nat.reduceAdd, reduceIte, reduceCtorEq]); exact within21_ok H5d v u l m (kv _ hpD) (ku _ hpD) (khh _ hpD) (klo _ hpD).2 (by omega) (by omega)) ?_
  rintro r H5d' ⟨hxd', hrd'⟩
  simp only [hOut_f]
  have hpD' : HP (· < H2.next) H2 H5d' := hpD.trans (hxd'.hp fun _ => True) fun j hj h => ⟨h, trivial⟩
  obtain rfl : r = .bool q := by
    rcases hrd with ⟨h1, hq⟩ | ⟨h1, h2, hq⟩
    · rcases hrd' with ⟨_, h⟩ | ⟨h3, h4, _⟩
      · rw [hq, h]
      · exact absurd ⟨h3, h4⟩ h1
    · rcases hrd' with ⟨h3, _⟩ | ⟨_, _, h⟩
      · exact absurd ⟨h1, h2⟩ h3
      · rw [hq, h]
  have hapa2 := (hapa2.hx hxd).hx hxd'
  have hqe := fun xo yo => eq4 xo yo q q
  rw [show decide (q = q) = true from decide_eq_true rfl] at hqe
  (repeat' (first | refine rc_reg ?_ | refine rc_seq ?_ | refine rk_done ?_ | refine rn_seq_n ?_ | refine rc_blk ?_ | refine rc_skip ?_ | refine rc_exit ?_ | refine rc_ret ?_ | refine rc_scp ?_ | refine rn_seq_e ?_ | refine rn_seq_r ?_ | refine rn_blk_n ?_ | refine rn_blk_r ?_ | refine rn_blk_e ?_ | refine rn_scp_n ?_ | refine rn_scp_e ?_ | refine rn_scp_r ?_ | refine rk_sk ?_ | refine rn_blk_x (by decide) ?_ | ((first | apply rk_mv' | apply rk_p1 | apply rk_p2 | apply rk_r1 | apply rk_ln | apply rk_ls); · (first | (simp (disch := omega) only [evl, Nat.reduceEqDiff, Nat.reduceAdd, reduceIte, reduceCtorEq, hqe] <;> exact rfl) | exact rfl)) | ((first | apply rc_cond | apply rk_gd); (· (first | (simp (disch := omega) only [evl, Nat.reduceEqDiff, Nat.reduceAdd, reduceIte, reduceCtorEq, hqe] <;> exact rfl) | exact rfl)); all_goals (intro hb; try simp only [bvl, ne_eq, Bool.not_true, Bool.not_false, reduceCtorEq, not_true_eq_false] at hb)) | (refine rk_gd_u ?_ ?_; · (first | (simp (disch := omega) only [evl, Nat.reduceEqDiff, Nat.reduceAdd, reduceIte, reduceCtorEq, hqe] <;> exact rfl) | exact rfl))))

  refine rk_cl (by (simp (disch := omega) only [evl, Nat.reduceEqDiff, Nat.reduceAdd, reduceIte, reduceCtorEq]); exact overX_ok H5d' a2 xs2.length H4e.next (exC xs2) hapa2 (khh _ hpD') (by have := (klo _ hpD').1; have := hpT2.next; omega) (by omega)) ?_
  intro r H5e hpo2
  simp only [hOut_f]
  have hpT3 : HP (· < H2.next) H2 H5e := hpD'.trans hpo2 fun j hj h => ⟨h, Ap.blk hapa2 (by have := hpT2.next; omega)⟩

  (repeat' (first | refine rc_reg ?_ | refine rc_seq ?_ | refine rk_done ?_ | refine rn_seq_n ?_ | refine rc_blk ?_ | refine rc_skip ?_ | refine rc_exit ?_ | refine rc_ret ?_ | refine rc_scp ?_ | refine rn_seq_e ?_ | refine rn_seq_r ?_ | refine rn_blk_n ?_ | refine rn_blk_r ?_ | refine rn_blk_e ?_ | refine rn_scp_n ?_ | refine rn_scp_e ?_ | refine rn_scp_r ?_ | refine rk_sk ?_ | refine rn_blk_x (by decide) ?_ | ((first | apply rk_mv' | apply rk_p1 | apply rk_p2 | apply rk_r1 | apply rk_ln | apply rk_ls); · (first | (simp (disch := omega) only [evl, Nat.reduceEqDiff, Nat.reduceAdd, reduceIte, reduceCtorEq] <;> exact rfl) | exact rfl)) | ((first | apply rc_cond | apply rk_gd); (· (first | (simp (disch := omega) only [evl, Nat.reduceEqDiff, Nat.reduceAdd, reduceIte, reduceCtorEq] <;> exact rfl) | exact rfl)); all_goals (intro hb; try simp only [bvl, ne_eq, Bool.not_true, Bool.not_false, reduceCtorEq, not_true_eq_false] at hb)) | (refine rk_gd_u ?_ ?_; · (first | (simp (disch := omega) only [evl, Nat.reduceEqDiff, Nat.reduceAdd, reduceIte, reduceCtorEq] <;> exact rfl) | exact rfl))))
  refine rk_cl (by (simp (disch := omega) only [evl, Nat.reduceEqDiff, Nat.reduceAdd, reduceIte, reduceCtorEq]); exact sameX_ok H5e _ v l l (kin _ hpT3) (kv _ hpT3) (by omega) (by omega)) ?_
  rintro r H6 ⟨rfl, rfl⟩
  simp only [hOut_f, decide_true]
  (repeat' (first | refine rc_reg ?_ | refine rc_seq ?_ | refine rk_done ?_ | refine rn_seq_n ?_ | refine rc_blk ?_ | refine rc_skip ?_ | refine rc_exit ?_ | refine rc_ret ?_ | refine rc_scp ?_ | refine rn_seq_e ?_ | refine rn_seq_r ?_ | refine rn_blk_n ?_ | refine rn_blk_r ?_ | refine rn_blk_e ?_ | refine rn_scp_n ?_ | refine rn_scp_e ?_ | refine rn_scp_r ?_ | refine rk_sk ?_ | refine rn_blk_x (by decide) ?_ | ((first | apply rk_mv' | apply rk_p1 | apply rk_p2 | apply rk_r1 | apply rk_ln | apply rk_ls); · (first | (simp (disch := omega) only [evl, Nat.reduceEqDiff, Nat.reduceAdd, reduceIte, reduceCtorEq] <;> exact rfl) | exact rfl)) | ((first | apply rc_cond | apply rk_gd); (· (first | (simp (disch := omega) only [evl, Nat.reduceEqDiff, Nat.reduceAdd, reduceIte, reduceCtorEq] <;> exact rfl) | exact rfl)); all_goals (intro hb; try simp only [bvl, ne_eq, Bool.not_true, Bool.not_false, reduceCtorEq, not_true_eq_false] at hb)) | (refine rk_gd_u ?_ ?_; · (first | (simp (disch := omega) only [evl, Nat.reduceEqDiff, Nat.reduceAdd, reduceIte, reduceCtorEq] <;> exact rfl) | exact rfl))))
  refine rk_cl (by (simp (disch := omega) only [evl, Nat.reduceEqDiff, Nat.reduceAdd, reduceIte, reduceCtorEq]); exact sameX_ok H6 _ u m m (kby _ hpT3) (ku _ hpT3) (by omega) (by omega)) ?_
  rintro r H7 ⟨rfl, rfl⟩
  simp only [hOut_f, decide_true]
  (repeat' (first | refine rc_reg ?_ | refine rc_seq ?_ | refine rk_done ?_ | refine rn_seq_n ?_ | refine rc_blk ?_ | refine rc_skip ?_ | refine rc_exit ?_ | refine rc_ret ?_ | refine rc_scp ?_ | refine rn_seq_e ?_ | refine rn_seq_r ?_ | refine rn_blk_n ?_ | refine rn_blk_r ?_ | refine rn_blk_e ?_ | refine rn_scp_n ?_ | refine rn_scp_e ?_ | refine rn_scp_r ?_ | refine rk_sk ?_ | refine rn_blk_x (by decide) ?_ | ((first | apply rk_mv' | apply rk_p1 | apply rk_p2 | apply rk_r1 | apply rk_ln | apply rk_ls); · (first | (simp (disch := omega) only [evl, Nat.reduceEqDiff, Nat.reduceAdd, reduceIte, reduceCtorEq] <;> exact rfl) | exact rfl)) | ((first | apply rc_cond | apply rk_gd); (· (first | (simp (disch := omega) only [evl, Nat.reduceEqDiff, Nat.reduceAdd, reduceIte, reduceCtorEq] <;> exact rfl) | exact rfl)); all_goals (intro hb; try simp only [bvl, ne_eq, Bool.not_true, Bool.not_false, reduceCtorEq, not_true_eq_false] at hb)) | (refine rk_gd_u ?_ ?_; · (first | (simp (disch := omega) only [evl, Nat.reduceEqDiff, Nat.reduceAdd, reduceIte, reduceCtorEq] <;> exact rfl) | exact rfl))))
  refine rk_cl (by (simp (disch := omega) only [evl, Nat.reduceEqDiff, Nat.reduceAdd, reduceIte, reduceCtorEq]); exact awake_ok H7) ?_
  rintro r H8 ⟨rfl, rfl⟩
  simp only [hOut_f]
  (repeat' (first | refine rc_reg ?_ | refine rc_seq ?_ | refine rk_done ?_ | refine rn_seq_n ?_ | refine rc_blk ?_ | refine rc_skip ?_ | refine rc_exit ?_ | refine rc_ret ?_ | refine rc_scp ?_ | refine rn_seq_e ?_ | refine rn_seq_r ?_ | refine rn_blk_n ?_ | refine rn_blk_r ?_ | refine rn_blk_e ?_ | refine rn_scp_n ?_ | refine rn_scp_e ?_ | refine rn_scp_r ?_ | refine rk_sk ?_ | refine rn_blk_x (by decide) ?_ | ((first | apply rk_mv' | apply rk_p1 | apply rk_p2 | apply rk_r1 | apply rk_ln | apply rk_ls); · (first | (simp (disch := omega) only [evl, Nat.reduceEqDiff, Nat.reduceAdd, reduceIte, reduceCtorEq] <;> exact rfl) | exact rfl)) | ((first | apply rc_cond | apply rk_gd); (· (first | (simp (disch := omega) only [evl, Nat.reduceEqDiff, Nat.reduceAdd, reduceIte, reduceCtorEq] <;> exact rfl) | exact rfl)); all_goals (intro hb; try simp only [bvl, ne_eq, Bool.not_true, Bool.not_false, reduceCtorEq, not_true_eq_false] at hb)) | (refine rk_gd_u ?_ ?_; · (first | (simp (disch := omega) only [evl, Nat.reduceEqDiff, Nat.reduceAdd, reduceIte, reduceCtorEq] <;> exact rfl) | exact rfl))))
  refine rn_nil ?_; refine fq_ret (resV_1 _ _) ⟨?_, ?_⟩
  · (simp (disch := omega) only [evl, Nat.reduceEqDiff, Nat.reduceAdd, reduceIte, reduceCtorEq])
  · exact ((hxA.hp fun _ => True).trans hpT3 (r := fun _ => True) fun j hj _ => ⟨trivial, by omega⟩).hx fun _ _ => trivial
end Go.Proofs.Ytnkomaedmblemaa
