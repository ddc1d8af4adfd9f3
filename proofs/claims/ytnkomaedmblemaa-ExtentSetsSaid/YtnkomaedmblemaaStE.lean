import Derived.Test.YtnkomaedmblemaaStD
import Derived.Test.YtnkomaedmblemaaCtB
import Derived.Test.YtnkomaedmblemaaExB
set_option linter.unusedSimpArgs false
set_option linter.unusedVariables false
set_option maxRecDepth 100000
namespace Go.Proofs.Ytnkomaedmblemaa
open Go.Ev Exl

theorem MkR.tup {H H' : AH} {f : Bool → Bool → Bool} {l m : List P} {r : AV} (h : MkR H f l m r H') : ∃ a e, r = .tup [a, .int .i64 e] := by
  rcases h.2 with ⟨_, rfl⟩ | ⟨_, _, s, rfl, _⟩ <;> exact ⟨_, _, rfl⟩
end Go.Proofs.Ytnkomaedmblemaa

set_option linter.unusedSimpArgs false
set_option linter.unusedVariables false
set_option maxRecDepth 100000
namespace Go.Proofs.Ytnkomaedmblemaa
open Go.Ev Exl

/-! ### Plain laws of sets -/
theorem hasB_neg {l : List P} (h : Ok 0 l) {x : Int} (hx : x < 0) : hasB l x = false := by
  cases hb : hasB l x with
  | false => rfl
  | true => have := Ok.has h x ((hasB_iff l x).1 hb); omega
theorem hasB_mk {f : Bool → Bool → Bool} {l m : List P} (hf : f false false = false) (h : MkL f l m) (hl : Ok 0 l) (hm : Ok 0 m) (x : Int) : hasB (mkX f l m) x = f (hasB l x) (hasB m x) := by
  obtain ⟨h1, h2⟩ := h hl hm
  by_cases hx : x < 0
  · rw [hasB_neg h1 hx, hasB_neg hl hx, hasB_neg hm hx, hf]
  · rw [Bool.eq_iff_iff, hasB_iff, h2]
    exact ⟨fun h => h.2, fun h => ⟨by omega, h⟩⟩
theorem eq_of_hasB {l m : List P} (hl : Ok 0 l) (hm : Ok 0 m) (h : ∀ x, hasB l x = hasB m x) : l = m := by
  have e := mkX_eq (f := fun a _ => a) (l := l) (m := []) (out := l) hl fun x => by
    rw [hasB_iff]; exact ⟨fun h => ⟨(Ok.has hl x h).1, h⟩, fun h => h.2⟩
  have e2 := mkX_eq (f := fun a _ => a) (l := l) (m := []) (out := m) hm fun x => by
    rw [h x, hasB_iff]; exact ⟨fun h => ⟨(Ok.has hm x h).1, h⟩, fun h => h.2⟩
  exact e.symm.trans e2
def cardTo (l : List P) : Nat → Int
  | 0 => 0
  | i + 1 => cardTo l i + if hasB l (i : Nat) = true then 1 else 0
def setOf (l : List P) : List Bool := (List.range 4096).map fun i => hasB l (i : Nat)
theorem setOf_get (l : List P) {i : Nat} (hi : i < 4096) : (setOf l).getD i false = hasB l (i : Nat) := by
  unfold setOf
  rw [List.getD_eq_getElem?_getD, List.getElem?_map, List.getElem?_range hi]; rfl
theorem card_list (l : List P) : ∀ i, i ≤ 4096 → ((listTo (setOf l) i).length : Int) = cardTo l i
  | 0, _ => rfl
  | i + 1, hi => by
    have ih := card_list l i (by omega)
    rw [listTo, setOf_get l (by omega), cardTo]
    split
    · rw [List.length_append, Int.natCast_add, ih]; rfl
    · rw [ih]; omega
theorem tot_card {l : List P} (h : Ok 0 l) : tot l = cardTo l 4096 := by
  rw [← card_list l 4096 (Nat.le_refl _), list_eq h (fun i hi => by rw [setOf_get l hi, hasB_iff]), secs_len h.pos]
theorem card_sum {a b c d : List P} (h : ∀ x : Int, (hasB a x = (hasB c x || hasB d x)) ∧ (hasB b x = (hasB c x && hasB d x))) : ∀ i, cardTo a i + cardTo b i = cardTo c i + cardTo d i
  | 0 => rfl
  | i + 1 => by
    have ih := card_sum h i
    obtain ⟨h1, h2⟩ := h i
    simp only [cardTo, h1, h2]
    cases hasB c i <;> cases hasB d i <;> simp <;> omega
theorem nil_of_hasB {l : List P} (hl : Ok 0 l) (h : ∀ x, hasB l x = false) : l = [] := eq_of_hasB hl trivial fun x => by rw [h x]; rfl

theorem swp_all {f : Bool → Bool → Bool} {ys : List Ed} (hs : srt ys 0 ys.length) (hb : ∀ e ∈ ys, 0 ≤ e.1 ∧ e.1 ≤ 4096) : ∀ i, i ≤ ys.length → ∃ at' a b out, Swp f ys i at' a b out
  | 0, _ => ⟨0, false, false, [], Swp.init f hb⟩
  | i + 1, hi => by
    obtain ⟨at', a, b, out, h⟩ := swp_all hs hb i (by omega)
    exact ⟨_, _, _, _, h.step (by omega) hs hb⟩
theorem mk_law {f : Bool → Bool → Bool} (hf : f false false = false) {l m : List P} : MkL f l m := fun hok hom => by
  obtain ⟨ys, hp, hs⟩ : ∃ ys : List Ed, ys.Perm (edL false l ++ edL true m) ∧ srt ys 0 ys.length := by
    refine ⟨(edL false l ++ edL true m).mergeSort (fun a b => decide (a.1 ≤ b.1)), List.mergeSort_perm _ _, fun s t _ hst ht => ?_⟩
    have h := List.pairwise_mergeSort (le := fun (a b : Ed) => decide (a.1 ≤ b.1)) (fun a b c h1 h2 => by simp only [decide_eq_true_eq] at *; omega) (fun a b => by simp only [Bool.or_eq_true, decide_eq_true_eq]; omega) (edL false l ++ edL true m)
    have := (List.pairwise_iff_getElem.1 h) s t (by omega) ht hst
    unfold key
    rw [edG_el (by omega), edG_el ht]
    exact of_decide_eq_true this
  have hb : ∀ e ∈ ys, 0 ≤ e.1 ∧ e.1 ≤ 4096 := fun e he => by
    rcases List.mem_append.1 (hp.mem_iff.1 he) with he | he
    · exact edL_bd false hok (Int.le_refl _) e he
    · exact edL_bd true hom (Int.le_refl _) e he
  obtain ⟨at', a, b, out, h⟩ := swp_all (f := f) hs hb ys.length (Nat.le_refl _)
  obtain ⟨q1, q2⟩ := h.fin hf hok hom hp
  rw [mkX_eq q1 q2]; exact ⟨q1, q2⟩

theorem MkR.good {H H' : AH} {f : Bool → Bool → Bool} {l m : List P} {r : AV} (h : MkR H f l m r H') (hl : Ok 0 l) (hm : Ok 0 m) : HX H H' ∧ ∃ s, r = .tup [s, .int .i64 0] ∧ Ap H' s (mkX f l m).length (exC (mkX f l m)) 43 2 H.next := by
  rcases h.2 with ⟨h1, _⟩ | ⟨_, _, s, h2, h3⟩
  · exact absurd ⟨hl, hm⟩ h1
  · exact ⟨h.1, s, h2, h3⟩
theorem MkR.bad {H H' : AH} {f : Bool → Bool → Bool} {l m : List P} {r : AV} (h : MkR H f l m r H') (hno : ¬ (Ok 0 l ∧ Ok 0 m)) : HX H H' ∧ r = .tup [.nilSl, .int .i64 2] := by
  rcases h.2 with ⟨_, h1⟩ | ⟨h2, h3, _⟩
  · exact ⟨h.1, h1⟩
  · exact absurd ⟨h2, h3⟩ hno
theorem mkX_len (f : Bool → Bool → Bool) (l m : List P) : (mkX f l m).length ≤ 4096 := runsTo_len _ _

theorem check_good (H : AH) (v : AV) (l : List P) (hs : SlX H v l) (hh : H.hide = []) (hlo : H.lo ≤ H.next) (hl : l.length ≤ 1000000) (hok : Ok 0 l) : FnE look 22 [v] H fun r H' => HX H H' ∧ r = .int .i64 0 :=
  (check_ok H v l hs hh hlo hl).mono fun r H' ⟨h, h2⟩ => ⟨h, by rcases h2 with h2 | h2; exact h2.2; exact absurd hok h2.1⟩
theorem count_good (H : AH) (v : AV) (l : List P) (hs : SlX H v l) (hh : H.hide = []) (hlo : H.lo ≤ H.next) (hl : l.length ≤ 1000000) (hok : Ok 0 l) : FnE look 23 [v] H fun r H' => HX H H' ∧ r = .int .i64 (tot l) :=
  (count_ok H v l hs hh hlo hl).mono fun r H' ⟨h, h2⟩ => ⟨h, by rcases h2 with h2 | h2; exact absurd hok h2.1; exact h2.2⟩
theorem within_good (H : AH) (v u : AV) (l m : List P) (hs : SlX H v l) (hu : SlX H u m) (hh : H.hide = []) (hlo : H.lo ≤ H.next) (hl : l.length ≤ 1000000) (hm : m.length ≤ 1000000) (hok : Ok 0 l) (hom : Ok 0 m) :
    FnE look 20 [v, u] H fun r H' => HX H H' ∧ r = .bool (decide ((mkX (fun a b => a && !b) l m).length = 0)) :=
  (within20_ok H v u l m hs hu hh hlo hl hm).mono fun r H' ⟨h, h2⟩ => ⟨h, by rcases h2 with h2 | h2; exact absurd ⟨hok, hom⟩ h2.1; exact h2.2.2⟩

theorem sets_bad (H : AH) (v u : AV) (l m : List P) (hs : SlX H v l) (hu : SlX H u m) (hh : H.hide = []) (hlo : H.lo ≤ H.next) (hbig : ¬ 300 < l.length) (hbig2 : ¬ 300 < m.length) (hno : ¬ (Ok 0 l ∧ Ok 0 m)) :
    FnE look 4 [v, u] H fun r H' => r = .bool true ∧ HX H H' := by
  refine fn_intro f4_eq (noext rfl) rfl ?_
  unfold f4c
  have hlen := fun H' => len_el (H' := H') u22 hs.is
  have hlen2 := fun H' => len_el (H' := H') u22 hu.is
  (repeat' (first | refine rc_reg ?_ | refine rc_seq ?_ | refine rk_done ?_ | refine rn_seq_n ?_ | refine rc_blk ?_ | refine rc_skip ?_ | refine rc_exit ?_ | refine rc_ret ?_ | refine rc_scp ?_ | refine rn_seq_e ?_ | refine rn_seq_r ?_ | refine rn_blk_n ?_ | refine rn_blk_r ?_ | refine rn_blk_e ?_ | refine rn_scp_n ?_ | refine rn_scp_e ?_ | refine rn_scp_r ?_ | refine rk_sk ?_ | refine rn_blk_x (by decide) ?_ | ((first | apply rk_mv' | apply rk_p1 | apply rk_p2 | apply rk_r1 | apply rk_ln | apply rk_ls); · (first | (simp (disch := omega) only [evl, Nat.reduceEqDiff, Nat.reduceAdd, reduceIte, reduceCtorEq] <;> exact rfl) | exact rfl)) | ((first | apply rc_cond | apply rk_gd); (· (first | (simp (disch := omega) only [evl, Nat.reduceEqDiff, Nat.reduceAdd, reduceIte, reduceCtorEq] <;> exact rfl) | exact rfl)); all_goals (intro hb; try simp only [bvl, ne_eq, Bool.not_true, Bool.not_false, reduceCtorEq, not_true_eq_false] at hb)) | (refine rk_gd_u ?_ ?_; · (first | (simp (disch := omega) only [evl, Nat.reduceEqDiff, Nat.reduceAdd, reduceIte, reduceCtorEq] <;> exact rfl) | exact rfl))))
  refine rk_cl (by (simp (disch := omega) only [evl, Nat.reduceEqDiff, Nat.reduceAdd, reduceIte, reduceCtorEq]); exact awake_ok H) ?_
  rintro r H0 ⟨rfl, hH0⟩
  subst hH0
  simp only [hOut_f]
  (repeat' (first | refine rc_reg ?_ | refine rc_seq ?_ | refine rk_done ?_ | refine rn_seq_n ?_ | refine rc_blk ?_ | refine rc_skip ?_ | refine rc_exit ?_ | refine rc_ret ?_ | refine rc_scp ?_ | refine rn_seq_e ?_ | refine rn_seq_r ?_ | refine rn_blk_n ?_ | refine rn_blk_r ?_ | refine rn_blk_e ?_ | refine rn_scp_n ?_ | refine rn_scp_e ?_ | refine rn_scp_r ?_ | refine rk_sk ?_ | refine rn_blk_x (by decide) ?_ | ((first | apply rk_mv' | apply rk_p1 | apply rk_p2 | apply rk_r1 | apply rk_ln | apply rk_ls); · (first | (simp (disch := omega) only [evl, Nat.reduceEqDiff, Nat.reduceAdd, reduceIte, reduceCtorEq, hlen, hlen2] <;> exact rfl) | exact rfl)) | ((first | apply rc_cond | apply rk_gd); (· (first | (simp (disch := omega) only [evl, Nat.reduceEqDiff, Nat.reduceAdd, reduceIte, reduceCtorEq, hlen, hlen2] <;> exact rfl) | exact rfl)); all_goals (intro hb; try simp only [bvl, ne_eq, Bool.not_true, Bool.not_false, reduceCtorEq, not_true_eq_false] at hb)) | (refine rk_gd_u ?_ ?_; · (first | (simp (disch := omega) only [evl, Nat.reduceEqDiff, Nat.reduceAdd, reduceIte, reduceCtorEq, hlen, hlen2] <;> exact rfl) | exact rfl))))
  refine rk_cl (by (simp (disch := omega) only [evl, Nat.reduceEqDiff, Nat.reduceAdd, reduceIte, reduceCtorEq]); exact add_ok H0 v u l m hs hu hh hlo (by omega) (by omega)) ?_
  rintro r H1 ⟨hmk, _⟩
  obtain ⟨hx1, rfl⟩ := hmk.bad hno
  have hnA := hx1.next
  simp only [hOut_f]
  (repeat' (first | refine rc_reg ?_ | refine rc_seq ?_ | refine rk_done ?_ | refine rn_seq_n ?_ | refine rc_blk ?_ | refine rc_skip ?_ | refine rc_exit ?_ | refine rc_ret ?_ | refine rc_scp ?_ | refine rn_seq_e ?_ | refine rn_seq_r ?_ | refine rn_blk_n ?_ | refine rn_blk_r ?_ | refine rn_blk_e ?_ | refine rn_scp_n ?_ | refine rn_scp_e ?_ | refine rn_scp_r ?_ | refine rk_sk ?_ | refine rn_blk_x (by decide) ?_ | ((first | apply rk_mv' | apply rk_p1 | apply rk_p2 | apply rk_r1 | apply rk_ln | apply rk_ls); · (first | (simp (disch := omega) only [evl, Nat.reduceEqDiff, Nat.reduceAdd, reduceIte, reduceCtorEq] <;> exact rfl) | exact rfl)) | ((first | apply rc_cond | apply rk_gd); (· (first | (simp (disch := omega) only [evl, Nat.reduceEqDiff, Nat.reduceAdd, reduceIte, reduceCtorEq] <;> exact rfl) | exact rfl)); all_goals (intro hb; try simp only [bvl, ne_eq, Bool.not_true, Bool.not_false, reduceCtorEq, not_true_eq_false] at hb)) | (refine rk_gd_u ?_ ?_; · (first | (simp (disch := omega) only [evl, Nat.reduceEqDiff, Nat.reduceAdd, reduceIte, reduceCtorEq] <;> exact rfl) | exact rfl))))
  refine rk_cl (by (simp (disch := omega) only [evl, Nat.reduceEqDiff, Nat.reduceAdd, reduceIte, reduceCtorEq]); exact cut_ok H1 v u l m (hs.hx hx1) (hu.hx hx1) (hx1.hide.trans hh) (by rw [hx1.lo]; omega) (by omega) (by omega)) ?_
  rintro r H2 ⟨hmk, _⟩
  obtain ⟨hx2', rfl⟩ := hmk.bad hno
  have hx2 := hx1.trans hx2'
  have hnB := hx2.next
  simp only [hOut_f]
  (repeat' (first | refine rc_reg ?_ | refine rc_seq ?_ | refine rk_done ?_ | refine rn_seq_n ?_ | refine rc_blk ?_ | refine rc_skip ?_ | refine rc_exit ?_ | refine rc_ret ?_ | refine rc_scp ?_ | refine rn_seq_e ?_ | refine rn_seq_r ?_ | refine rn_blk_n ?_ | refine rn_blk_r ?_ | refine rn_blk_e ?_ | refine rn_scp_n ?_ | refine rn_scp_e ?_ | refine rn_scp_r ?_ | refine rk_sk ?_ | refine rn_blk_x (by decide) ?_ | ((first | apply rk_mv' | apply rk_p1 | apply rk_p2 | apply rk_r1 | apply rk_ln | apply rk_ls); · (first | (simp (disch := omega) only [evl, Nat.reduceEqDiff, Nat.reduceAdd, reduceIte, reduceCtorEq] <;> exact rfl) | exact rfl)) | ((first | apply rc_cond | apply rk_gd); (· (first | (simp (disch := omega) only [evl, Nat.reduceEqDiff, Nat.reduceAdd, reduceIte, reduceCtorEq] <;> exact rfl) | exact rfl)); all_goals (intro hb; try simp only [bvl, ne_eq, Bool.not_true, Bool.not_false, reduceCtorEq, not_true_eq_false] at hb)) | (refine rk_gd_u ?_ ?_; · (first | (simp (disch := omega) only [evl, Nat.reduceEqDiff, Nat.reduceAdd, reduceIte, reduceCtorEq] <;> exact rfl) | exact rfl))))
  refine rk_cl (by (simp (disch := omega) only [evl, Nat.reduceEqDiff, Nat.reduceAdd, reduceIte, reduceCtorEq]); exact both_ok H2 v u l m (hs.hx hx2) (hu.hx hx2) (hx2.hide.trans hh) (by rw [hx2.lo]; omega) (by omega) (by omega)) ?_
  rintro r H3 ⟨hmk, _⟩
  obtain ⟨hx3', rfl⟩ := hmk.bad hno
  have hx3 := hx2.trans hx3'
  have hnC := hx3.next
  simp only [hOut_f]
  (repeat' (first | refine rc_reg ?_ | refine rc_seq ?_ | refine rk_done ?_ | refine rn_seq_n ?_ | refine rc_blk ?_ | refine rc_skip ?_ | refine rc_exit ?_ | refine rc_ret ?_ | refine rc_scp ?_ | refine rn_seq_e ?_ | refine rn_seq_r ?_ | refine rn_blk_n ?_ | refine rn_blk_r ?_ | refine rn_blk_e ?_ | refine rn_scp_n ?_ | refine rn_scp_e ?_ | refine rn_scp_r ?_ | refine rk_sk ?_ | refine rn_blk_x (by decide) ?_ | ((first | apply rk_mv' | apply rk_p1 | apply rk_p2 | apply rk_r1 | apply rk_ln | apply rk_ls); · (first | (simp (disch := omega) only [evl, Nat.reduceEqDiff, Nat.reduceAdd, reduceIte, reduceCtorEq] <;> exact rfl) | exact rfl)) | ((first | apply rc_cond | apply rk_gd); (· (first | (simp (disch := omega) only [evl, Nat.reduceEqDiff, Nat.reduceAdd, reduceIte, reduceCtorEq] <;> exact rfl) | exact rfl)); all_goals (intro hb; try simp only [bvl, ne_eq, Bool.not_true, Bool.not_false, reduceCtorEq, not_true_eq_false] at hb)) | (refine rk_gd_u ?_ ?_; · (first | (simp (disch := omega) only [evl, Nat.reduceEqDiff, Nat.reduceAdd, reduceIte, reduceCtorEq] <;> exact rfl) | exact rfl))))
  refine rk_cl (by (simp (disch := omega) only [evl, Nat.reduceEqDiff, Nat.reduceAdd, reduceIte, reduceCtorEq]); exact check_ok H3 v l (hs.hx hx3) (hx3.hide.trans hh) (by rw [hx3.lo]; omega) (by omega)) ?_
  have last : ∀ (T : Tr AV) (H4 : AH), gT T 0 = v → gT T 1 = u → gT T 5 = .bool true → gT T 7 = .int .i64 2 → gT T 9 = .int .i64 2 → gT T 11 = .int .i64 2 → HX H0 H4 → RK look f4r8 [.seq .ret, .seq (.seq (.seq (.reg f4r9)
  (.cond (tO 83) (.seq (.reg f4r10)
  .ret) .skip))
  (.seq (.reg f4r11)
  (.seq (.reg f4r12)
  (.seq (.reg f4r13)
  (.seq (.seq (.reg f4r14)
  (.cond (tO 128) (.seq (.reg f4r15)
  .ret) .skip))
  (.seq (.reg f4r16)
  (.seq (.reg f4r17)
  .ret)))))))] T H4 (FnQ look [.tmp 4] fun r H' => r = .bool true ∧ HX H0 H') := by
    intro T H4 h0 h1 h5 h7 h9 h11 hx4
    have hnD := hx4.next
    unfold f4r8
    (repeat' (first | refine rc_reg ?_ | refine rc_seq ?_ | refine rk_done ?_ | refine rn_seq_n ?_ | refine rc_blk ?_ | refine rc_skip ?_ | refine rc_exit ?_ | refine rc_ret ?_ | refine rc_scp ?_ | refine rn_seq_e ?_ | refine rn_seq_r ?_ | refine rn_blk_n ?_ | refine rn_blk_r ?_ | refine rn_blk_e ?_ | refine rn_scp_n ?_ | refine rn_scp_e ?_ | refine rn_scp_r ?_ | refine rk_sk ?_ | refine rn_blk_x (by decide) ?_ | ((first | apply rk_mv' | apply rk_p1 | apply rk_p2 | apply rk_r1 | apply rk_ln | apply rk_ls); · (first | (simp (disch := omega) only [evl, Nat.reduceEqDiff, Nat.reduceAdd, reduceIte, reduceCtorEq, h0, h1, h5, h7, h9, h11] <;> exact rfl) | exact rfl)) | ((first | apply rc_cond | apply rk_gd); (· (first | (simp (disch := omega) only [evl, Nat.reduceEqDiff, Nat.reduceAdd, reduceIte, reduceCtorEq, h0, h1, h5, h7, h9, h11] <;> exact rfl) | exact rfl)); all_goals (intro hb; try simp only [bvl, ne_eq, Bool.not_true, Bool.not_false, reduceCtorEq, not_true_eq_false] at hb)) | (refine rk_gd_u ?_ ?_; · (first | (simp (disch := omega) only [evl, Nat.reduceEqDiff, Nat.reduceAdd, reduceIte, reduceCtorEq, h0, h1, h5, h7, h9, h11] <;> exact rfl) | exact rfl))))
    refine rk_cl (by (simp (disch := omega) only [evl, Nat.reduceEqDiff, Nat.reduceAdd, reduceIte, reduceCtorEq, h0, h1, h5, h7, h9, h11]); exact within20_ok H4 v u l m (hs.hx hx4) (hu.hx hx4) (hx4.hide.trans hh) (by rw [hx4.lo]; omega) (by omega) (by omega)) ?_
    rintro r H5 ⟨hx5, ⟨_, rfl⟩ | ⟨h2, h3, _⟩⟩
    · simp only [hOut_f]
      (repeat' (first | refine rc_reg ?_ | refine rc_seq ?_ | refine rk_done ?_ | refine rn_seq_n ?_ | refine rc_blk ?_ | refine rc_skip ?_ | refine rc_exit ?_ | refine rc_ret ?_ | refine rc_scp ?_ | refine rn_seq_e ?_ | refine rn_seq_r ?_ | refine rn_blk_n ?_ | refine rn_blk_r ?_ | refine rn_blk_e ?_ | refine rn_scp_n ?_ | refine rn_scp_e ?_ | refine rn_scp_r ?_ | refine rk_sk ?_ | refine rn_blk_x (by decide) ?_ | ((first | apply rk_mv' | apply rk_p1 | apply rk_p2 | apply rk_r1 | apply rk_ln | apply rk_ls); · (first | (simp (disch := omega) only [evl, Nat.reduceEqDiff, Nat.reduceAdd, reduceIte, reduceCtorEq] <;> exact rfl) | exact rfl)) | ((first | apply rc_cond | apply rk_gd); (· (first | (simp (disch := omega) only [evl, Nat.reduceEqDiff, Nat.reduceAdd, reduceIte, reduceCtorEq] <;> exact rfl) | exact rfl)); all_goals (intro hb; try simp only [bvl, ne_eq, Bool.not_true, Bool.not_false, reduceCtorEq, not_true_eq_false] at hb)) | (refine rk_gd_u ?_ ?_; · (first | (simp (disch := omega) only [evl, Nat.reduceEqDiff, Nat.reduceAdd, reduceIte, reduceCtorEq] <;> exact rfl) | exact rfl))))
      refine rn_nil ?_; refine fq_ret (resV_1 _ _) ⟨?_, hx4.trans hx5⟩
      (simp (disch := omega) only [evl, Nat.reduceEqDiff, Nat.reduceAdd, reduceIte, reduceCtorEq])
    · exact absurd ⟨h2, h3⟩ hno
  rintro r H4 ⟨hx4', ⟨hok, rfl⟩ | ⟨hok, rfl⟩⟩
  · have hx4 := hx3.trans hx4'
    have hnD := hx4.next
    simp only [hOut_f]
    (repeat' (first | refine rc_reg ?_ | refine rc_seq ?_ | refine rk_done ?_ | refine rn_seq_n ?_ | refine rc_blk ?_ | refine rc_skip ?_ | refine rc_exit ?_ | refine rc_ret ?_ | refine rc_scp ?_ | refine rn_seq_e ?_ | refine rn_seq_r ?_ | refine rn_blk_n ?_ | refine rn_blk_r ?_ | refine rn_blk_e ?_ | refine rn_scp_n ?_ | refine rn_scp_e ?_ | refine rn_scp_r ?_ | refine rk_sk ?_ | refine rn_blk_x (by decide) ?_ | ((first | apply rk_mv' | apply rk_p1 | apply rk_p2 | apply rk_r1 | apply rk_ln | apply rk_ls); · (first | (simp (disch := omega) only [evl, Nat.reduceEqDiff, Nat.reduceAdd, reduceIte, reduceCtorEq] <;> exact rfl) | exact rfl)) | ((first | apply rc_cond | apply rk_gd); (· (first | (simp (disch := omega) only [evl, Nat.reduceEqDiff, Nat.reduceAdd, reduceIte, reduceCtorEq] <;> exact rfl) | exact rfl)); all_goals (intro hb; try simp only [bvl, ne_eq, Bool.not_true, Bool.not_false, reduceCtorEq, not_true_eq_false] at hb)) | (refine rk_gd_u ?_ ?_; · (first | (simp (disch := omega) only [evl, Nat.reduceEqDiff, Nat.reduceAdd, reduceIte, reduceCtorEq] <;> exact rfl) | exact rfl))))
    refine rk_cl (by (simp (disch := omega) only [evl, Nat.reduceEqDiff, Nat.reduceAdd, reduceIte, reduceCtorEq]); exact check_ok H4 u m (hu.hx hx4) (hx4.hide.trans hh) (by rw [hx4.lo]; omega) (by omega)) ?_
    rintro r H5 ⟨hx5', ⟨hom, rfl⟩ | ⟨hom, rfl⟩⟩
    · exact absurd ⟨hok, hom⟩ hno
    simp only [hOut_f]
    (repeat' (first | refine rc_reg ?_ | refine rc_seq ?_ | refine rk_done ?_ | refine rc_blk ?_ | refine rc_skip ?_ | refine rc_exit ?_ | refine rc_ret ?_ | refine rc_scp ?_ | refine rn_seq_e ?_ | refine rn_seq_r ?_ | refine rn_blk_n ?_ | refine rn_blk_r ?_ | refine rn_blk_e ?_ | refine rn_scp_n ?_ | refine rn_scp_e ?_ | refine rn_scp_r ?_ | refine rk_sk ?_ | refine rn_blk_x (by decide) ?_ | ((first | apply rk_mv' | apply rk_p1 | apply rk_p2 | apply rk_r1 | apply rk_ln | apply rk_ls); · (first | (simp (disch := omega) only [evl, Nat.reduceEqDiff, Nat.reduceAdd, reduceIte, reduceCtorEq] <;> exact rfl) | exact rfl)) | ((first | apply rc_cond | apply rk_gd); (· (first | (simp (disch := omega) only [evl, Nat.reduceEqDiff, Nat.reduceAdd, reduceIte, reduceCtorEq] <;> exact rfl) | exact rfl)); all_goals (intro hb; try simp only [bvl, ne_eq, Bool.not_true, Bool.not_false, reduceCtorEq, not_true_eq_false] at hb)) | (refine rk_gd_u ?_ ?_; · (first | (simp (disch := omega) only [evl, Nat.reduceEqDiff, Nat.reduceAdd, reduceIte, reduceCtorEq] <;> exact rfl) | exact rfl))))
    refine rn_seq_n ?_
    refine rc_cond_t (by (simp (disch := omega) only [evl, Nat.reduceEqDiff, Nat.reduceAdd, reduceIte, reduceCtorEq])) ?_
    refine rc_seq ?_
    refine rc_reg ?_
    exact last _ H5 (by (first | (simp (disch := omega) only [evl, Nat.reduceEqDiff, Nat.reduceAdd, reduceIte, reduceCtorEq] <;> exact rfl) | exact rfl)) (by (first | (simp (disch := omega) only [evl, Nat.reduceEqDiff, Nat.reduceAdd, reduceIte, reduceCtorEq] <;> exact rfl) | exact rfl)) (by (first | (simp (disch := omega) only [evl, Nat.reduceEqDiff, Nat.reduceAdd, reduceIte, reduceCtorEq] <;> exact rfl) | exact rfl)) (by (first | (simp (disch := omega) only [evl, Nat.reduceEqDiff, Nat.reduceAdd, reduceIte, reduceCtorEq] <;> exact rfl) | exact rfl)) (by (first | (simp (disch := omega) only [evl, Nat.reduceEqDiff, Nat.reduceAdd, reduceIte, reduceCtorEq] <;> exact rfl) | exact rfl)) (by (first | (simp (disch := omega) only [evl, Nat.reduceEqDiff, Nat.reduceAdd, reduceIte, reduceCtorEq] <;> exact rfl) | exact rfl)) (hx4.trans hx5')
  · have hx4 := hx3.trans hx4'
    simp only [hOut_f]
    (repeat' (first | refine rc_reg ?_ | refine rc_seq ?_ | refine rk_done ?_ | refine rc_blk ?_ | refine rc_skip ?_ | refine rc_exit ?_ | refine rc_ret ?_ | refine rc_scp ?_ | refine rn_seq_e ?_ | refine rn_seq_r ?_ | refine rn_blk_n ?_ | refine rn_blk_r ?_ | refine rn_blk_e ?_ | refine rn_scp_n ?_ | refine rn_scp_e ?_ | refine rn_scp_r ?_ | refine rk_sk ?_ | refine rn_blk_x (by decide) ?_ | ((first | apply rk_mv' | apply rk_p1 | apply rk_p2 | apply rk_r1 | apply rk_ln | apply rk_ls); · (first | (simp (disch := omega) only [evl, Nat.reduceEqDiff, Nat.reduceAdd, reduceIte, reduceCtorEq] <;> exact rfl) | exact rfl)) | ((first | apply rc_cond | apply rk_gd); (· (first | (simp (disch := omega) only [evl, Nat.reduceEqDiff, Nat.reduceAdd, reduceIte, reduceCtorEq] <;> exact rfl) | exact rfl)); all_goals (intro hb; try simp only [bvl, ne_eq, Bool.not_true, Bool.not_false, reduceCtorEq, not_true_eq_false] at hb)) | (refine rk_gd_u ?_ ?_; · (first | (simp (disch := omega) only [evl, Nat.reduceEqDiff, Nat.reduceAdd, reduceIte, reduceCtorEq] <;> exact rfl) | exact rfl))))
    refine rn_seq_n ?_
    refine rc_cond_t (by (simp (disch := omega) only [evl, Nat.reduceEqDiff, Nat.reduceAdd, reduceIte, reduceCtorEq])) ?_
    refine rc_seq ?_
    refine rc_reg ?_
    exact last _ H4 (by (first | (simp (disch := omega) only [evl, Nat.reduceEqDiff, Nat.reduceAdd, reduceIte, reduceCtorEq] <;> exact rfl) | exact rfl)) (by (first | (simp (disch := omega) only [evl, Nat.reduceEqDiff, Nat.reduceAdd, reduceIte, reduceCtorEq] <;> exact rfl) | exact rfl)) (by (first | (simp (disch := omega) only [evl, Nat.reduceEqDiff, Nat.reduceAdd, reduceIte, reduceCtorEq] <;> exact rfl) | exact rfl)) (by (first | (simp (disch := omega) only [evl, Nat.reduceEqDiff, Nat.reduceAdd, reduceIte, reduceCtorEq] <;> exact rfl) | exact rfl)) (by (first | (simp (disch := omega) only [evl, Nat.reduceEqDiff, Nat.reduceAdd, reduceIte, reduceCtorEq] <;> exact rfl) | exact rfl)) (by (first | (simp (disch := omega) only [evl, Nat.reduceEqDiff, Nat.reduceAdd, reduceIte, reduceCtorEq] <;> exact rfl) | exact rfl)) hx4
end Go.Proofs.Ytnkomaedmblemaa

set_option linter.unusedSimpArgs false
set_option linter.unusedVariables false
set_option maxRecDepth 100000
namespace Go.Proofs.Ytnkomaedmblemaa
open Go.Ev Exl

abbrev orF : Bool → Bool → Bool := fun a b => a || b
abbrev cutF : Bool → Bool → Bool := fun a b => a && !b
abbrev andF : Bool → Bool → Bool := fun a b => a && b

set_option maxHeartbeats 16000000 in
theorem sets_good (H : AH) (v u : AV) (l m : List P) (hs : SlX H v l) (hu : SlX H u m) (hh : H.hide = []) (hlo : H.lo ≤ H.next) (hbig : ¬ 300 < l.length) (hbig2 : ¬ 300 < m.length) (hok : Ok 0 l) (hom : Ok 0 m) :
    FnE look 4 [v, u] H fun r H' => r = .bool true ∧ HX H H' := by
  refine fn_intro f4_eq (noext rfl) rfl ?_
  unfold f4c
  have hlen := fun H' => len_el (H' := H') u22 hs.is
  have hlen2 := fun H' => len_el (H' := H') u22 hu.is
  (repeat' (first | refine rc_reg ?_ | refine rc_seq ?_ | refine rk_done ?_ | refine rn_seq_n ?_ | refine rc_blk ?_ | refine rc_skip ?_ | refine rc_exit ?_ | refine rc_ret ?_ | refine rc_scp ?_ | refine rn_seq_e ?_ | refine rn_seq_r ?_ | refine rn_blk_n ?_ | refine rn_blk_r ?_ | refine rn_blk_e ?_ | refine rn_scp_n ?_ | refine rn_scp_e ?_ | refine rn_scp_r ?_ | refine rk_sk ?_ | refine rn_blk_x (by decide) ?_ | ((first | apply rk_mv' | apply rk_p1 | apply rk_p2 | apply rk_r1 | apply rk_ln | apply rk_ls); · (first | (simp (disch := omega) only [evl, Nat.reduceEqDiff, Nat.reduceAdd, reduceIte, reduceCtorEq] <;> exact rfl) | exact rfl)) | ((first | apply rc_cond | apply rk_gd); (· (first | (simp (disch := omega) only [evl, Nat.reduceEqDiff, Nat.reduceAdd, reduceIte, reduceCtorEq] <;> exact rfl) | exact rfl)); all_goals (intro hb; try simp only [bvl, ne_eq, Bool.not_true, Bool.not_false, reduceCtorEq, not_true_eq_false] at hb)) | (refine rk_gd_u ?_ ?_; · (first | (simp (disch := omega) only [evl, Nat.reduceEqDiff, Nat.reduceAdd, reduceIte, reduceCtorEq] <;> exact rfl) | exact rfl))))
  refine rk_cl (by (simp (disch := omega) only [evl, Nat.reduceEqDiff, Nat.reduceAdd, reduceIte, reduceCtorEq]); exact awake_ok H) ?_
  rintro r H0 ⟨rfl, hH0⟩
  subst hH0
  simp only [hOut_f]
  (repeat' (first | refine rc_reg ?_ | refine rc_seq ?_ | refine rk_done ?_ | refine rn_seq_n ?_ | refine rc_blk ?_ | refine rc_skip ?_ | refine rc_exit ?_ | refine rc_ret ?_ | refine rc_scp ?_ | refine rn_seq_e ?_ | refine rn_seq_r ?_ | refine rn_blk_n ?_ | refine rn_blk_r ?_ | refine rn_blk_e ?_ | refine rn_scp_n ?_ | refine rn_scp_e ?_ | refine rn_scp_r ?_ | refine rk_sk ?_ | refine rn_blk_x (by decide) ?_ | ((first | apply rk_mv' | apply rk_p1 | apply rk_p2 | apply rk_r1 | apply rk_ln | apply rk_ls); · (first | (simp (disch := omega) only [evl, Nat.reduceEqDiff, Nat.reduceAdd, reduceIte, reduceCtorEq, hlen, hlen2] <;> exact rfl) | exact rfl)) | ((first | apply rc_cond | apply rk_gd); (· (first | (simp (disch := omega) only [evl, Nat.reduceEqDiff, Nat.reduceAdd, reduceIte, reduceCtorEq, hlen, hlen2] <;> exact rfl) | exact rfl)); all_goals (intro hb; try simp only [bvl, ne_eq, Bool.not_true, Bool.not_false, reduceCtorEq, not_true_eq_false] at hb)) | (refine rk_gd_u ?_ ?_; · (first | (simp (disch := omega) only [evl, Nat.reduceEqDiff, Nat.reduceAdd, reduceIte, reduceCtorEq, hlen, hlen2] <;> exact rfl) | exact rfl))))
  refine rk_cl (by (simp (disch := omega) only [evl, Nat.reduceEqDiff, Nat.reduceAdd, reduceIte, reduceCtorEq]); exact add_ok H0 _ _ _ _ hs hu hh hlo (by omega) (by omega)) ?_
  rintro r H1 ⟨hmk, hlaw⟩
  obtain ⟨y0, sS, rfl, hapS⟩ := hmk.good hok hom
  have okS := (hlaw hok hom).1
  have hasS := hasB_mk rfl hlaw hok hom
  have lenS := mkX_len orF l m
  clear hmk hlaw
  simp only [hOut_f]
  have b0_1 : HX H0 H1 := y0
  (repeat' (first | refine rc_reg ?_ | refine rc_seq ?_ | refine rk_done ?_ | refine rn_seq_n ?_ | refine rc_blk ?_ | refine rc_skip ?_ | refine rc_exit ?_ | refine rc_ret ?_ | refine rc_scp ?_ | refine rn_seq_e ?_ | refine rn_seq_r ?_ | refine rn_blk_n ?_ | refine rn_blk_r ?_ | refine rn_blk_e ?_ | refine rn_scp_n ?_ | refine rn_scp_e ?_ | refine rn_scp_r ?_ | refine rk_sk ?_ | refine rn_blk_x (by decide) ?_ | ((first | apply rk_mv' | apply rk_p1 | apply rk_p2 | apply rk_r1 | apply rk_ln | apply rk_ls); · (first | (simp (disch := omega) only [evl, Nat.reduceEqDiff, Nat.reduceAdd, reduceIte, reduceCtorEq] <;> exact rfl) | exact rfl)) | ((first | apply rc_cond | apply rk_gd); (· (first | (simp (disch := omega) only [evl, Nat.reduceEqDiff, Nat.reduceAdd, reduceIte, reduceCtorEq] <;> exact rfl) | exact rfl)); all_goals (intro hb; try simp only [bvl, ne_eq, Bool.not_true, Bool.not_false, reduceCtorEq, not_true_eq_false] at hb)) | (refine rk_gd_u ?_ ?_; · (first | (simp (disch := omega) only [evl, Nat.reduceEqDiff, Nat.reduceAdd, reduceIte, reduceCtorEq] <;> exact rfl) | exact rfl))))
  refine rk_cl (by (simp (disch := omega) only [evl, Nat.reduceEqDiff, Nat.reduceAdd, reduceIte, reduceCtorEq]); exact cut_ok H1 _ _ _ _ (hs.hx b0_1) (hu.hx b0_1) (b0_1.hide.trans hh) (by rw [b0_1.lo]; have := b0_1.next; omega) (by omega) (by omega)) ?_
  rintro r H2 ⟨hmk, hlaw⟩
  obtain ⟨y1, sR, rfl, hapR⟩ := hmk.good hok hom
  have okR := (hlaw hok hom).1
  have hasR := hasB_mk rfl hlaw hok hom
  have lenR := mkX_len cutF l m
  clear hmk hlaw
  simp only [hOut_f]
  have b0_2 : HX H0 H2 := (y0).trans y1
  have b1_2 : HX H1 H2 := y1
  (repeat' (first | refine rc_reg ?_ | refine rc_seq ?_ | refine rk_done ?_ | refine rn_seq_n ?_ | refine rc_blk ?_ | refine rc_skip ?_ | refine rc_exit ?_ | refine rc_ret ?_ | refine rc_scp ?_ | refine rn_seq_e ?_ | refine rn_seq_r ?_ | refine rn_blk_n ?_ | refine rn_blk_r ?_ | refine rn_blk_e ?_ | refine rn_scp_n ?_ | refine rn_scp_e ?_ | refine rn_scp_r ?_ | refine rk_sk ?_ | refine rn_blk_x (by decide) ?_ | ((first | apply rk_mv' | apply rk_p1 | apply rk_p2 | apply rk_r1 | apply rk_ln | apply rk_ls); · (first | (simp (disch := omega) only [evl, Nat.reduceEqDiff, Nat.reduceAdd, reduceIte, reduceCtorEq] <;> exact rfl) | exact rfl)) | ((first | apply rc_cond | apply rk_gd); (· (first | (simp (disch := omega) only [evl, Nat.reduceEqDiff, Nat.reduceAdd, reduceIte, reduceCtorEq] <;> exact rfl) | exact rfl)); all_goals (intro hb; try simp only [bvl, ne_eq, Bool.not_true, Bool.not_false, reduceCtorEq, not_true_eq_false] at hb)) | (refine rk_gd_u ?_ ?_; · (first | (simp (disch := omega) only [evl, Nat.reduceEqDiff, Nat.reduceAdd, reduceIte, reduceCtorEq] <;> exact rfl) | exact rfl))))
  refine rk_cl (by (simp (disch := omega) only [evl, Nat.reduceEqDiff, Nat.reduceAdd, reduceIte, reduceCtorEq]); exact both_ok H2 _ _ _ _ (hs.hx b0_2) (hu.hx b0_2) (b0_2.hide.trans hh) (by rw [b0_2.lo]; have := b0_2.next; omega) (by omega) (by omega)) ?_
  rintro r H3 ⟨hmk, hlaw⟩
  obtain ⟨y2, sC, rfl, hapC⟩ := hmk.good hok hom
  have okC := (hlaw hok hom).1
  have hasC := hasB_mk rfl hlaw hok hom
  have lenC := mkX_len andF l m
  clear hmk hlaw
  simp only [hOut_f]
  have b0_3 : HX H0 H3 := ((y0).trans y1).trans y2
  have b1_3 : HX H1 H3 := (y1).trans y2
  have b2_3 : HX H2 H3 := y2
  (repeat' (first | refine rc_reg ?_ | refine rc_seq ?_ | refine rk_done ?_ | refine rn_seq_n ?_ | refine rc_blk ?_ | refine rc_skip ?_ | refine rc_exit ?_ | refine rc_ret ?_ | refine rc_scp ?_ | refine rn_seq_e ?_ | refine rn_seq_r ?_ | refine rn_blk_n ?_ | refine rn_blk_r ?_ | refine rn_blk_e ?_ | refine rn_scp_n ?_ | refine rn_scp_e ?_ | refine rn_scp_r ?_ | refine rk_sk ?_ | refine rn_blk_x (by decide) ?_ | ((first | apply rk_mv' | apply rk_p1 | apply rk_p2 | apply rk_r1 | apply rk_ln | apply rk_ls); · (first | (simp (disch := omega) only [evl, Nat.reduceEqDiff, Nat.reduceAdd, reduceIte, reduceCtorEq] <;> exact rfl) | exact rfl)) | ((first | apply rc_cond | apply rk_gd); (· (first | (simp (disch := omega) only [evl, Nat.reduceEqDiff, Nat.reduceAdd, reduceIte, reduceCtorEq] <;> exact rfl) | exact rfl)); all_goals (intro hb; try simp only [bvl, ne_eq, Bool.not_true, Bool.not_false, reduceCtorEq, not_true_eq_false] at hb)) | (refine rk_gd_u ?_ ?_; · (first | (simp (disch := omega) only [evl, Nat.reduceEqDiff, Nat.reduceAdd, reduceIte, reduceCtorEq] <;> exact rfl) | exact rfl))))
  refine rk_cl (by (simp (disch := omega) only [evl, Nat.reduceEqDiff, Nat.reduceAdd, reduceIte, reduceCtorEq]); exact check_good H3 _ _ (hs.hx b0_3) (b0_3.hide.trans hh) (by rw [b0_3.lo]; have := b0_3.next; omega) (by omega) hok) ?_
  rintro r H4 ⟨y3, rfl⟩
  simp only [hOut_f]
  have b0_4 : HX H0 H4 := (((y0).trans y1).trans y2).trans y3
  have b1_4 : HX H1 H4 := ((y1).trans y2).trans y3
  have b2_4 : HX H2 H4 := (y2).trans y3
  have b3_4 : HX H3 H4 := y3
  (repeat' (first | refine rc_reg ?_ | refine rc_seq ?_ | refine rk_done ?_ | refine rn_seq_n ?_ | refine rc_blk ?_ | refine rc_skip ?_ | refine rc_exit ?_ | refine rc_ret ?_ | refine rc_scp ?_ | refine rn_seq_e ?_ | refine rn_seq_r ?_ | refine rn_blk_n ?_ | refine rn_blk_r ?_ | refine rn_blk_e ?_ | refine rn_scp_n ?_ | refine rn_scp_e ?_ | refine rn_scp_r ?_ | refine rk_sk ?_ | refine rn_blk_x (by decide) ?_ | ((first | apply rk_mv' | apply rk_p1 | apply rk_p2 | apply rk_r1 | apply rk_ln | apply rk_ls); · (first | (simp (disch := omega) only [evl, Nat.reduceEqDiff, Nat.reduceAdd, reduceIte, reduceCtorEq] <;> exact rfl) | exact rfl)) | ((first | apply rc_cond | apply rk_gd); (· (first | (simp (disch := omega) only [evl, Nat.reduceEqDiff, Nat.reduceAdd, reduceIte, reduceCtorEq] <;> exact rfl) | exact rfl)); all_goals (intro hb; try simp only [bvl, ne_eq, Bool.not_true, Bool.not_false, reduceCtorEq, not_true_eq_false] at hb)) | (refine rk_gd_u ?_ ?_; · (first | (simp (disch := omega) only [evl, Nat.reduceEqDiff, Nat.reduceAdd, reduceIte, reduceCtorEq] <;> exact rfl) | exact rfl))))
  refine rk_cl (by (simp (disch := omega) only [evl, Nat.reduceEqDiff, Nat.reduceAdd, reduceIte, reduceCtorEq]); exact check_good H4 _ _ (hu.hx b0_4) (b0_4.hide.trans hh) (by rw [b0_4.lo]; have := b0_4.next; omega) (by omega) hom) ?_
  rintro r H5 ⟨y4, rfl⟩
  simp only [hOut_f]
  have b0_5 : HX H0 H5 := ((((y0).trans y1).trans y2).trans y3).trans y4
  have b1_5 : HX H1 H5 := (((y1).trans y2).trans y3).trans y4
  have b2_5 : HX H2 H5 := ((y2).trans y3).trans y4
  have b3_5 : HX H3 H5 := (y3).trans y4
  (repeat' (first | refine rc_reg ?_ | refine rc_seq ?_ | refine rk_done ?_ | refine rn_seq_n ?_ | refine rc_blk ?_ | refine rc_skip ?_ | refine rc_exit ?_ | refine rc_ret ?_ | refine rc_scp ?_ | refine rn_seq_e ?_ | refine rn_seq_r ?_ | refine rn_blk_n ?_ | refine rn_blk_r ?_ | refine rn_blk_e ?_ | refine rn_scp_n ?_ | refine rn_scp_e ?_ | refine rn_scp_r ?_ | refine rk_sk ?_ | refine rn_blk_x (by decide) ?_ | ((first | apply rk_mv' | apply rk_p1 | apply rk_p2 | apply rk_r1 | apply rk_ln | apply rk_ls); · (first | (simp (disch := omega) only [evl, Nat.reduceEqDiff, Nat.reduceAdd, reduceIte, reduceCtorEq] <;> exact rfl) | exact rfl)) | ((first | apply rc_cond | apply rk_gd); (· (first | (simp (disch := omega) only [evl, Nat.reduceEqDiff, Nat.reduceAdd, reduceIte, reduceCtorEq] <;> exact rfl) | exact rfl)); all_goals (intro hb; try simp only [bvl, ne_eq, Bool.not_true, Bool.not_false, reduceCtorEq, not_true_eq_false] at hb)) | (refine rk_gd_u ?_ ?_; · (first | (simp (disch := omega) only [evl, Nat.reduceEqDiff, Nat.reduceAdd, reduceIte, reduceCtorEq] <;> exact rfl) | exact rfl))))
  refine rk_cl (by (simp (disch := omega) only [evl, Nat.reduceEqDiff, Nat.reduceAdd, reduceIte, reduceCtorEq]); exact add_ok H5 _ _ _ _ (hapR.slZ.hx b2_5) (hapC.slZ.hx b3_5) (b0_5.hide.trans hh) (by rw [b0_5.lo]; have := b0_5.next; omega) (by exact Nat.le_trans lenR (by omega)) (by exact Nat.le_trans lenC (by omega))) ?_
  rintro r H6 ⟨hmk, hlaw⟩
  obtain ⟨y5, sA, rfl, hapA⟩ := hmk.good okR okC
  have okA := (hlaw okR okC).1
  have hasA := hasB_mk rfl hlaw okR okC
  have lenA := mkX_len orF (mkX cutF l m) (mkX andF l m)
  clear hmk hlaw
  simp only [hOut_f]
  have b0_6 : HX H0 H6 := (((((y0).trans y1).trans y2).trans y3).trans y4).trans y5
  have b1_6 : HX H1 H6 := ((((y1).trans y2).trans y3).trans y4).trans y5
  have b2_6 : HX H2 H6 := (((y2).trans y3).trans y4).trans y5
  have b3_6 : HX H3 H6 := ((y3).trans y4).trans y5
  (repeat' (first | refine rc_reg ?_ | refine rc_seq ?_ | refine rk_done ?_ | refine rn_seq_n ?_ | refine rc_blk ?_ | refine rc_skip ?_ | refine rc_exit ?_ | refine rc_ret ?_ | refine rc_scp ?_ | refine rn_seq_e ?_ | refine rn_seq_r ?_ | refine rn_blk_n ?_ | refine rn_blk_r ?_ | refine rn_blk_e ?_ | refine rn_scp_n ?_ | refine rn_scp_e ?_ | refine rn_scp_r ?_ | refine rk_sk ?_ | refine rn_blk_x (by decide) ?_ | ((first | apply rk_mv' | apply rk_p1 | apply rk_p2 | apply rk_r1 | apply rk_ln | apply rk_ls); · (first | (simp (disch := omega) only [evl, Nat.reduceEqDiff, Nat.reduceAdd, reduceIte, reduceCtorEq] <;> exact rfl) | exact rfl)) | ((first | apply rc_cond | apply rk_gd); (· (first | (simp (disch := omega) only [evl, Nat.reduceEqDiff, Nat.reduceAdd, reduceIte, reduceCtorEq] <;> exact rfl) | exact rfl)); all_goals (intro hb; try simp only [bvl, ne_eq, Bool.not_true, Bool.not_false, reduceCtorEq, not_true_eq_false] at hb)) | (refine rk_gd_u ?_ ?_; · (first | (simp (disch := omega) only [evl, Nat.reduceEqDiff, Nat.reduceAdd, reduceIte, reduceCtorEq] <;> exact rfl) | exact rfl))))
  refine rk_cl (by (simp (disch := omega) only [evl, Nat.reduceEqDiff, Nat.reduceAdd, reduceIte, reduceCtorEq]); exact both_ok H6 _ _ _ _ (hapR.slZ.hx b2_6) (hapC.slZ.hx b3_6) (b0_6.hide.trans hh) (by rw [b0_6.lo]; have := b0_6.next; omega) (by exact Nat.le_trans lenR (by omega)) (by exact Nat.le_trans lenC (by omega))) ?_
  rintro r H7 ⟨hmk, hlaw⟩
  obtain ⟨y6, sN, rfl, hapN⟩ := hmk.good okR okC
  have okN := (hlaw okR okC).1
  have hasN := hasB_mk rfl hlaw okR okC
  have lenN := mkX_len andF (mkX cutF l m) (mkX andF l m)
  clear hmk hlaw
  simp only [hOut_f]
  have b0_7 : HX H0 H7 := ((((((y0).trans y1).trans y2).trans y3).trans y4).trans y5).trans y6
  have b1_7 : HX H1 H7 := (((((y1).trans y2).trans y3).trans y4).trans y5).trans y6
  have b2_7 : HX H2 H7 := ((((y2).trans y3).trans y4).trans y5).trans y6
  have b3_7 : HX H3 H7 := (((y3).trans y4).trans y5).trans y6
  have b6_7 : HX H6 H7 := y6
  (repeat' (first | refine rc_reg ?_ | refine rc_seq ?_ | refine rk_done ?_ | refine rn_seq_n ?_ | refine rc_blk ?_ | refine rc_skip ?_ | refine rc_exit ?_ | refine rc_ret ?_ | refine rc_scp ?_ | refine rn_seq_e ?_ | refine rn_seq_r ?_ | refine rn_blk_n ?_ | refine rn_blk_r ?_ | refine rn_blk_e ?_ | refine rn_scp_n ?_ | refine rn_scp_e ?_ | refine rn_scp_r ?_ | refine rk_sk ?_ | refine rn_blk_x (by decide) ?_ | ((first | apply rk_mv' | apply rk_p1 | apply rk_p2 | apply rk_r1 | apply rk_ln | apply rk_ls); · (first | (simp (disch := omega) only [evl, Nat.reduceEqDiff, Nat.reduceAdd, reduceIte, reduceCtorEq] <;> exact rfl) | exact rfl)) | ((first | apply rc_cond | apply rk_gd); (· (first | (simp (disch := omega) only [evl, Nat.reduceEqDiff, Nat.reduceAdd, reduceIte, reduceCtorEq] <;> exact rfl) | exact rfl)); all_goals (intro hb; try simp only [bvl, ne_eq, Bool.not_true, Bool.not_false, reduceCtorEq, not_true_eq_false] at hb)) | (refine rk_gd_u ?_ ?_; · (first | (simp (disch := omega) only [evl, Nat.reduceEqDiff, Nat.reduceAdd, reduceIte, reduceCtorEq] <;> exact rfl) | exact rfl))))
  refine rk_cl (by (simp (disch := omega) only [evl, Nat.reduceEqDiff, Nat.reduceAdd, reduceIte, reduceCtorEq]); exact add_ok H7 _ _ _ _ (hu.hx b0_7) (hs.hx b0_7) (b0_7.hide.trans hh) (by rw [b0_7.lo]; have := b0_7.next; omega) (by omega) (by omega)) ?_
  rintro r H8 ⟨hmk, hlaw⟩
  obtain ⟨y7, sW, rfl, hapW⟩ := hmk.good hom hok
  have okW := (hlaw hom hok).1
  have hasW := hasB_mk rfl hlaw hom hok
  have lenW := mkX_len orF m l
  clear hmk hlaw
  simp only [hOut_f]
  have b0_8 : HX H0 H8 := (((((((y0).trans y1).trans y2).trans y3).trans y4).trans y5).trans y6).trans y7
  have b1_8 : HX H1 H8 := ((((((y1).trans y2).trans y3).trans y4).trans y5).trans y6).trans y7
  have b2_8 : HX H2 H8 := (((((y2).trans y3).trans y4).trans y5).trans y6).trans y7
  have b3_8 : HX H3 H8 := ((((y3).trans y4).trans y5).trans y6).trans y7
  have b6_8 : HX H6 H8 := (y6).trans y7
  have b7_8 : HX H7 H8 := y7
  have eA : mkX orF (mkX cutF l m) (mkX andF l m) = l := eq_of_hasB okA hok fun x => by
    rw [hasA, hasR, hasC]; cases hasB l x <;> cases hasB m x <;> rfl
  have eN : mkX andF (mkX cutF l m) (mkX andF l m) = [] := nil_of_hasB okN fun x => by
    rw [hasN, hasR, hasC]; cases hasB l x <;> cases hasB m x <;> rfl
  have eW : mkX orF m l = mkX orF l m := eq_of_hasB okW okS fun x => by
    rw [hasW, hasS]; cases hasB l x <;> cases hasB m x <;> rfl
  have eT : tot (mkX orF l m) + tot (mkX andF l m) = tot l + tot m := by
    rw [tot_card okS, tot_card okC, tot_card hok, tot_card hom]
    exact card_sum (fun x => ⟨hasS x, hasC x⟩) 4096
  rw [eA] at hapA
  rw [eN] at hapN
  have hN0 : ∀ H', fstO (builtinF .len look [22] [sN] H') = some (.int .i64 0) := fun H' => len_el u22 hapN.isSl
  clear hasA hasN okA okN lenA lenN
  (repeat' (first | refine rc_reg ?_ | refine rc_seq ?_ | refine rk_done ?_ | refine rn_seq_n ?_ | refine rc_blk ?_ | refine rc_skip ?_ | refine rc_exit ?_ | refine rc_ret ?_ | refine rc_scp ?_ | refine rn_seq_e ?_ | refine rn_seq_r ?_ | refine rn_blk_n ?_ | refine rn_blk_r ?_ | refine rn_blk_e ?_ | refine rn_scp_n ?_ | refine rn_scp_e ?_ | refine rn_scp_r ?_ | refine rk_sk ?_ | refine rn_blk_x (by decide) ?_ | ((first | apply rk_mv' | apply rk_p1 | apply rk_p2 | apply rk_r1 | apply rk_ln | apply rk_ls); · (first | (simp (disch := omega) only [evl, Nat.reduceEqDiff, Nat.reduceAdd, reduceIte, reduceCtorEq] <;> exact rfl) | exact rfl)) | ((first | apply rc_cond | apply rk_gd); (· (first | (simp (disch := omega) only [evl, Nat.reduceEqDiff, Nat.reduceAdd, reduceIte, reduceCtorEq] <;> exact rfl) | exact rfl)); all_goals (intro hb; try simp only [bvl, ne_eq, Bool.not_true, Bool.not_false, reduceCtorEq, not_true_eq_false] at hb)) | (refine rk_gd_u ?_ ?_; · (first | (simp (disch := omega) only [evl, Nat.reduceEqDiff, Nat.reduceAdd, reduceIte, reduceCtorEq] <;> exact rfl) | exact rfl))))
  refine rk_cl (by (simp (disch := omega) only [evl, Nat.reduceEqDiff, Nat.reduceAdd, reduceIte, reduceCtorEq]); exact sameX_ok H8 _ _ _ _ (hapA.slZ.hx b6_8) (hs.hx b0_8) (by omega) (by omega)) ?_
  rintro r Hq8 ⟨rfl, hHq8⟩
  cases hHq8
  simp only [hOut_f, decide_eq_true (rfl : l = l)]
  (repeat' (first | refine rc_reg ?_ | refine rc_seq ?_ | refine rk_done ?_ | refine rn_seq_n ?_ | refine rc_blk ?_ | refine rc_skip ?_ | refine rc_exit ?_ | refine rc_ret ?_ | refine rc_scp ?_ | refine rn_seq_e ?_ | refine rn_seq_r ?_ | refine rn_blk_n ?_ | refine rn_blk_r ?_ | refine rn_blk_e ?_ | refine rn_scp_n ?_ | refine rn_scp_e ?_ | refine rn_scp_r ?_ | refine rk_sk ?_ | refine rn_blk_x (by decide) ?_ | ((first | apply rk_mv' | apply rk_p1 | apply rk_p2 | apply rk_r1 | apply rk_ln | apply rk_ls); · (first | (simp (disch := omega) only [evl, Nat.reduceEqDiff, Nat.reduceAdd, reduceIte, reduceCtorEq, hN0] <;> exact rfl) | exact rfl)) | ((first | apply rc_cond | apply rk_gd); (· (first | (simp (disch := omega) only [evl, Nat.reduceEqDiff, Nat.reduceAdd, reduceIte, reduceCtorEq, hN0] <;> exact rfl) | exact rfl)); all_goals (intro hb; try simp only [bvl, ne_eq, Bool.not_true, Bool.not_false, reduceCtorEq, not_true_eq_false] at hb)) | (refine rk_gd_u ?_ ?_; · (first | (simp (disch := omega) only [evl, Nat.reduceEqDiff, Nat.reduceAdd, reduceIte, reduceCtorEq, hN0] <;> exact rfl) | exact rfl))))
  refine rk_cl (by (simp (disch := omega) only [evl, Nat.reduceEqDiff, Nat.reduceAdd, reduceIte, reduceCtorEq]); exact sameX_ok H8 _ _ _ _ hapW.slZ (hapS.slZ.hx b1_8) (by exact Nat.le_trans lenW (by omega)) (by exact Nat.le_trans lenS (by omega))) ?_
  rintro r Hr8 ⟨rfl, hHr8⟩
  cases hHr8
  simp only [hOut_f, decide_eq_true eW]
  (repeat' (first | refine rc_reg ?_ | refine rc_seq ?_ | refine rk_done ?_ | refine rn_seq_n ?_ | refine rc_blk ?_ | refine rc_skip ?_ | refine rc_exit ?_ | refine rc_ret ?_ | refine rc_scp ?_ | refine rn_seq_e ?_ | refine rn_seq_r ?_ | refine rn_blk_n ?_ | refine rn_blk_r ?_ | refine rn_blk_e ?_ | refine rn_scp_n ?_ | refine rn_scp_e ?_ | refine rn_scp_r ?_ | refine rk_sk ?_ | refine rn_blk_x (by decide) ?_ | ((first | apply rk_mv' | apply rk_p1 | apply rk_p2 | apply rk_r1 | apply rk_ln | apply rk_ls); · (first | (simp (disch := omega) only [evl, Nat.reduceEqDiff, Nat.reduceAdd, reduceIte, reduceCtorEq] <;> exact rfl) | exact rfl)) | ((first | apply rc_cond | apply rk_gd); (· (first | (simp (disch := omega) only [evl, Nat.reduceEqDiff, Nat.reduceAdd, reduceIte, reduceCtorEq] <;> exact rfl) | exact rfl)); all_goals (intro hb; try simp only [bvl, ne_eq, Bool.not_true, Bool.not_false, reduceCtorEq, not_true_eq_false] at hb)) | (refine rk_gd_u ?_ ?_; · (first | (simp (disch := omega) only [evl, Nat.reduceEqDiff, Nat.reduceAdd, reduceIte, reduceCtorEq] <;> exact rfl) | exact rfl))))
  refine rk_cl (by (simp (disch := omega) only [evl, Nat.reduceEqDiff, Nat.reduceAdd, reduceIte, reduceCtorEq]); exact count_good H8 _ _ (hapS.slZ.hx b1_8) (b0_8.hide.trans hh) (by rw [b0_8.lo]; have := b0_8.next; omega) (by exact Nat.le_trans lenS (by omega)) okS) ?_
  rintro r H9 ⟨y8, rfl⟩
  simp only [hOut_f]
  have b0_9 : HX H0 H9 := ((((((((y0).trans y1).trans y2).trans y3).trans y4).trans y5).trans y6).trans y7).trans y8
  have b1_9 : HX H1 H9 := (((((((y1).trans y2).trans y3).trans y4).trans y5).trans y6).trans y7).trans y8
  have b2_9 : HX H2 H9 := ((((((y2).trans y3).trans y4).trans y5).trans y6).trans y7).trans y8
  have b3_9 : HX H3 H9 := (((((y3).trans y4).trans y5).trans y6).trans y7).trans y8
  have b6_9 : HX H6 H9 := ((y6).trans y7).trans y8
  have b7_9 : HX H7 H9 := (y7).trans y8
  have b8_9 : HX H8 H9 := y8
  (repeat' (first | refine rc_reg ?_ | refine rc_seq ?_ | refine rk_done ?_ | refine rn_seq_n ?_ | refine rc_blk ?_ | refine rc_skip ?_ | refine rc_exit ?_ | refine rc_ret ?_ | refine rc_scp ?_ | refine rn_seq_e ?_ | refine rn_seq_r ?_ | refine rn_blk_n ?_ | refine rn_blk_r ?_ | refine rn_blk_e ?_ | refine rn_scp_n ?_ | refine rn_scp_e ?_ | refine rn_scp_r ?_ | refine rk_sk ?_ | refine rn_blk_x (by decide) ?_ | ((first | apply rk_mv' | apply rk_p1 | apply rk_p2 | apply rk_r1 | apply rk_ln | apply rk_ls); · (first | (simp (disch := omega) only [evl, Nat.reduceEqDiff, Nat.reduceAdd, reduceIte, reduceCtorEq] <;> exact rfl) | exact rfl)) | ((first | apply rc_cond | apply rk_gd); (· (first | (simp (disch := omega) only [evl, Nat.reduceEqDiff, Nat.reduceAdd, reduceIte, reduceCtorEq] <;> exact rfl) | exact rfl)); all_goals (intro hb; try simp only [bvl, ne_eq, Bool.not_true, Bool.not_false, reduceCtorEq, not_true_eq_false] at hb)) | (refine rk_gd_u ?_ ?_; · (first | (simp (disch := omega) only [evl, Nat.reduceEqDiff, Nat.reduceAdd, reduceIte, reduceCtorEq] <;> exact rfl) | exact rfl))))
  refine rk_cl (by (simp (disch := omega) only [evl, Nat.reduceEqDiff, Nat.reduceAdd, reduceIte, reduceCtorEq]); exact count_good H9 _ _ (hapC.slZ.hx b3_9) (b0_9.hide.trans hh) (by rw [b0_9.lo]; have := b0_9.next; omega) (by exact Nat.le_trans lenC (by omega)) okC) ?_
  rintro r H10 ⟨y9, rfl⟩
  simp only [hOut_f]
  have b0_10 : HX H0 H10 := (((((((((y0).trans y1).trans y2).trans y3).trans y4).trans y5).trans y6).trans y7).trans y8).trans y9
  have b1_10 : HX H1 H10 := ((((((((y1).trans y2).trans y3).trans y4).trans y5).trans y6).trans y7).trans y8).trans y9
  have b2_10 : HX H2 H10 := (((((((y2).trans y3).trans y4).trans y5).trans y6).trans y7).trans y8).trans y9
  have b3_10 : HX H3 H10 := ((((((y3).trans y4).trans y5).trans y6).trans y7).trans y8).trans y9
  have b6_10 : HX H6 H10 := (((y6).trans y7).trans y8).trans y9
  have b7_10 : HX H7 H10 := ((y7).trans y8).trans y9
  have b8_10 : HX H8 H10 := (y8).trans y9
  (repeat' (first | refine rc_reg ?_ | refine rc_seq ?_ | refine rk_done ?_ | refine rn_seq_n ?_ | refine rc_blk ?_ | refine rc_skip ?_ | refine rc_exit ?_ | refine rc_ret ?_ | refine rc_scp ?_ | refine rn_seq_e ?_ | refine rn_seq_r ?_ | refine rn_blk_n ?_ | refine rn_blk_r ?_ | refine rn_blk_e ?_ | refine rn_scp_n ?_ | refine rn_scp_e ?_ | refine rn_scp_r ?_ | refine rk_sk ?_ | refine rn_blk_x (by decide) ?_ | ((first | apply rk_mv' | apply rk_p1 | apply rk_p2 | apply rk_r1 | apply rk_ln | apply rk_ls); · (first | (simp (disch := omega) only [evl, Nat.reduceEqDiff, Nat.reduceAdd, reduceIte, reduceCtorEq] <;> exact rfl) | exact rfl)) | ((first | apply rc_cond | apply rk_gd); (· (first | (simp (disch := omega) only [evl, Nat.reduceEqDiff, Nat.reduceAdd, reduceIte, reduceCtorEq] <;> exact rfl) | exact rfl)); all_goals (intro hb; try simp only [bvl, ne_eq, Bool.not_true, Bool.not_false, reduceCtorEq, not_true_eq_false] at hb)) | (refine rk_gd_u ?_ ?_; · (first | (simp (disch := omega) only [evl, Nat.reduceEqDiff, Nat.reduceAdd, reduceIte, reduceCtorEq] <;> exact rfl) | exact rfl))))
  refine rk_cl (by (simp (disch := omega) only [evl, Nat.reduceEqDiff, Nat.reduceAdd, reduceIte, reduceCtorEq]); exact count_good H10 _ _ (hs.hx b0_10) (b0_10.hide.trans hh) (by rw [b0_10.lo]; have := b0_10.next; omega) (by omega) hok) ?_
  rintro r H11 ⟨y10, rfl⟩
  simp only [hOut_f]
  have b0_11 : HX H0 H11 := ((((((((((y0).trans y1).trans y2).trans y3).trans y4).trans y5).trans y6).trans y7).trans y8).trans y9).trans y10
  have b1_11 : HX H1 H11 := (((((((((y1).trans y2).trans y3).trans y4).trans y5).trans y6).trans y7).trans y8).trans y9).trans y10
  have b2_11 : HX H2 H11 := ((((((((y2).trans y3).trans y4).trans y5).trans y6).trans y7).trans y8).trans y9).trans y10
  have b3_11 : HX H3 H11 := (((((((y3).trans y4).trans y5).trans y6).trans y7).trans y8).trans y9).trans y10
  have b6_11 : HX H6 H11 := ((((y6).trans y7).trans y8).trans y9).trans y10
  have b7_11 : HX H7 H11 := (((y7).trans y8).trans y9).trans y10
  have b8_11 : HX H8 H11 := ((y8).trans y9).trans y10
  (repeat' (first | refine rc_reg ?_ | refine rc_seq ?_ | refine rk_done ?_ | refine rn_seq_n ?_ | refine rc_blk ?_ | refine rc_skip ?_ | refine rc_exit ?_ | refine rc_ret ?_ | refine rc_scp ?_ | refine rn_seq_e ?_ | refine rn_seq_r ?_ | refine rn_blk_n ?_ | refine rn_blk_r ?_ | refine rn_blk_e ?_ | refine rn_scp_n ?_ | refine rn_scp_e ?_ | refine rn_scp_r ?_ | refine rk_sk ?_ | refine rn_blk_x (by decide) ?_ | ((first | apply rk_mv' | apply rk_p1 | apply rk_p2 | apply rk_r1 | apply rk_ln | apply rk_ls); · (first | (simp (disch := omega) only [evl, Nat.reduceEqDiff, Nat.reduceAdd, reduceIte, reduceCtorEq] <;> exact rfl) | exact rfl)) | ((first | apply rc_cond | apply rk_gd); (· (first | (simp (disch := omega) only [evl, Nat.reduceEqDiff, Nat.reduceAdd, reduceIte, reduceCtorEq] <;> exact rfl) | exact rfl)); all_goals (intro hb; try simp only [bvl, ne_eq, Bool.not_true, Bool.not_false, reduceCtorEq, not_true_eq_false] at hb)) | (refine rk_gd_u ?_ ?_; · (first | (simp (disch := omega) only [evl, Nat.reduceEqDiff, Nat.reduceAdd, reduceIte, reduceCtorEq] <;> exact rfl) | exact rfl))))
  refine rk_cl (by (simp (disch := omega) only [evl, Nat.reduceEqDiff, Nat.reduceAdd, reduceIte, reduceCtorEq]); exact count_good H11 _ _ (hu.hx b0_11) (b0_11.hide.trans hh) (by rw [b0_11.lo]; have := b0_11.next; omega) (by omega) hom) ?_
  rintro r H12 ⟨y11, rfl⟩
  simp only [hOut_f]
  have b0_12 : HX H0 H12 := (((((((((((y0).trans y1).trans y2).trans y3).trans y4).trans y5).trans y6).trans y7).trans y8).trans y9).trans y10).trans y11
  have b1_12 : HX H1 H12 := ((((((((((y1).trans y2).trans y3).trans y4).trans y5).trans y6).trans y7).trans y8).trans y9).trans y10).trans y11
  have b2_12 : HX H2 H12 := (((((((((y2).trans y3).trans y4).trans y5).trans y6).trans y7).trans y8).trans y9).trans y10).trans y11
  have b3_12 : HX H3 H12 := ((((((((y3).trans y4).trans y5).trans y6).trans y7).trans y8).trans y9).trans y10).trans y11
  have b6_12 : HX H6 H12 := (((((y6).trans y7).trans y8).trans y9).trans y10).trans y11
  have b7_12 : HX H7 H12 := ((((y7).trans y8).trans y9).trans y10).trans y11
  have b8_12 : HX H8 H12 := (((y8).trans y9).trans y10).trans y11
  have tS := Ok.tot (by omega) okS
  have tC := Ok.tot (by omega) okC
  have tl := Ok.tot (by omega) hok
  have tm := Ok.tot (by omega) hom
  generalize tot (mkX orF l m) = q1 at *
  generalize tot (mkX andF l m) = q2 at *
  generalize tot l = q3 at *
  generalize tot m = q4 at *
  (repeat' (first | refine rc_reg ?_ | refine rc_seq ?_ | refine rk_done ?_ | refine rn_seq_n ?_ | refine rc_blk ?_ | refine rc_skip ?_ | refine rc_exit ?_ | refine rc_ret ?_ | refine rc_scp ?_ | refine rn_seq_e ?_ | refine rn_seq_r ?_ | refine rn_blk_n ?_ | refine rn_blk_r ?_ | refine rn_blk_e ?_ | refine rn_scp_n ?_ | refine rn_scp_e ?_ | refine rn_scp_r ?_ | refine rk_sk ?_ | refine rn_blk_x (by decide) ?_ | ((first | apply rk_mv' | apply rk_p1 | apply rk_p2 | apply rk_r1 | apply rk_ln | apply rk_ls); · (first | (simp (disch := omega) only [evl, Nat.reduceEqDiff, Nat.reduceAdd, reduceIte, reduceCtorEq] <;> exact rfl) | exact rfl)) | ((first | apply rc_cond | apply rk_gd); (· (first | (simp (disch := omega) only [evl, Nat.reduceEqDiff, Nat.reduceAdd, reduceIte, reduceCtorEq] <;> exact rfl) | exact rfl)); all_goals (intro hb; try simp only [bvl, ne_eq, Bool.not_true, Bool.not_false, reduceCtorEq, not_true_eq_false] at hb)) | (refine rk_gd_u ?_ ?_; · (first | (simp (disch := omega) only [evl, Nat.reduceEqDiff, Nat.reduceAdd, reduceIte, reduceCtorEq] <;> exact rfl) | exact rfl))))

  have lw := mk_law (f := cutF) rfl (l := l) (m := mkX orF l m)
  have e1 : mkX cutF l (mkX orF l m) = [] := nil_of_hasB (lw hok okS).1 fun x => by
    rw [hasB_mk rfl lw hok okS, hasS]; cases hasB l x <;> cases hasB m x <;> rfl
  have lw2 := mk_law (f := cutF) rfl (l := mkX andF l m) (m := m)
  have e2 : mkX cutF (mkX andF l m) m = [] := nil_of_hasB (lw2 okC hom).1 fun x => by
    rw [hasB_mk rfl lw2 okC hom, hasC]; cases hasB l x <;> cases hasB m x <;> rfl
  have d1 : decide ((mkX cutF l (mkX orF l m)).length = 0) = true := by rw [e1]; rfl
  have d2 : decide ((mkX cutF (mkX andF l m) m).length = 0) = true := by rw [e2]; rfl
  refine rk_cl (by (simp (disch := omega) only [evl, Nat.reduceEqDiff, Nat.reduceAdd, reduceIte, reduceCtorEq]); exact within_good H12 _ _ _ _ (hs.hx b0_12) (hapS.slZ.hx b1_12) (b0_12.hide.trans hh) (by rw [b0_12.lo]; have := b0_12.next; omega) (by omega) (by exact Nat.le_trans lenS (by omega)) hok okS) ?_
  rintro r H13 ⟨y12, rfl⟩
  simp only [hOut_f]
  have b0_13 : HX H0 H13 := ((((((((((((y0).trans y1).trans y2).trans y3).trans y4).trans y5).trans y6).trans y7).trans y8).trans y9).trans y10).trans y11).trans y12
  have b1_13 : HX H1 H13 := (((((((((((y1).trans y2).trans y3).trans y4).trans y5).trans y6).trans y7).trans y8).trans y9).trans y10).trans y11).trans y12
  have b2_13 : HX H2 H13 := ((((((((((y2).trans y3).trans y4).trans y5).trans y6).trans y7).trans y8).trans y9).trans y10).trans y11).trans y12
  have b3_13 : HX H3 H13 := (((((((((y3).trans y4).trans y5).trans y6).trans y7).trans y8).trans y9).trans y10).trans y11).trans y12
  have b6_13 : HX H6 H13 := ((((((y6).trans y7).trans y8).trans y9).trans y10).trans y11).trans y12
  have b7_13 : HX H7 H13 := (((((y7).trans y8).trans y9).trans y10).trans y11).trans y12
  have b8_13 : HX H8 H13 := ((((y8).trans y9).trans y10).trans y11).trans y12
  simp only [d1]
  (repeat' (first | refine rc_reg ?_ | refine rc_seq ?_ | refine rk_done ?_ | refine rn_seq_n ?_ | refine rc_blk ?_ | refine rc_skip ?_ | refine rc_exit ?_ | refine rc_ret ?_ | refine rc_scp ?_ | refine rn_seq_e ?_ | refine rn_seq_r ?_ | refine rn_blk_n ?_ | refine rn_blk_r ?_ | refine rn_blk_e ?_ | refine rn_scp_n ?_ | refine rn_scp_e ?_ | refine rn_scp_r ?_ | refine rk_sk ?_ | refine rn_blk_x (by decide) ?_ | ((first | apply rk_mv' | apply rk_p1 | apply rk_p2 | apply rk_r1 | apply rk_ln | apply rk_ls); · (first | (simp (disch := omega) only [evl, Nat.reduceEqDiff, Nat.reduceAdd, reduceIte, reduceCtorEq] <;> exact rfl) | exact rfl)) | ((first | apply rc_cond | apply rk_gd); (· (first | (simp (disch := omega) only [evl, Nat.reduceEqDiff, Nat.reduceAdd, reduceIte, reduceCtorEq] <;> exact rfl) | exact rfl)); all_goals (intro hb; try simp only [bvl, ne_eq, Bool.not_true, Bool.not_false, reduceCtorEq, not_true_eq_false] at hb)) | (refine rk_gd_u ?_ ?_; · (first | (simp (disch := omega) only [evl, Nat.reduceEqDiff, Nat.reduceAdd, reduceIte, reduceCtorEq] <;> exact rfl) | exact rfl))))
  refine rk_cl (by (simp (disch := omega) only [evl, Nat.reduceEqDiff, Nat.reduceAdd, reduceIte, reduceCtorEq]); exact within_good H13 _ _ _ _ (hapC.slZ.hx b3_13) (hu.hx b0_13) (b0_13.hide.trans hh) (by rw [b0_13.lo]; have := b0_13.next; omega) (by exact Nat.le_trans lenC (by omega)) (by omega) okC hom) ?_
  rintro r H14 ⟨y13, rfl⟩
  simp only [hOut_f]
  have b0_14 : HX H0 H14 := (((((((((((((y0).trans y1).trans y2).trans y3).trans y4).trans y5).trans y6).trans y7).trans y8).trans y9).trans y10).trans y11).trans y12).trans y13
  have b1_14 : HX H1 H14 := ((((((((((((y1).trans y2).trans y3).trans y4).trans y5).trans y6).trans y7).trans y8).trans y9).trans y10).trans y11).trans y12).trans y13
  have b2_14 : HX H2 H14 := (((((((((((y2).trans y3).trans y4).trans y5).trans y6).trans y7).trans y8).trans y9).trans y10).trans y11).trans y12).trans y13
  have b3_14 : HX H3 H14 := ((((((((((y3).trans y4).trans y5).trans y6).trans y7).trans y8).trans y9).trans y10).trans y11).trans y12).trans y13
  have b6_14 : HX H6 H14 := (((((((y6).trans y7).trans y8).trans y9).trans y10).trans y11).trans y12).trans y13
  have b7_14 : HX H7 H14 := ((((((y7).trans y8).trans y9).trans y10).trans y11).trans y12).trans y13
  have b8_14 : HX H8 H14 := (((((y8).trans y9).trans y10).trans y11).trans y12).trans y13
  simp only [d2]
  (repeat' (first | refine rc_reg ?_ | refine rc_seq ?_ | refine rk_done ?_ | refine rn_seq_n ?_ | refine rc_blk ?_ | refine rc_skip ?_ | refine rc_exit ?_ | refine rc_ret ?_ | refine rc_scp ?_ | refine rn_seq_e ?_ | refine rn_seq_r ?_ | refine rn_blk_n ?_ | refine rn_blk_r ?_ | refine rn_blk_e ?_ | refine rn_scp_n ?_ | refine rn_scp_e ?_ | refine rn_scp_r ?_ | refine rk_sk ?_ | refine rn_blk_x (by decide) ?_ | ((first | apply rk_mv' | apply rk_p1 | apply rk_p2 | apply rk_r1 | apply rk_ln | apply rk_ls); · (first | (simp (disch := omega) only [evl, Nat.reduceEqDiff, Nat.reduceAdd, reduceIte, reduceCtorEq] <;> exact rfl) | exact rfl)) | ((first | apply rc_cond | apply rk_gd); (· (first | (simp (disch := omega) only [evl, Nat.reduceEqDiff, Nat.reduceAdd, reduceIte, reduceCtorEq] <;> exact rfl) | exact rfl)); all_goals (intro hb; try simp only [bvl, ne_eq, Bool.not_true, Bool.not_false, reduceCtorEq, not_true_eq_false] at hb)) | (refine rk_gd_u ?_ ?_; · (first | (simp (disch := omega) only [evl, Nat.reduceEqDiff, Nat.reduceAdd, reduceIte, reduceCtorEq] <;> exact rfl) | exact rfl))))
  refine rk_cl (by (simp (disch := omega) only [evl, Nat.reduceEqDiff, Nat.reduceAdd, reduceIte, reduceCtorEq]); exact within_good H14 _ _ _ _ (hs.hx b0_14) (hu.hx b0_14) (b0_14.hide.trans hh) (by rw [b0_14.lo]; have := b0_14.next; omega) (by omega) (by omega) hok hom) ?_
  rintro r H15 ⟨y14, rfl⟩
  simp only [hOut_f]
  have b0_15 : HX H0 H15 := ((((((((((((((y0).trans y1).trans y2).trans y3).trans y4).trans y5).trans y6).trans y7).trans y8).trans y9).trans y10).trans y11).trans y12).trans y13).trans y14
  have b1_15 : HX H1 H15 := (((((((((((((y1).trans y2).trans y3).trans y4).trans y5).trans y6).trans y7).trans y8).trans y9).trans y10).trans y11).trans y12).trans y13).trans y14
  have b2_15 : HX H2 H15 := ((((((((((((y2).trans y3).trans y4).trans y5).trans y6).trans y7).trans y8).trans y9).trans y10).trans y11).trans y12).trans y13).trans y14
  have b3_15 : HX H3 H15 := (((((((((((y3).trans y4).trans y5).trans y6).trans y7).trans y8).trans y9).trans y10).trans y11).trans y12).trans y13).trans y14
  have b6_15 : HX H6 H15 := ((((((((y6).trans y7).trans y8).trans y9).trans y10).trans y11).trans y12).trans y13).trans y14
  have b7_15 : HX H7 H15 := (((((((y7).trans y8).trans y9).trans y10).trans y11).trans y12).trans y13).trans y14
  have b8_15 : HX H8 H15 := ((((((y8).trans y9).trans y10).trans y11).trans y12).trans y13).trans y14
  have hRl : ∀ H', fstO (builtinF .len look [22] [sR] H') = some (.int .i64 (mkX cutF l m).length) := fun H' => len_el u22 hapR.isSl
  have fin : ∀ T, gT T 4 = .bool true → FnQ look [.tmp 4] (fun r H' => r = .bool true ∧ HX H0 H') .ret T H15 := fun T h4 => fq_ret (resV_1 _ _) ⟨h4, b0_15⟩
  generalize (mkX cutF l m).length = nn at *
  have hq := fun xo yo a => eq4 xo yo a a
  by_cases hz : nn = 0
  · subst hz
    have hq := fun xo yo => eq4 xo yo true true
    simp only [decide_true] at hq ⊢
    (repeat' (first | refine rc_reg ?_ | refine rc_seq ?_ | refine rk_done ?_ | refine rn_seq_n ?_ | refine rc_blk ?_ | refine rc_skip ?_ | refine rc_exit ?_ | refine rc_ret ?_ | refine rc_scp ?_ | refine rn_seq_e ?_ | refine rn_seq_r ?_ | refine rn_blk_n ?_ | refine rn_blk_r ?_ | refine rn_blk_e ?_ | refine rn_scp_n ?_ | refine rn_scp_e ?_ | refine rn_scp_r ?_ | refine rk_sk ?_ | refine rn_blk_x (by decide) ?_ | ((first | apply rk_mv' | apply rk_p1 | apply rk_p2 | apply rk_r1 | apply rk_ln | apply rk_ls); · (first | (simp (disch := omega) only [evl, Nat.reduceEqDiff, Nat.reduceAdd, reduceIte, reduceCtorEq, hRl, hq] <;> exact rfl) | exact rfl)) | ((first | apply rc_cond | apply rk_gd); (· (first | (simp (disch := omega) only [evl, Nat.reduceEqDiff, Nat.reduceAdd, reduceIte, reduceCtorEq, hRl, hq] <;> exact rfl) | exact rfl)); all_goals (intro hb; try simp only [bvl, ne_eq, Bool.not_true, Bool.not_false, reduceCtorEq, not_true_eq_false] at hb)) | (refine rk_gd_u ?_ ?_; · (first | (simp (disch := omega) only [evl, Nat.reduceEqDiff, Nat.reduceAdd, reduceIte, reduceCtorEq, hRl, hq] <;> exact rfl) | exact rfl))))
    refine rn_nil ?_; exact fin _ (by (first | (simp (disch := omega) only [evl, Nat.reduceEqDiff, Nat.reduceAdd, reduceIte, reduceCtorEq] <;> exact rfl) | exact rfl))
  · have hq := fun xo yo => eq4 xo yo false false
    rw [show decide (nn = 0) = false from decide_eq_false hz]
    simp only [decide_true] at hq ⊢
    have hz' : ¬ ((nn : Int) = 0) := by omega
    (repeat' (first | refine rc_reg ?_ | refine rc_seq ?_ | refine rk_done ?_ | refine rn_seq_n ?_ | refine rc_blk ?_ | refine rc_skip ?_ | refine rc_exit ?_ | refine rc_ret ?_ | refine rc_scp ?_ | refine rn_seq_e ?_ | refine rn_seq_r ?_ | refine rn_blk_n ?_ | refine rn_blk_r ?_ | refine rn_blk_e ?_ | refine rn_scp_n ?_ | refine rn_scp_e ?_ | refine rn_scp_r ?_ | refine rk_sk ?_ | refine rn_blk_x (by decide) ?_ | ((first | apply rk_mv' | apply rk_p1 | apply rk_p2 | apply rk_r1 | apply rk_ln | apply rk_ls); · (first | (simp (disch := omega) only [evl, Nat.reduceEqDiff, Nat.reduceAdd, reduceIte, reduceCtorEq, hRl, hq] <;> exact rfl) | exact rfl)) | ((first | apply rc_cond | apply rk_gd); (· (first | (simp (disch := omega) only [evl, Nat.reduceEqDiff, Nat.reduceAdd, reduceIte, reduceCtorEq, hRl, hq] <;> exact rfl) | exact rfl)); all_goals (intro hb; try simp only [bvl, ne_eq, Bool.not_true, Bool.not_false, reduceCtorEq, not_true_eq_false] at hb)) | (refine rk_gd_u ?_ ?_; · (first | (simp (disch := omega) only [evl, Nat.reduceEqDiff, Nat.reduceAdd, reduceIte, reduceCtorEq, hRl, hq] <;> exact rfl) | exact rfl))))
    refine rn_nil ?_; exact fin _ (by (first | (simp (disch := omega) only [evl, Nat.reduceEqDiff, Nat.reduceAdd, reduceIte, reduceCtorEq] <;> exact rfl) | exact rfl))

theorem sets_ok (H : AH) (v u : AV) (l m : List P) (hs : SlX H v l) (hu : SlX H u m) (hh : H.hide = []) (hlo : H.lo ≤ H.next) (hl : l.length ≤ 9223372036854775807) (hm : m.length ≤ 9223372036854775807) :
    FnE look 4 [v, u] H fun r H' => r = .bool true ∧ HX H H' := by
  by_cases hb1 : 300 < l.length ∨ 300 < m.length
  · refine fn_intro f4_eq (noext rfl) rfl ?_
    unfold f4c
    have hlen := fun H' => len_el (H' := H') u22 hs.is
    have hlen2 := fun H' => len_el (H' := H') u22 hu.is
    (repeat' (first | refine rc_reg ?_ | refine rc_seq ?_ | refine rk_done ?_ | refine rn_seq_n ?_ | refine rc_blk ?_ | refine rc_skip ?_ | refine rc_exit ?_ | refine rc_ret ?_ | refine rc_scp ?_ | refine rn_seq_e ?_ | refine rn_seq_r ?_ | refine rn_blk_n ?_ | refine rn_blk_r ?_ | refine rn_blk_e ?_ | refine rn_scp_n ?_ | refine rn_scp_e ?_ | refine rn_scp_r ?_ | refine rk_sk ?_ | refine rn_blk_x (by decide) ?_ | ((first | apply rk_mv' | apply rk_p1 | apply rk_p2 | apply rk_r1 | apply rk_ln | apply rk_ls); · (first | (simp (disch := omega) only [evl, Nat.reduceEqDiff, Nat.reduceAdd, reduceIte, reduceCtorEq] <;> exact rfl) | exact rfl)) | ((first | apply rc_cond | apply rk_gd); (· (first | (simp (disch := omega) only [evl, Nat.reduceEqDiff, Nat.reduceAdd, reduceIte, reduceCtorEq] <;> exact rfl) | exact rfl)); all_goals (intro hb; try simp only [bvl, ne_eq, Bool.not_true, Bool.not_false, reduceCtorEq, not_true_eq_false] at hb)) | (refine rk_gd_u ?_ ?_; · (first | (simp (disch := omega) only [evl, Nat.reduceEqDiff, Nat.reduceAdd, reduceIte, reduceCtorEq] <;> exact rfl) | exact rfl))))
    refine rk_cl (by (simp (disch := omega) only [evl, Nat.reduceEqDiff, Nat.reduceAdd, reduceIte, reduceCtorEq]); exact awake_ok H) ?_
    rintro r H0 ⟨rfl, hH0⟩
    subst hH0
    simp only [hOut_f]
    by_cases hbig : 300 < l.length
    · (repeat' (first | refine rc_reg ?_ | refine rc_seq ?_ | refine rk_done ?_ | refine rn_seq_n ?_ | refine rc_blk ?_ | refine rc_skip ?_ | refine rc_exit ?_ | refine rc_ret ?_ | refine rc_scp ?_ | refine rn_seq_e ?_ | refine rn_seq_r ?_ | refine rn_blk_n ?_ | refine rn_blk_r ?_ | refine rn_blk_e ?_ | refine rn_scp_n ?_ | refine rn_scp_e ?_ | refine rn_scp_r ?_ | refine rk_sk ?_ | refine rn_blk_x (by decide) ?_ | ((first | apply rk_mv' | apply rk_p1 | apply rk_p2 | apply rk_r1 | apply rk_ln | apply rk_ls); · (first | (simp (disch := omega) only [evl, Nat.reduceEqDiff, Nat.reduceAdd, reduceIte, reduceCtorEq, hlen, hlen2] <;> exact rfl) | exact rfl)) | ((first | apply rc_cond | apply rk_gd); (· (first | (simp (disch := omega) only [evl, Nat.reduceEqDiff, Nat.reduceAdd, reduceIte, reduceCtorEq, hlen, hlen2] <;> exact rfl) | exact rfl)); all_goals (intro hb; try simp only [bvl, ne_eq, Bool.not_true, Bool.not_false, reduceCtorEq, not_true_eq_false] at hb)) | (refine rk_gd_u ?_ ?_; · (first | (simp (disch := omega) only [evl, Nat.reduceEqDiff, Nat.reduceAdd, reduceIte, reduceCtorEq, hlen, hlen2] <;> exact rfl) | exact rfl))))
      refine rn_nil ?_; refine fq_ret (resV_1 _ _) ⟨?_, HX.refl _⟩
      (simp (disch := omega) only [evl, Nat.reduceEqDiff, Nat.reduceAdd, reduceIte, reduceCtorEq])
    · have hbig2 : 300 < m.length := by omega
      (repeat' (first | refine rc_reg ?_ | refine rc_seq ?_ | refine rk_done ?_ | refine rn_seq_n ?_ | refine rc_blk ?_ | refine rc_skip ?_ | refine rc_exit ?_ | refine rc_ret ?_ | refine rc_scp ?_ | refine rn_seq_e ?_ | refine rn_seq_r ?_ | refine rn_blk_n ?_ | refine rn_blk_r ?_ | refine rn_blk_e ?_ | refine rn_scp_n ?_ | refine rn_scp_e ?_ | refine rn_scp_r ?_ | refine rk_sk ?_ | refine rn_blk_x (by decide) ?_ | ((first | apply rk_mv' | apply rk_p1 | apply rk_p2 | apply rk_r1 | apply rk_ln | apply rk_ls); · (first | (simp (disch := omega) only [evl, Nat.reduceEqDiff, Nat.reduceAdd, reduceIte, reduceCtorEq, hlen, hlen2] <;> exact rfl) | exact rfl)) | ((first | apply rc_cond | apply rk_gd); (· (first | (simp (disch := omega) only [evl, Nat.reduceEqDiff, Nat.reduceAdd, reduceIte, reduceCtorEq, hlen, hlen2] <;> exact rfl) | exact rfl)); all_goals (intro hb; try simp only [bvl, ne_eq, Bool.not_true, Bool.not_false, reduceCtorEq, not_true_eq_false] at hb)) | (refine rk_gd_u ?_ ?_; · (first | (simp (disch := omega) only [evl, Nat.reduceEqDiff, Nat.reduceAdd, reduceIte, reduceCtorEq, hlen, hlen2] <;> exact rfl) | exact rfl))))
      refine rn_nil ?_; refine fq_ret (resV_1 _ _) ⟨?_, HX.refl _⟩
      (simp (disch := omega) only [evl, Nat.reduceEqDiff, Nat.reduceAdd, reduceIte, reduceCtorEq])
  · by_cases hno : Ok 0 l ∧ Ok 0 m
    · exact sets_good H v u l m hs hu hh hlo (by omega) (by omega) hno.1 hno.2
    · exact sets_bad H v u l m hs hu hh hlo (by omega) (by omega) hno
end Go.Proofs.Ytnkomaedmblemaa
