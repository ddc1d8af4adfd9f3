import Derived.Test.YtnkomaedmblemaaStD
import Derived.Test.YtnkomaedmblemaaCtB
import Derived.Test.YtnkomaedmblemaaExB
set_option linter.unusedSimpArgs false
set_option linter.unusedVariables false
set_option maxRecDepth 100000
namespace Go.Proofs.Ytnkomaedmblemaa
open Go.Ev Exl

theorem MkR.tup {H H' : AH} {f : Bool → Bool → Bool} {l m : List P} {r : AV} (h : MkR H f l m r H') : ∃ a e, r = .tup [a, .int .i64 e] := by
  rcases h.2 with ⟨_, rfl⟩ | ⟨_, _, s, rfl, _⟩ <;> exact ⟨_, _, rfl⟩
end Go.Proofs.Ytnkomaedmblemaa

set_option linter.unusedSimpArgs false
set_option linter.unusedVariables false
set_option maxRecDepth 100000
namespace Go.Proofs.Ytnkomaedmblemaa
open Go.Ev Exl

/-! ### Plain laws of sets -/
theorem hasB_neg {l : List P} (h : Ok 0 l) {x : Int} (hx : x < 0) : hasB l x = false := by
  cases hb : hasB l x with
  | false => rfl
  | true => have := Ok.has h x ((hasB_iff l x).1 hb); omega
theorem hasB_mk {f : Bool → Bool → Bool} {l m : List P} (hf : f false false = false) (h : MkL f l m) (hl : Ok 0 l) (hm : Ok 0 m) (x : Int) : hasB (mkX f l m) x = f (hasB l x) (hasB m x) := by
  obtain ⟨h1, h2⟩ := h hl hm
  by_cases hx : x < 0
  · rw [hasB_neg h1 hx, hasB_neg hl hx, hasB_neg hm hx, hf]
  · rw [Bool.eq_iff_iff, hasB_iff, h2]
    exact ⟨fun h => h.2, fun h => ⟨by omega, h⟩⟩
theorem eq_of_hasB {l m : List P} (hl : Ok 0 l) (hm : Ok 0 m) (h : ∀ x, hasB l x = hasB m x) : l = m := by
  have e := mkX_eq (f := fun a _ => a) (l := l) (m := []) (out := l) hl fun x => by
    rw [hasB_iff]; exact ⟨fun h => ⟨(Ok.has hl x h).1, h⟩, fun h => h.2⟩
  have e2 := mkX_eq (f := fun a _ => a) (l := l) (m := []) (out := m) hm fun x => by
    rw [h x, hasB_iff]; exact ⟨fun h => ⟨(Ok.has hm x h).1, h⟩, fun h => h.2⟩
  exact e.symm.trans e2
def cardTo (l : List P) : Nat → Int
  | 0 => 0
  | i + 1 => cardTo l i + if hasB l (i : Nat) = true then 1 else 0
def setOf (l : List P) : List Bool := (List.range 4096).map fun i => hasB l (i : Nat)
theorem setOf_get (l : List P) {i : Nat} (hi : i < 4096) : (setOf l).getD i false = hasB l (i : Nat) := by
  unfold setOf
  rw [List.getD_eq_getElem?_getD, List.getElem?_map, List.getElem?_range hi]; rfl
theorem card_list (l : List P) : ∀ i, i ≤ 4096 → ((listTo (setOf l) i).length : Int) = cardTo l i
  | 0, _ => rfl
  | i + 1, hi => by
    have ih := card_list l i (by omega)
    rw [listTo, setOf_get l (by omega), cardTo]
    split
    · rw [List.length_append, Int.natCast_add, ih]; rfl
    · rw [ih]; omega
theorem tot_card {l : List P} (h : Ok 0 l) : tot l = cardTo l 4096 := by
  rw [← card_list l 4096 (Nat.le_refl _), list_eq h (fun i hi => by rw [setOf_get l hi, hasB_iff]), secs_len h.pos]
theorem nil_of_hasB {l : List P} (hl : Ok 0 l) (h : ∀ x, hasB l x = false) : l = [] := eq_of_hasB hl trivial fun x => by rw [h x]; rfl

theorem swp_all {f : Bool → Bool → Bool} {ys : List Ed} (hs : srt ys 0 ys.length) (hb : ∀ e ∈ ys, 0 ≤ e.1 ∧ e.1 ≤ 4096) : ∀ i, i ≤ ys.length → ∃ at' a b out, Swp f ys i at' a b out
  | 0, _ => ⟨0, false, false, [], Swp.init f hb⟩
  | i + 1, hi => by
    obtain ⟨at', a, b, out, h⟩ := swp_all hs hb i (by omega)
    exact ⟨_, _, _, _, h.step (by omega) hs hb⟩
theorem mk_law {f : Bool → Bool → Bool} (hf : f false false = false) {l m : List P} : MkL f l m := fun hok hom => by
  obtain ⟨ys, hp, hs⟩ : ∃ ys : List Ed, ys.Perm (edL false l ++ edL true m) ∧ srt ys 0 ys.length := by
    refine ⟨(edL false l ++ edL true m).mergeSort (fun a b => decide (a.1 ≤ b.1)), List.mergeSort_perm _ _, fun s t _ hst ht => ?_⟩
    have h := List.pairwise_mergeSort (le := fun (a b : Ed) => decide (a.1 ≤ b.1)) (fun a b c h1 h2 => by simp only [decide_eq_true_eq] at *; omega) (fun a b => by simp only [Bool.or_eq_true, decide_eq_true_eq]; omega) (edL false l ++ edL true m)
    have := (List.pairwise_iff_getElem.1 h) s t (by omega) ht hst
    unfold key
    rw [edG_el (by omega), edG_el ht]
    exact of_decide_eq_true this
  have hb : ∀ e ∈ ys, 0 ≤ e.1 ∧ e.1 ≤ 4096 := fun e he => by
    rcases List.mem_append.1 (hp.mem_iff.1 he) with he | he
    · exact edL_bd false hok (Int.le_refl _) e he
    · exact edL_bd true hom (Int.le_refl _) e he
  obtain ⟨at', a, b, out, h⟩ := swp_all (f := f) hs hb ys.length (Nat.le_refl _)
  obtain ⟨q1, q2⟩ := h.fin hf hok hom hp
  rw [mkX_eq q1 q2]; exact ⟨q1, q2⟩

theorem MkR.good {H H' : AH} {f : Bool → Bool → Bool} {l m : List P} {r : AV} (h : MkR H f l m r H') (hl : Ok 0 l) (hm : Ok 0 m) : HX H H' ∧ ∃ s, r = .tup [s, .int .i64 0] ∧ Ap H' s (mkX f l m).length (exC (mkX f l m)) 43 2 H.next := by
  rcases h.2 with ⟨h1, _⟩ | ⟨_, _, s, h2, h3⟩
  · exact absurd ⟨hl, hm⟩ h1
  · exact ⟨h.1, s, h2, h3⟩
theorem MkR.bad {H H' : AH} {f : Bool → Bool → Bool} {l m : List P} {r : AV} (h : MkR H f l m r H') (hno : ¬ (Ok 0 l ∧ Ok 0 m)) : HX H H' ∧ r = .tup [.nilSl, .int .i64 2] := by
  rcases h.2 with ⟨_, h1⟩ | ⟨h2, h3, _⟩
  · exact ⟨h.1, h1⟩
  · exact absurd ⟨h2, h3⟩ hno
theorem mkX_len (f : Bool → Bool → Bool) (l m : List P) : (mkX f l m).length ≤ 4096 := runsTo_len _ _

theorem count_good (H : AH) (v : AV) (l : List P) (hs : SlX H v l) (hh : H.hide = []) (hlo : H.lo ≤ H.next) (hl : l.length ≤ 1000000) (hok : Ok 0 l) : FnE look 23 [v] H fun r H' => HX H H' ∧ r = .int .i64 (tot l) :=
  (count_ok H v l hs hh hlo hl).mono fun r H' ⟨h, h2⟩ => ⟨h, by rcases h2 with h2 | h2; exact absurd hok h2.1; exact h2.2⟩
theorem within_good (H : AH) (v u : AV) (l m : List P) (hs : SlX H v l) (hu : SlX H u m) (hh : H.hide = []) (hlo : H.lo ≤ H.next) (hl : l.length ≤ 1000000) (hm : m.length ≤ 1000000) (hok : Ok 0 l) (hom : Ok 0 m) :
    FnE look 20 [v, u] H fun r H' => HX H H' ∧ r = .bool (decide ((mkX (fun a b => a && !b) l m).length = 0)) :=
  (within20_ok H v u l m hs hu hh hlo hl hm).mono fun r H' ⟨h, h2⟩ => ⟨h, by rcases h2 with h2 | h2; exact absurd ⟨hok, hom⟩ h2.1; exact h2.2.2⟩

end Go.Proofs.Ytnkomaedmblemaa

set_option linter.unusedSimpArgs false
set_option linter.unusedVariables false
set_option maxRecDepth 100000
namespace Go.Proofs.Ytnkomaedmblemaa
open Go.Ev Exl

theorem pick_ok (H : AH) (n : Int) (hn : -9223372036854775808 ≤ n ∧ n ≤ 9223372036854775807) : FnE look 35 [.int .i64 n, .int .i64 4201] H fun r H' => H' = H ∧ ∃ k : Int, r = .int .i64 k ∧ 0 ≤ k ∧ k ≤ 4200 := by
  refine fn_intro f35_eq (noext rfl) rfl ?_
  unfold f35c
  have h1 : n.tmod 4201 < 4201 := Int.tmod_lt_of_pos _ (by decide)
  have h2 : -4201 < n.tmod 4201 := Int.lt_tmod_of_pos _ (by decide)
  have hr : ∀ s, binF .rem s (.int .i64 n) (.int .i64 4201) = some (.int .i64 (n.tmod 4201)) := fun s => bin_rem (by decide)
  generalize n.tmod 4201 = k at *
  by_cases hk : k < 0
  · (repeat' (first | refine rc_reg ?_ | refine rc_seq ?_ | refine rk_done ?_ | refine rn_seq_n ?_ | refine rc_blk ?_ | refine rc_skip ?_ | refine rc_exit ?_ | refine rc_ret ?_ | refine rc_scp ?_ | refine rn_seq_e ?_ | refine rn_seq_r ?_ | refine rn_blk_n ?_ | refine rn_blk_r ?_ | refine rn_blk_e ?_ | refine rn_scp_n ?_ | refine rn_scp_e ?_ | refine rn_scp_r ?_ | refine rk_sk ?_ | refine rn_blk_x (by decide) ?_ | ((first | apply rk_mv' | apply rk_p1 | apply rk_p2 | apply rk_r1 | apply rk_ln | apply rk_ls); · (first | (simp (disch := omega) only [evl, Nat.reduceEqDiff, Nat.reduceAdd, reduceIte, reduceCtorEq, hr] <;> exact rfl) | exact rfl)) | ((first | apply rc_cond | apply rk_gd); (· (first | (simp (disch := omega) only [evl, Nat.reduceEqDiff, Nat.reduceAdd, reduceIte, reduceCtorEq, hr] <;> exact rfl) | exact rfl)); all_goals (intro hb; try simp only [bvl, ne_eq, Bool.not_true, Bool.not_false, reduceCtorEq, not_true_eq_false] at hb)) | (refine rk_gd_u ?_ ?_; · (first | (simp (disch := omega) only [evl, Nat.reduceEqDiff, Nat.reduceAdd, reduceIte, reduceCtorEq, hr] <;> exact rfl) | exact rfl))))
    refine rn_nil ?_; refine fq_ret (resV_1 _ _) ⟨rfl, k + 4201, ?_, by omega, by omega⟩
    (simp (disch := omega) only [evl, Nat.reduceEqDiff, Nat.reduceAdd, reduceIte, reduceCtorEq])
  · (repeat' (first | refine rc_reg ?_ | refine rc_seq ?_ | refine rk_done ?_ | refine rn_seq_n ?_ | refine rc_blk ?_ | refine rc_skip ?_ | refine rc_exit ?_ | refine rc_ret ?_ | refine rc_scp ?_ | refine rn_seq_e ?_ | refine rn_seq_r ?_ | refine rn_blk_n ?_ | refine rn_blk_r ?_ | refine rn_blk_e ?_ | refine rn_scp_n ?_ | refine rn_scp_e ?_ | refine rn_scp_r ?_ | refine rk_sk ?_ | refine rn_blk_x (by decide) ?_ | ((first | apply rk_mv' | apply rk_p1 | apply rk_p2 | apply rk_r1 | apply rk_ln | apply rk_ls); · (first | (simp (disch := omega) only [evl, Nat.reduceEqDiff, Nat.reduceAdd, reduceIte, reduceCtorEq, hr] <;> exact rfl) | exact rfl)) | ((first | apply rc_cond | apply rk_gd); (· (first | (simp (disch := omega) only [evl, Nat.reduceEqDiff, Nat.reduceAdd, reduceIte, reduceCtorEq, hr] <;> exact rfl) | exact rfl)); all_goals (intro hb; try simp only [bvl, ne_eq, Bool.not_true, Bool.not_false, reduceCtorEq, not_true_eq_false] at hb)) | (refine rk_gd_u ?_ ?_; · (first | (simp (disch := omega) only [evl, Nat.reduceEqDiff, Nat.reduceAdd, reduceIte, reduceCtorEq, hr] <;> exact rfl) | exact rfl))))
    refine rn_nil ?_; refine fq_ret (resV_1 _ _) ⟨rfl, k, ?_, by omega, by omega⟩
    (simp (disch := omega) only [evl, Nat.reduceEqDiff, Nat.reduceAdd, reduceIte, reduceCtorEq])

/-! ### Plain laws of the lowest -/
theorem low_has {l : List P} : ∀ {fr n x : Int}, Ok fr l → 0 ≤ n → hasB (low l n) x = true → hasB l x = true := by
  induction l with
  | nil => intro fr n x _ _ h; exact h
  | cons p l ih =>
    intro fr n x h hn hx
    obtain ⟨h1, h2, h3, h4, h5⟩ := h
    rw [low] at hx
    rw [hasB_cons]
    split at hx
    · cases hx
    · rw [hasB_cons] at hx
      simp only [Bool.or_eq_true, Bool.and_eq_true, decide_eq_true_eq] at hx ⊢
      rcases hx with hx | hx
      · exact .inl ⟨hx.1, by omega⟩
      · exact .inr (ih h5 (by omega) hx)
theorem lastE_cons (p : P) {t : List P} (h : t ≠ []) : lastE (p :: t) = lastE t := by
  obtain ⟨d, q, rfl⟩ : ∃ d q, t = d ++ [q] := ⟨t.dropLast, t.getLast h, (List.dropLast_concat_getLast h).symm⟩
  have e1 := lastE_snoc (p :: d) q.1 q.2
  have e2 := lastE_snoc d q.1 q.2
  exact e1.trans e2.symm
theorem low_end {l : List P} : ∀ {fr n x : Int}, Ok fr l → 0 ≤ n → low l n ≠ [] → hasB l x = true → x < lastE (low l n) → hasB (low l n) x = true := by
  induction l with
  | nil => intro fr n x _ _ h _ _; exact absurd rfl h
  | cons p l ih =>
    intro fr n x h hn hne hx hlt
    obtain ⟨h1, h2, h3, h4, h5⟩ := h
    rw [low] at hne hlt ⊢
    by_cases h0 : n = 0
    · rw [if_pos h0] at hne; exact absurd rfl hne
    · rw [if_neg h0] at hlt ⊢
      rw [hasB_cons] at hx ⊢
      simp only [Bool.or_eq_true, Bool.and_eq_true, decide_eq_true_eq] at hx ⊢
      by_cases he : low l (n - min n p.2) = []
      · rw [he] at hlt
        have hlt : x < p.1 + min n p.2 := hlt
        rcases hx with hx | hx
        · exact .inl ⟨hx.1, hlt⟩
        · have := Ok.has h5 x ((hasB_iff l x).1 hx); omega
      · rw [lastE_cons _ he] at hlt
        have hge : ¬ n ≤ p.2 := fun hle => he (by rw [show n - min n p.2 = 0 from by omega]; exact low_zero l)
        rcases hx with hx | hx
        · exact .inl ⟨hx.1, by omega⟩
        · exact .inr (ih h5 (by omega) he hx hlt)
theorem low_tot {l : List P} : ∀ {fr n : Int}, Ok fr l → 0 ≤ n → n ≤ tot l → tot (low l n) = n := by
  induction l with
  | nil => intro fr n _ h1 h2; simp only [tot] at h2; simp only [low, tot]; omega
  | cons p l ih =>
    intro fr n h hn hle
    obtain ⟨h1, h2, h3, h4, h5⟩ := h
    rw [low]
    split
    · next h => rw [h]; rfl
    · simp only [tot] at hle ⊢
      by_cases hc : n ≤ p.2
      · rw [show n - min n p.2 = 0 from by omega, low_zero]; simp only [tot]; omega
      · rw [ih h5 (by omega) (by omega)]; omega
theorem low_len (l : List P) : ∀ n, (low l n).length ≤ l.length := by
  induction l with
  | nil => intro n; exact Nat.le_refl _
  | cons p l ih =>
    intro n
    rw [low]
    split
    · exact Nat.zero_le _
    · simp only [List.length_cons]; have := ih (n - min n p.2); omega
theorem card_cut {a b c : List P} (h : ∀ x : Int, hasB a x = (hasB c x && !hasB b x)) (hs : ∀ x : Int, hasB b x = true → hasB c x = true) : ∀ i, cardTo a i + cardTo b i = cardTo c i
  | 0 => rfl
  | i + 1 => by
    have ih := card_cut h hs i
    have h1 := h i
    have h2 := hs i
    simp only [cardTo, h1]
    cases hb : hasB b i with
    | true => rw [h2 hb]; simp; omega
    | false => cases hasB c i <;> simp <;> omega
theorem hasB_first {l : List P} (h : Ok 0 l) (hne : l ≠ []) : hasB l (exG l 0).1 = true := by
  cases l with
  | nil => exact absurd rfl hne
  | cons p l =>
    obtain ⟨h1, h2, h3, h4, h5⟩ := h
    show (decide (p.1 ≤ p.1) && decide (p.1 < p.1 + p.2) || hasB l p.1) = true
    rw [decide_eq_true (Int.le_refl _), decide_eq_true (show p.1 < p.1 + p.2 by omega)]; rfl

set_option maxHeartbeats 16000000 in
theorem first_ok (H : AH) (v : AV) (l : List P) (n0 : Int) (hn0 : -9223372036854775808 ≤ n0 ∧ n0 ≤ 9223372036854775807) (hs : SlX H v l) (hh : H.hide = []) (hlo : H.lo ≤ H.next) (hl : l.length ≤ 9223372036854775807) :
    FnE look 7 [v, .int .i64 n0] H fun r H' => r = .bool true ∧ HX H H' := by
  refine fn_intro f7_eq (noext rfl) rfl ?_
  unfold f7c
  have hlen := fun H' => len_el (H' := H') u22 hs.is
  (repeat' (first | refine rc_reg ?_ | refine rc_seq ?_ | refine rk_done ?_ | refine rn_seq_n ?_ | refine rc_blk ?_ | refine rc_skip ?_ | refine rc_exit ?_ | refine rc_ret ?_ | refine rc_scp ?_ | refine rn_seq_e ?_ | refine rn_seq_r ?_ | refine rn_blk_n ?_ | refine rn_blk_r ?_ | refine rn_blk_e ?_ | refine rn_scp_n ?_ | refine rn_scp_e ?_ | refine rn_scp_r ?_ | refine rk_sk ?_ | refine rn_blk_x (by decide) ?_ | ((first | apply rk_mv' | apply rk_p1 | apply rk_p2 | apply rk_r1 | apply rk_ln | apply rk_ls); · (first | (simp (disch := omega) only [evl, Nat.reduceEqDiff, Nat.reduceAdd, reduceIte, reduceCtorEq] <;> exact rfl) | exact rfl)) | ((first | apply rc_cond | apply rk_gd); (· (first | (simp (disch := omega) only [evl, Nat.reduceEqDiff, Nat.reduceAdd, reduceIte, reduceCtorEq] <;> exact rfl) | exact rfl)); all_goals (intro hb; try simp only [bvl, ne_eq, Bool.not_true, Bool.not_false, reduceCtorEq, not_true_eq_false] at hb)) | (refine rk_gd_u ?_ ?_; · (first | (simp (disch := omega) only [evl, Nat.reduceEqDiff, Nat.reduceAdd, reduceIte, reduceCtorEq] <;> exact rfl) | exact rfl))))
  refine rk_cl (by (simp (disch := omega) only [evl, Nat.reduceEqDiff, Nat.reduceAdd, reduceIte, reduceCtorEq]); exact awake_ok H) ?_
  rintro r H0 ⟨rfl, hH0⟩
  cases hH0
  simp only [hOut_f]
  (repeat' (first | refine rc_reg ?_ | refine rc_seq ?_ | refine rk_done ?_ | refine rn_seq_n ?_ | refine rc_blk ?_ | refine rc_skip ?_ | refine rc_exit ?_ | refine rc_ret ?_ | refine rc_scp ?_ | refine rn_seq_e ?_ | refine rn_seq_r ?_ | refine rn_blk_n ?_ | refine rn_blk_r ?_ | refine rn_blk_e ?_ | refine rn_scp_n ?_ | refine rn_scp_e ?_ | refine rn_scp_r ?_ | refine rk_sk ?_ | refine rn_blk_x (by decide) ?_ | ((first | apply rk_mv' | apply rk_p1 | apply rk_p2 | apply rk_r1 | apply rk_ln | apply rk_ls); · (first | (simp (disch := omega) only [evl, Nat.reduceEqDiff, Nat.reduceAdd, reduceIte, reduceCtorEq] <;> exact rfl) | exact rfl)) | ((first | apply rc_cond | apply rk_gd); (· (first | (simp (disch := omega) only [evl, Nat.reduceEqDiff, Nat.reduceAdd, reduceIte, reduceCtorEq] <;> exact rfl) | exact rfl)); all_goals (intro hb; try simp only [bvl, ne_eq, Bool.not_true, Bool.not_false, reduceCtorEq, not_true_eq_false] at hb)) | (refine rk_gd_u ?_ ?_; · (first | (simp (disch := omega) only [evl, Nat.reduceEqDiff, Nat.reduceAdd, reduceIte, reduceCtorEq] <;> exact rfl) | exact rfl))))
  refine rk_cl (by (simp (disch := omega) only [evl, Nat.reduceEqDiff, Nat.reduceAdd, reduceIte, reduceCtorEq]); exact pick_ok H n0 hn0) ?_
  rintro r H0 ⟨hH0, n, rfl, hn1, hn2⟩
  cases hH0
  simp only [hOut_f]
  by_cases hbig : 300 < l.length
  · (repeat' (first | refine rc_reg ?_ | refine rc_seq ?_ | refine rk_done ?_ | refine rn_seq_n ?_ | refine rc_blk ?_ | refine rc_skip ?_ | refine rc_exit ?_ | refine rc_ret ?_ | refine rc_scp ?_ | refine rn_seq_e ?_ | refine rn_seq_r ?_ | refine rn_blk_n ?_ | refine rn_blk_r ?_ | refine rn_blk_e ?_ | refine rn_scp_n ?_ | refine rn_scp_e ?_ | refine rn_scp_r ?_ | refine rk_sk ?_ | refine rn_blk_x (by decide) ?_ | ((first | apply rk_mv' | apply rk_p1 | apply rk_p2 | apply rk_r1 | apply rk_ln | apply rk_ls); · (first | (simp (disch := omega) only [evl, Nat.reduceEqDiff, Nat.reduceAdd, reduceIte, reduceCtorEq, hlen] <;> exact rfl) | exact rfl)) | ((first | apply rc_cond | apply rk_gd); (· (first | (simp (disch := omega) only [evl, Nat.reduceEqDiff, Nat.reduceAdd, reduceIte, reduceCtorEq, hlen] <;> exact rfl) | exact rfl)); all_goals (intro hb; try simp only [bvl, ne_eq, Bool.not_true, Bool.not_false, reduceCtorEq, not_true_eq_false] at hb)) | (refine rk_gd_u ?_ ?_; · (first | (simp (disch := omega) only [evl, Nat.reduceEqDiff, Nat.reduceAdd, reduceIte, reduceCtorEq, hlen] <;> exact rfl) | exact rfl))))
    refine rn_nil ?_; refine fq_ret (resV_1 _ _) ⟨?_, HX.refl _⟩
    (simp (disch := omega) only [evl, Nat.reduceEqDiff, Nat.reduceAdd, reduceIte, reduceCtorEq])
  (repeat' (first | refine rc_reg ?_ | refine rc_seq ?_ | refine rk_done ?_ | refine rn_seq_n ?_ | refine rc_blk ?_ | refine rc_skip ?_ | refine rc_exit ?_ | refine rc_ret ?_ | refine rc_scp ?_ | refine rn_seq_e ?_ | refine rn_seq_r ?_ | refine rn_blk_n ?_ | refine rn_blk_r ?_ | refine rn_blk_e ?_ | refine rn_scp_n ?_ | refine rn_scp_e ?_ | refine rn_scp_r ?_ | refine rk_sk ?_ | refine rn_blk_x (by decide) ?_ | ((first | apply rk_mv' | apply rk_p1 | apply rk_p2 | apply rk_r1 | apply rk_ln | apply rk_ls); · (first | (simp (disch := omega) only [evl, Nat.reduceEqDiff, Nat.reduceAdd, reduceIte, reduceCtorEq, hlen] <;> exact rfl) | exact rfl)) | ((first | apply rc_cond | apply rk_gd); (· (first | (simp (disch := omega) only [evl, Nat.reduceEqDiff, Nat.reduceAdd, reduceIte, reduceCtorEq, hlen] <;> exact rfl) | exact rfl)); all_goals (intro hb; try simp only [bvl, ne_eq, Bool.not_true, Bool.not_false, reduceCtorEq, not_true_eq_false] at hb)) | (refine rk_gd_u ?_ ?_; · (first | (simp (disch := omega) only [evl, Nat.reduceEqDiff, Nat.reduceAdd, reduceIte, reduceCtorEq, hlen] <;> exact rfl) | exact rfl))))
  refine rk_cl (by (simp (disch := omega) only [evl, Nat.reduceEqDiff, Nat.reduceAdd, reduceIte, reduceCtorEq]); exact check_ok H v l hs hh hlo (by omega)) ?_
  rintro r H1 ⟨hx1, ⟨hok, rfl⟩ | ⟨hok, rfl⟩⟩
  rotate_left
  · simp only [hOut_f]
    (repeat' (first | refine rc_reg ?_ | refine rc_seq ?_ | refine rk_done ?_ | refine rn_seq_n ?_ | refine rc_blk ?_ | refine rc_skip ?_ | refine rc_exit ?_ | refine rc_ret ?_ | refine rc_scp ?_ | refine rn_seq_e ?_ | refine rn_seq_r ?_ | refine rn_blk_n ?_ | refine rn_blk_r ?_ | refine rn_blk_e ?_ | refine rn_scp_n ?_ | refine rn_scp_e ?_ | refine rn_scp_r ?_ | refine rk_sk ?_ | refine rn_blk_x (by decide) ?_ | ((first | apply rk_mv' | apply rk_p1 | apply rk_p2 | apply rk_r1 | apply rk_ln | apply rk_ls); · (first | (simp (disch := omega) only [evl, Nat.reduceEqDiff, Nat.reduceAdd, reduceIte, reduceCtorEq] <;> exact rfl) | exact rfl)) | ((first | apply rc_cond | apply rk_gd); (· (first | (simp (disch := omega) only [evl, Nat.reduceEqDiff, Nat.reduceAdd, reduceIte, reduceCtorEq] <;> exact rfl) | exact rfl)); all_goals (intro hb; try simp only [bvl, ne_eq, Bool.not_true, Bool.not_false, reduceCtorEq, not_true_eq_false] at hb)) | (refine rk_gd_u ?_ ?_; · (first | (simp (disch := omega) only [evl, Nat.reduceEqDiff, Nat.reduceAdd, reduceIte, reduceCtorEq] <;> exact rfl) | exact rfl))))
    refine rn_nil ?_; refine fq_ret (resV_1 _ _) ⟨?_, hx1⟩
    (simp (disch := omega) only [evl, Nat.reduceEqDiff, Nat.reduceAdd, reduceIte, reduceCtorEq])
  simp only [hOut_f]
  have hn1x := hx1.next
  (repeat' (first | refine rc_reg ?_ | refine rc_seq ?_ | refine rk_done ?_ | refine rn_seq_n ?_ | refine rc_blk ?_ | refine rc_skip ?_ | refine rc_exit ?_ | refine rc_ret ?_ | refine rc_scp ?_ | refine rn_seq_e ?_ | refine rn_seq_r ?_ | refine rn_blk_n ?_ | refine rn_blk_r ?_ | refine rn_blk_e ?_ | refine rn_scp_n ?_ | refine rn_scp_e ?_ | refine rn_scp_r ?_ | refine rk_sk ?_ | refine rn_blk_x (by decide) ?_ | ((first | apply rk_mv' | apply rk_p1 | apply rk_p2 | apply rk_r1 | apply rk_ln | apply rk_ls); · (first | (simp (disch := omega) only [evl, Nat.reduceEqDiff, Nat.reduceAdd, reduceIte, reduceCtorEq] <;> exact rfl) | exact rfl)) | ((first | apply rc_cond | apply rk_gd); (· (first | (simp (disch := omega) only [evl, Nat.reduceEqDiff, Nat.reduceAdd, reduceIte, reduceCtorEq] <;> exact rfl) | exact rfl)); all_goals (intro hb; try simp only [bvl, ne_eq, Bool.not_true, Bool.not_false, reduceCtorEq, not_true_eq_false] at hb)) | (refine rk_gd_u ?_ ?_; · (first | (simp (disch := omega) only [evl, Nat.reduceEqDiff, Nat.reduceAdd, reduceIte, reduceCtorEq] <;> exact rfl) | exact rfl))))
  refine rk_cl (by (simp (disch := omega) only [evl, Nat.reduceEqDiff, Nat.reduceAdd, reduceIte, reduceCtorEq]); exact lowest_ok H1 v l n (hs.hx hx1) (hx1.hide.trans hh) (by rw [hx1.lo]; omega) (by omega)) ?_
  rintro r H2 ⟨hx2', hlow⟩
  have hx2 := hx1.trans hx2'
  have hn2x := hx2.next
  have htl := Ok.tot (by omega) hok
  have hne4 := fun xo yo a b => bin_neqB (L := look) u4 xo yo a b
  rcases hlow with ⟨hno, _⟩ | ⟨_, _, hfull, rfl⟩ | ⟨_, _, hle, s, rfl, hap⟩
  · exact absurd ⟨hok, hn1⟩ hno
  · simp only [hOut_f]
    (repeat' (first | refine rc_reg ?_ | refine rc_seq ?_ | refine rk_done ?_ | refine rn_seq_n ?_ | refine rc_blk ?_ | refine rc_skip ?_ | refine rc_exit ?_ | refine rc_ret ?_ | refine rc_scp ?_ | refine rn_seq_e ?_ | refine rn_seq_r ?_ | refine rn_blk_n ?_ | refine rn_blk_r ?_ | refine rn_blk_e ?_ | refine rn_scp_n ?_ | refine rn_scp_e ?_ | refine rn_scp_r ?_ | refine rk_sk ?_ | refine rn_blk_x (by decide) ?_ | ((first | apply rk_mv' | apply rk_p1 | apply rk_p2 | apply rk_r1 | apply rk_ln | apply rk_ls); · (first | (simp (disch := omega) only [evl, Nat.reduceEqDiff, Nat.reduceAdd, reduceIte, reduceCtorEq] <;> exact rfl) | exact rfl)) | ((first | apply rc_cond | apply rk_gd); (· (first | (simp (disch := omega) only [evl, Nat.reduceEqDiff, Nat.reduceAdd, reduceIte, reduceCtorEq] <;> exact rfl) | exact rfl)); all_goals (intro hb; try simp only [bvl, ne_eq, Bool.not_true, Bool.not_false, reduceCtorEq, not_true_eq_false] at hb)) | (refine rk_gd_u ?_ ?_; · (first | (simp (disch := omega) only [evl, Nat.reduceEqDiff, Nat.reduceAdd, reduceIte, reduceCtorEq] <;> exact rfl) | exact rfl))))
    refine rk_cl (by (simp (disch := omega) only [evl, Nat.reduceEqDiff, Nat.reduceAdd, reduceIte, reduceCtorEq]); exact count_good H2 v l (hs.hx hx2) (hx2.hide.trans hh) (by rw [hx2.lo]; omega) (by omega) hok) ?_
    rintro r H3 ⟨hx3', rfl⟩
    have hx3 := hx2.trans hx3'
    simp only [hOut_f]
    have hn := fun xo yo => hne4 xo yo false false
    simp only [ne_eq, not_true_eq_false, decide_false] at hn
    have hl0 : ∀ H', fstO (builtinF .len look [22] [.nilSl] H') = some (.int .i64 0) := fun H' => len_el (n := 0) u22 (.inl ⟨rfl, rfl⟩ : IsSl H .nilSl 0)
    generalize tot l = tl at *
    (repeat' (first | refine rc_reg ?_ | refine rc_seq ?_ | refine rk_done ?_ | refine rn_seq_n ?_ | refine rc_blk ?_ | refine rc_skip ?_ | refine rc_exit ?_ | refine rc_ret ?_ | refine rc_scp ?_ | refine rn_seq_e ?_ | refine rn_seq_r ?_ | refine rn_blk_n ?_ | refine rn_blk_r ?_ | refine rn_blk_e ?_ | refine rn_scp_n ?_ | refine rn_scp_e ?_ | refine rn_scp_r ?_ | refine rk_sk ?_ | refine rn_blk_x (by decide) ?_ | ((first | apply rk_mv' | apply rk_p1 | apply rk_p2 | apply rk_r1 | apply rk_ln | apply rk_ls); · (first | (simp (disch := omega) only [evl, Nat.reduceEqDiff, Nat.reduceAdd, reduceIte, reduceCtorEq, hn, hl0] <;> exact rfl) | exact rfl)) | ((first | apply rc_cond | apply rk_gd); (· (first | (simp (disch := omega) only [evl, Nat.reduceEqDiff, Nat.reduceAdd, reduceIte, reduceCtorEq, hn, hl0] <;> exact rfl) | exact rfl)); all_goals (intro hb; try simp only [bvl, ne_eq, Bool.not_true, Bool.not_false, reduceCtorEq, not_true_eq_false] at hb)) | (refine rk_gd_u ?_ ?_; · (first | (simp (disch := omega) only [evl, Nat.reduceEqDiff, Nat.reduceAdd, reduceIte, reduceCtorEq, hn, hl0] <;> exact rfl) | exact rfl))))
    refine rn_nil ?_; refine fq_ret (resV_1 _ _) ⟨?_, hx3⟩
    (simp (disch := omega) only [evl, Nat.reduceEqDiff, Nat.reduceAdd, reduceIte, reduceCtorEq])
  · simp only [hOut_f]
    (repeat' (first | refine rc_reg ?_ | refine rc_seq ?_ | refine rk_done ?_ | refine rn_seq_n ?_ | refine rc_blk ?_ | refine rc_skip ?_ | refine rc_exit ?_ | refine rc_ret ?_ | refine rc_scp ?_ | refine rn_seq_e ?_ | refine rn_seq_r ?_ | refine rn_blk_n ?_ | refine rn_blk_r ?_ | refine rn_blk_e ?_ | refine rn_scp_n ?_ | refine rn_scp_e ?_ | refine rn_scp_r ?_ | refine rk_sk ?_ | refine rn_blk_x (by decide) ?_ | ((first | apply rk_mv' | apply rk_p1 | apply rk_p2 | apply rk_r1 | apply rk_ln | apply rk_ls); · (first | (simp (disch := omega) only [evl, Nat.reduceEqDiff, Nat.reduceAdd, reduceIte, reduceCtorEq] <;> exact rfl) | exact rfl)) | ((first | apply rc_cond | apply rk_gd); (· (first | (simp (disch := omega) only [evl, Nat.reduceEqDiff, Nat.reduceAdd, reduceIte, reduceCtorEq] <;> exact rfl) | exact rfl)); all_goals (intro hb; try simp only [bvl, ne_eq, Bool.not_true, Bool.not_false, reduceCtorEq, not_true_eq_false] at hb)) | (refine rk_gd_u ?_ ?_; · (first | (simp (disch := omega) only [evl, Nat.reduceEqDiff, Nat.reduceAdd, reduceIte, reduceCtorEq] <;> exact rfl) | exact rfl))))
    refine rk_cl (by (simp (disch := omega) only [evl, Nat.reduceEqDiff, Nat.reduceAdd, reduceIte, reduceCtorEq]); exact count_good H2 v l (hs.hx hx2) (hx2.hide.trans hh) (by rw [hx2.lo]; omega) (by omega) hok) ?_
    rintro r H3 ⟨hx3', rfl⟩
    have hx3 := hx2.trans hx3'
    have hn3x := hx3.next
    simp only [hOut_f]
    have hn := fun xo yo => hne4 xo yo true true
    simp only [ne_eq, not_true_eq_false, decide_false] at hn
    have okL := low_ok hok hn1
    have lenL := low_len l n
    have totL := low_tot hok hn1 hle
    have hin : ∀ x, hasB (low l n) x = true → hasB l x = true := fun x h => low_has hok hn1 h
    have hend : low l n ≠ [] → ∀ x, hasB l x = true → x < lastE (low l n) → hasB (low l n) x = true := fun h x h1 h2 => low_end hok hn1 h h1 h2
    have Hle := Hd.mk hle
    have Htl := Hd.mk htl
    clear hle htl
    obtain ⟨tl, htl⟩ : ∃ tl, tl = tot l := ⟨_, rfl⟩
    rw [← htl] at Hle Htl
    have hle := Hle.out
    have htl2 := Htl.out
    rw [← htl]
    (repeat' (first | refine rc_reg ?_ | refine rc_seq ?_ | refine rk_done ?_ | refine rn_seq_n ?_ | refine rc_blk ?_ | refine rc_skip ?_ | refine rc_exit ?_ | refine rc_ret ?_ | refine rc_scp ?_ | refine rn_seq_e ?_ | refine rn_seq_r ?_ | refine rn_blk_n ?_ | refine rn_blk_r ?_ | refine rn_blk_e ?_ | refine rn_scp_n ?_ | refine rn_scp_e ?_ | refine rn_scp_r ?_ | refine rk_sk ?_ | refine rn_blk_x (by decide) ?_ | ((first | apply rk_mv' | apply rk_p1 | apply rk_p2 | apply rk_r1 | apply rk_ln | apply rk_ls); · (first | (simp (disch := omega) only [evl, Nat.reduceEqDiff, Nat.reduceAdd, reduceIte, reduceCtorEq, hn] <;> exact rfl) | exact rfl)) | ((first | apply rc_cond | apply rk_gd); (· (first | (simp (disch := omega) only [evl, Nat.reduceEqDiff, Nat.reduceAdd, reduceIte, reduceCtorEq, hn] <;> exact rfl) | exact rfl)); all_goals (intro hb; try simp only [bvl, ne_eq, Bool.not_true, Bool.not_false, reduceCtorEq, not_true_eq_false] at hb)) | (refine rk_gd_u ?_ ?_; · (first | (simp (disch := omega) only [evl, Nat.reduceEqDiff, Nat.reduceAdd, reduceIte, reduceCtorEq, hn] <;> exact rfl) | exact rfl))))
    generalize hL : low l n = L at *
    have hsL : SlX H3 s L := (hap.hx hx3').slZ
    refine rk_cl (by (simp (disch := omega) only [evl, Nat.reduceEqDiff, Nat.reduceAdd, reduceIte, reduceCtorEq]); exact cut_ok H3 v s l L (hs.hx hx3) hsL (hx3.hide.trans hh) (by rw [hx3.lo]; omega) (by omega) (by omega)) ?_
    rintro r H4 ⟨hmk, hlaw⟩
    obtain ⟨hx4', s4, rfl, hap4⟩ := hmk.good hok okL
    have okR := (hlaw hok okL).1
    have hasR := hasB_mk rfl hlaw hok okL
    have lenR := mkX_len (fun a b => a && !b) l L
    clear hmk hlaw
    generalize mkX (fun a b => a && !b) l L = R at *
    have totR : tot R + tot L = tot l := by
      rw [tot_card okR, tot_card okL, tot_card hok]
      exact card_cut hasR hin 4096
    have hx4 := hx3.trans hx4'
    have hn4x := hx4.next
    simp only [hOut_f]
    (repeat' (first | refine rc_reg ?_ | refine rc_seq ?_ | refine rk_done ?_ | refine rn_seq_n ?_ | refine rc_blk ?_ | refine rc_skip ?_ | refine rc_exit ?_ | refine rc_ret ?_ | refine rc_scp ?_ | refine rn_seq_e ?_ | refine rn_seq_r ?_ | refine rn_blk_n ?_ | refine rn_blk_r ?_ | refine rn_blk_e ?_ | refine rn_scp_n ?_ | refine rn_scp_e ?_ | refine rn_scp_r ?_ | refine rk_sk ?_ | refine rn_blk_x (by decide) ?_ | ((first | apply rk_mv' | apply rk_p1 | apply rk_p2 | apply rk_r1 | apply rk_ln | apply rk_ls); · (first | (simp (disch := omega) only [evl, Nat.reduceEqDiff, Nat.reduceAdd, reduceIte, reduceCtorEq] <;> exact rfl) | exact rfl)) | ((first | apply rc_cond | apply rk_gd); (· (first | (simp (disch := omega) only [evl, Nat.reduceEqDiff, Nat.reduceAdd, reduceIte, reduceCtorEq] <;> exact rfl) | exact rfl)); all_goals (intro hb; try simp only [bvl, ne_eq, Bool.not_true, Bool.not_false, reduceCtorEq, not_true_eq_false] at hb)) | (refine rk_gd_u ?_ ?_; · (first | (simp (disch := omega) only [evl, Nat.reduceEqDiff, Nat.reduceAdd, reduceIte, reduceCtorEq] <;> exact rfl) | exact rfl))))
    refine rk_cl (by (simp (disch := omega) only [evl, Nat.reduceEqDiff, Nat.reduceAdd, reduceIte, reduceCtorEq]); exact count_good H4 s L (hsL.hx hx4') (hx4.hide.trans hh) (by rw [hx4.lo]; omega) (by omega) okL) ?_
    rintro r H5 ⟨hx5', rfl⟩
    have hx5 := hx4.trans hx5'
    have hn5x := hx5.next
    simp only [hOut_f]
    rw [totL]
    (repeat' (first | refine rc_reg ?_ | refine rc_seq ?_ | refine rk_done ?_ | refine rn_seq_n ?_ | refine rc_blk ?_ | refine rc_skip ?_ | refine rc_exit ?_ | refine rc_ret ?_ | refine rc_scp ?_ | refine rn_seq_e ?_ | refine rn_seq_r ?_ | refine rn_blk_n ?_ | refine rn_blk_r ?_ | refine rn_blk_e ?_ | refine rn_scp_n ?_ | refine rn_scp_e ?_ | refine rn_scp_r ?_ | refine rk_sk ?_ | refine rn_blk_x (by decide) ?_ | ((first | apply rk_mv' | apply rk_p1 | apply rk_p2 | apply rk_r1 | apply rk_ln | apply rk_ls); · (first | (simp (disch := omega) only [evl, Nat.reduceEqDiff, Nat.reduceAdd, reduceIte, reduceCtorEq] <;> exact rfl) | exact rfl)) | ((first | apply rc_cond | apply rk_gd); (· (first | (simp (disch := omega) only [evl, Nat.reduceEqDiff, Nat.reduceAdd, reduceIte, reduceCtorEq] <;> exact rfl) | exact rfl)); all_goals (intro hb; try simp only [bvl, ne_eq, Bool.not_true, Bool.not_false, reduceCtorEq, not_true_eq_false] at hb)) | (refine rk_gd_u ?_ ?_; · (first | (simp (disch := omega) only [evl, Nat.reduceEqDiff, Nat.reduceAdd, reduceIte, reduceCtorEq] <;> exact rfl) | exact rfl))))
    refine rk_cl (by (simp (disch := omega) only [evl, Nat.reduceEqDiff, Nat.reduceAdd, reduceIte, reduceCtorEq]); exact within_good H5 s v L l (hsL.hx (hx4'.trans hx5')) (hs.hx hx5) (hx5.hide.trans hh) (by rw [hx5.lo]; omega) (by omega) (by omega) okL hok) ?_
    rintro r H6 ⟨hx6', rfl⟩
    have hx6 := hx5.trans hx6'
    have hn6x := hx6.next
    have lw := mk_law (f := fun a b => a && !b) rfl (l := L) (m := l)
    have e1 : mkX (fun a b => a && !b) L l = [] := nil_of_hasB (lw okL hok).1 fun x => by
      rw [hasB_mk rfl lw okL hok]
      cases hb : hasB L x with
      | true => rw [hin x hb]; rfl
      | false => rfl
    rw [e1]
    simp only [hOut_f, List.length_nil, decide_true]
    (repeat' (first | refine rc_reg ?_ | refine rc_seq ?_ | refine rk_done ?_ | refine rn_seq_n ?_ | refine rc_blk ?_ | refine rc_skip ?_ | refine rc_exit ?_ | refine rc_ret ?_ | refine rc_scp ?_ | refine rn_seq_e ?_ | refine rn_seq_r ?_ | refine rn_blk_n ?_ | refine rn_blk_r ?_ | refine rn_blk_e ?_ | refine rn_scp_n ?_ | refine rn_scp_e ?_ | refine rn_scp_r ?_ | refine rk_sk ?_ | refine rn_blk_x (by decide) ?_ | ((first | apply rk_mv' | apply rk_p1 | apply rk_p2 | apply rk_r1 | apply rk_ln | apply rk_ls); · (first | (simp (disch := omega) only [evl, Nat.reduceEqDiff, Nat.reduceAdd, reduceIte, reduceCtorEq] <;> exact rfl) | exact rfl)) | ((first | apply rc_cond | apply rk_gd); (· (first | (simp (disch := omega) only [evl, Nat.reduceEqDiff, Nat.reduceAdd, reduceIte, reduceCtorEq] <;> exact rfl) | exact rfl)); all_goals (intro hb; try simp only [bvl, ne_eq, Bool.not_true, Bool.not_false, reduceCtorEq, not_true_eq_false] at hb)) | (refine rk_gd_u ?_ ?_; · (first | (simp (disch := omega) only [evl, Nat.reduceEqDiff, Nat.reduceAdd, reduceIte, reduceCtorEq] <;> exact rfl) | exact rfl))))
    refine rk_cl (by (simp (disch := omega) only [evl, Nat.reduceEqDiff, Nat.reduceAdd, reduceIte, reduceCtorEq]); exact count_good H6 s4 R (hap4.slZ.hx (hx5'.trans hx6')) (hx6.hide.trans hh) (by rw [hx6.lo]; omega) (by omega) okR) ?_
    rintro r H7 ⟨hx7', rfl⟩
    have hx7 := hx6.trans hx7'
    have hn7x := hx7.next
    simp only [hOut_f]
    have hRt : tot R = tl - n := by omega
    rw [hRt]
    (repeat' (first | refine rc_reg ?_ | refine rc_seq ?_ | refine rk_done ?_ | refine rn_seq_n ?_ | refine rc_blk ?_ | refine rc_skip ?_ | refine rc_exit ?_ | refine rc_ret ?_ | refine rc_scp ?_ | refine rn_seq_e ?_ | refine rn_seq_r ?_ | refine rn_blk_n ?_ | refine rn_blk_r ?_ | refine rn_blk_e ?_ | refine rn_scp_n ?_ | refine rn_scp_e ?_ | refine rn_scp_r ?_ | refine rk_sk ?_ | refine rn_blk_x (by decide) ?_ | ((first | apply rk_mv' | apply rk_p1 | apply rk_p2 | apply rk_r1 | apply rk_ln | apply rk_ls); · (first | (simp (disch := omega) only [evl, Nat.reduceEqDiff, Nat.reduceAdd, reduceIte, reduceCtorEq] <;> exact rfl) | exact rfl)) | ((first | apply rc_cond | apply rk_gd); (· (first | (simp (disch := omega) only [evl, Nat.reduceEqDiff, Nat.reduceAdd, reduceIte, reduceCtorEq] <;> exact rfl) | exact rfl)); all_goals (intro hb; try simp only [bvl, ne_eq, Bool.not_true, Bool.not_false, reduceCtorEq, not_true_eq_false] at hb)) | (refine rk_gd_u ?_ ?_; · (first | (simp (disch := omega) only [evl, Nat.reduceEqDiff, Nat.reduceAdd, reduceIte, reduceCtorEq] <;> exact rfl) | exact rfl))))
    refine rk_cl (by (simp (disch := omega) only [evl, Nat.reduceEqDiff, Nat.reduceAdd, reduceIte, reduceCtorEq]); exact count_good H7 v l (hs.hx hx7) (hx7.hide.trans hh) (by rw [hx7.lo]; omega) (by omega) hok) ?_
    rintro r H8 ⟨hx8', rfl⟩
    have hx8 := hx7.trans hx8'
    have hn8x := hx8.next
    simp only [hOut_f]
    rw [← htl]
    have hlL := fun H' => len_el (H' := H') u22 hap.isSl
    have hlR := fun H' => len_el (H' := H') u22 hap4.isSl
    have hsL8 : SlX H8 s L := hsL.hx (((hx4'.trans hx5').trans (hx6'.trans hx7')).trans hx8')
    have hsR8 : SlX H8 s4 R := hap4.slZ.hx ((hx5'.trans (hx6'.trans hx7')).trans hx8')
    clear totR totL hRt htl Htl Hle
    by_cases hzL : L.length = 0
    · (repeat' (first | refine rc_reg ?_ | refine rc_seq ?_ | refine rk_done ?_ | refine rn_seq_n ?_ | refine rc_blk ?_ | refine rc_skip ?_ | refine rc_exit ?_ | refine rc_ret ?_ | refine rc_scp ?_ | refine rn_seq_e ?_ | refine rn_seq_r ?_ | refine rn_blk_n ?_ | refine rn_blk_r ?_ | refine rn_blk_e ?_ | refine rn_scp_n ?_ | refine rn_scp_e ?_ | refine rn_scp_r ?_ | refine rk_sk ?_ | refine rn_blk_x (by decide) ?_ | ((first | apply rk_mv' | apply rk_p1 | apply rk_p2 | apply rk_r1 | apply rk_ln | apply rk_ls); · (first | (simp (disch := omega) only [evl, Nat.reduceEqDiff, Nat.reduceAdd, reduceIte, reduceCtorEq, hlL, hlR] <;> exact rfl) | exact rfl)) | ((first | apply rc_cond | apply rk_gd); (· (first | (simp (disch := omega) only [evl, Nat.reduceEqDiff, Nat.reduceAdd, reduceIte, reduceCtorEq, hlL, hlR] <;> exact rfl) | exact rfl)); all_goals (intro hb; try simp only [bvl, ne_eq, Bool.not_true, Bool.not_false, reduceCtorEq, not_true_eq_false] at hb)) | (refine rk_gd_u ?_ ?_; · (first | (simp (disch := omega) only [evl, Nat.reduceEqDiff, Nat.reduceAdd, reduceIte, reduceCtorEq, hlL, hlR] <;> exact rfl) | exact rfl))))
      refine rn_nil ?_; refine fq_ret (resV_1 _ _) ⟨?_, hx8⟩
      (simp (disch := omega) only [evl, Nat.reduceEqDiff, Nat.reduceAdd, reduceIte, reduceCtorEq])
    by_cases hzR : R.length = 0
    · (repeat' (first | refine rc_reg ?_ | refine rc_seq ?_ | refine rk_done ?_ | refine rn_seq_n ?_ | refine rc_blk ?_ | refine rc_skip ?_ | refine rc_exit ?_ | refine rc_ret ?_ | refine rc_scp ?_ | refine rn_seq_e ?_ | refine rn_seq_r ?_ | refine rn_blk_n ?_ | refine rn_blk_r ?_ | refine rn_blk_e ?_ | refine rn_scp_n ?_ | refine rn_scp_e ?_ | refine rn_scp_r ?_ | refine rk_sk ?_ | refine rn_blk_x (by decide) ?_ | ((first | apply rk_mv' | apply rk_p1 | apply rk_p2 | apply rk_r1 | apply rk_ln | apply rk_ls); · (first | (simp (disch := omega) only [evl, Nat.reduceEqDiff, Nat.reduceAdd, reduceIte, reduceCtorEq, hlL, hlR] <;> exact rfl) | exact rfl)) | ((first | apply rc_cond | apply rk_gd); (· (first | (simp (disch := omega) only [evl, Nat.reduceEqDiff, Nat.reduceAdd, reduceIte, reduceCtorEq, hlL, hlR] <;> exact rfl) | exact rfl)); all_goals (intro hb; try simp only [bvl, ne_eq, Bool.not_true, Bool.not_false, reduceCtorEq, not_true_eq_false] at hb)) | (refine rk_gd_u ?_ ?_; · (first | (simp (disch := omega) only [evl, Nat.reduceEqDiff, Nat.reduceAdd, reduceIte, reduceCtorEq, hlL, hlR] <;> exact rfl) | exact rfl))))
      refine rn_nil ?_; refine fq_ret (resV_1 _ _) ⟨?_, hx8⟩
      (simp (disch := omega) only [evl, Nat.reduceEqDiff, Nat.reduceAdd, reduceIte, reduceCtorEq])
    have hneL : L ≠ [] := fun h => hzL (by rw [h]; rfl)
    have hneR : R ≠ [] := fun h => hzR (by rw [h]; rfl)
    have hfin : (exG L (L.length - 1)).1 + (exG L (L.length - 1)).2 ≤ (exG R 0).1 := by
      have h1 := hasB_first okR hneR
      rw [hasR] at h1
      simp only [Bool.and_eq_true, Bool.not_eq_true'] at h1
      by_cases h2 : (exG R 0).1 < lastE L
      · rw [hend hneL _ h1.1 h2] at h1; cases h1.2
      · exact Int.not_lt.1 h2
    have hixL := ix_el hsL8.is (k := .i64) (e := (L.length : Int) - 1) (z := 2) (by omega) (by omega)
    rw [show ((L.length : Int) - 1).toNat = L.length - 1 from by omega] at hixL
    have hixR : ixS 2 s4 (.int .i64 0) = some (elA 2 s4 0) := ix_el hsR8.is (k := .i64) (e := 0) (z := 2) (by omega) (by omega)
    have hrdL := SlX.rdN hsL8 (k := L.length - 1) (by omega)
    obtain ⟨H9, HA, hal, hst, hx9, hn9, hr9⟩ := boxN look (e := 43) (s := 2) (z := AV.toC (.agg [.int .i64 0, .int .i64 0])) (v := exV (exG L (L.length - 1))) (hx8.hide.trans hh) (by rw [hx8.lo]; omega) (by rw [toC_l]; rfl) rfl rfl
    have hA := hr9.rd (k := 0) rfl
    have hB := hr9.rd (k := 1) rfl
    have hfR := fa_el (hsR8.hx hx9).is (k := 0) (by omega) 2 0
    have hrR := SlX.rd0 (hsR8.hx hx9) (k := 0) (by omega)
    have hbd := Ok.at okL (i := L.length - 1) (by omega) (Int.le_refl _)
    clear hin hend hasR lw e1
    (repeat' (first | refine rc_reg ?_ | refine rc_seq ?_ | refine rk_done ?_ | refine rn_seq_n ?_ | refine rc_blk ?_ | refine rc_skip ?_ | refine rc_exit ?_ | refine rc_ret ?_ | refine rc_scp ?_ | refine rn_seq_e ?_ | refine rn_seq_r ?_ | refine rn_blk_n ?_ | refine rn_blk_r ?_ | refine rn_blk_e ?_ | refine rn_scp_n ?_ | refine rn_scp_e ?_ | refine rn_scp_r ?_ | refine rk_sk ?_ | refine rn_blk_x (by decide) ?_ | ((first | apply rk_mv' | apply rk_p1 | apply rk_p2 | apply rk_r1 | apply rk_ln | apply rk_ls); · (first | (simp (disch := omega) only [evl, Nat.reduceEqDiff, Nat.reduceAdd, reduceIte, reduceCtorEq, hlL, hlR, hixL, hrdL] <;> exact rfl) | exact rfl)) | ((first | apply rc_cond | apply rk_gd); (· (first | (simp (disch := omega) only [evl, Nat.reduceEqDiff, Nat.reduceAdd, reduceIte, reduceCtorEq, hlL, hlR, hixL, hrdL] <;> exact rfl) | exact rfl)); all_goals (intro hb; try simp only [bvl, ne_eq, Bool.not_true, Bool.not_false, reduceCtorEq, not_true_eq_false] at hb)) | (refine rk_gd_u ?_ ?_; · (first | (simp (disch := omega) only [evl, Nat.reduceEqDiff, Nat.reduceAdd, reduceIte, reduceCtorEq, hlL, hlR, hixL, hrdL] <;> exact rfl) | exact rfl))))
    apply rk_al
    · (simp (disch := omega) only [evl, Nat.reduceEqDiff, Nat.reduceAdd, reduceIte, reduceCtorEq])
      exact hal
    simp only [hOut_f]
    apply rk_st
    · (simp (disch := omega) only [evl, Nat.reduceEqDiff, Nat.reduceAdd, reduceIte, reduceCtorEq])
      exact hst
    simp only [hOut_f]
    generalize (exG L (L.length - 1)).1 = x1 at *
    generalize (exG L (L.length - 1)).2 = x2 at *
    generalize (exG R 0).1 = x3 at *
    (repeat' (first | refine rc_reg ?_ | refine rc_seq ?_ | refine rk_done ?_ | refine rn_seq_n ?_ | refine rc_blk ?_ | refine rc_skip ?_ | refine rc_exit ?_ | refine rc_ret ?_ | refine rc_scp ?_ | refine rn_seq_e ?_ | refine rn_seq_r ?_ | refine rn_blk_n ?_ | refine rn_blk_r ?_ | refine rn_blk_e ?_ | refine rn_scp_n ?_ | refine rn_scp_e ?_ | refine rn_scp_r ?_ | refine rk_sk ?_ | refine rn_blk_x (by decide) ?_ | ((first | apply rk_mv' | apply rk_p1 | apply rk_p2 | apply rk_r1 | apply rk_ln | apply rk_ls); · (first | (simp (disch := omega) only [evl, Nat.reduceEqDiff, Nat.reduceAdd, reduceIte, reduceCtorEq, hA, hB, hixR, hfR, hrR] <;> exact rfl) | exact rfl)) | ((first | apply rc_cond | apply rk_gd); (· (first | (simp (disch := omega) only [evl, Nat.reduceEqDiff, Nat.reduceAdd, reduceIte, reduceCtorEq, hA, hB, hixR, hfR, hrR] <;> exact rfl) | exact rfl)); all_goals (intro hb; try simp only [bvl, ne_eq, Bool.not_true, Bool.not_false, reduceCtorEq, not_true_eq_false] at hb)) | (refine rk_gd_u ?_ ?_; · (first | (simp (disch := omega) only [evl, Nat.reduceEqDiff, Nat.reduceAdd, reduceIte, reduceCtorEq, hA, hB, hixR, hfR, hrR] <;> exact rfl) | exact rfl))))
    refine rn_nil ?_; refine fq_ret (resV_1 _ _) ⟨?_, hx8.trans hx9⟩
    (simp (disch := omega) only [evl, Nat.reduceEqDiff, Nat.reduceAdd, reduceIte, reduceCtorEq])
end Go.Proofs.Ytnkomaedmblemaa
