import Derived.Test.YtnkomaedmblemaaExA
import Derived.Test.YtnkomaedmblemaaExl
set_option linter.unusedSimpArgs false
set_option linter.unusedVariables false
namespace Go.Proofs.Ytnkomaedmblemaa
open Go.Ev Exl
open Ra Rb Rc Rd Re Rf Rg Rh Ri Rj Rk Rl Rm Rn Ro Rp Rq Rr
set_option maxHeartbeats 4000000 in
theorem refCheck_ok (H : AH) (v : AV) (l : List (Int × Int)) (hs : SlX H v l) (hh : H.hide = []) (hlo : H.lo ≤ H.next) (hl : l.length ≤ 1000000) :
    FnE look 30 [v] H fun r H' => HX H H' ∧ ((Ok 0 l ∧ r = .int .i64 0) ∨ (¬ Ok 0 l ∧ r = .int .i64 2)) := by
  refine fn_intro f30_eq (noext rfl) rfl ?_
  unfold f30c
  have hlen := fun H' => len_el (H' := H') u22 hs.is
  (repeat' (first | refine Z ?_ | refine Zq ?_ | refine rn_blk_x (by decide) ?_ | ((first | refine' Y ?_ ?_ | refine' X ?_ ?_ ?_); rotate_left; (· (first | (simp (disch := omega) only [evl, Nat.reduceEqDiff, Nat.reduceAdd, reduceIte, reduceCtorEq, hlen] <;> exact rfl) | exact rfl)); all_goals try (refine fun (hb : _ = _) => ?_; try simp only [Zu, ne_eq, reduceCtorEq] at hb)) | (apply rk_gd_u; · simp [evl])))
  refine rc_loop (R := fun ex T' H' => HX H H' ∧ ((ex = .exit 0 ∧ Ok 0 l) ∨ (ex = .ret ∧ ¬ Ok 0 l ∧ gT T' 2 = .int .i64 2))) ?_ ?_
  · refine lp_ind f30l0_eq (fun k T H' => ∃ (i : Nat) (fr : Int), k = l.length - i ∧ i ≤ l.length ∧ gT T 0 = v ∧ True ∧ gT T 3 = .int .i64 fr ∧ gT T 4 = .int .i64 i ∧ HX H H' ∧ 0 ≤ fr ∧ fr ≤ 4097 ∧ (Ok 0 l ↔ Ok fr (l.drop i))) _ ?_ l.length _ _ ?_
    · intro k T H' hI
      obtain ⟨i, fr, hk, hi, h0, h7, h3, h4, hx, hf0, hf1, hok⟩ := hI
      unfold f30l0
      have Hok := Hd.mk hok
      clear hok
      by_cases hlt : i < l.length
      · have hsx : SlX H' v l := hs.hx hx
        have hix := @ix_el _ _ _ hsx.is
        have hrd := SlX.rdN hsx hlt
        have Hc := Hd.mk (Ok.cons (fr := fr) hlt)
        (repeat' (first | refine Z ?_ | refine Zq ?_ | refine rn_blk_x (by decide) ?_ | ((first | refine' Y ?_ ?_ | refine' X ?_ ?_ ?_); rotate_left; (· (first | (simp (disch := omega) only [evl, Nat.reduceEqDiff, Nat.reduceAdd, reduceIte, reduceCtorEq, h0, h7, h3, h4, hlen, hix, hrd] <;> exact rfl) | exact rfl)); all_goals try (refine fun (hb : _ = _) => ?_; try simp only [Zu, ne_eq, reduceCtorEq] at hb)) | (apply rk_gd_u; · simp [evl])))
        obtain ⟨H1, H2, hal, hst, hx2, hn2, hr2⟩ := boxN look (e := 43) (s := 2) (z := AV.toC (.agg [.int .i64 0, .int .i64 0])) (v := exV (exG l i)) (hx.hide.trans hh) (by rw [hx.lo]; have := hx.next; omega) (by rw [toC_l]; rfl) rfl rfl
        apply rk_al
        · (simp (disch := omega) only [evl, Nat.reduceEqDiff, Nat.reduceAdd, reduceIte, reduceCtorEq])
          exact hal
        simp only [hOut_f]
        apply rk_st
        · (simp (disch := omega) only [evl, Nat.reduceEqDiff, Nat.reduceAdd, reduceIte, reduceCtorEq])
          exact hst
        simp only [hOut_f]
        have hA := hr2.rd (k := 0) rfl
        have hB := hr2.rd (k := 1) rfl
        have hxT := hx.trans hx2
        generalize ha : (exG l i).1 = a at *
        generalize hb : (exG l i).2 = b at *
        clear ha hb hrd hr2 hst hal
        by_cases h1 : a < fr
        · (repeat' (first | refine Z ?_ | refine Zq ?_ | refine rn_blk_x (by decide) ?_ | ((first | refine' Y ?_ ?_ | refine' X ?_ ?_ ?_); rotate_left; (· (first | (simp (disch := omega) only [evl, Nat.reduceEqDiff, Nat.reduceAdd, reduceIte, reduceCtorEq, h0, h7, h3, h4, hlen, hA, hB] <;> exact rfl) | exact rfl)); all_goals try (refine fun (hb : _ = _) => ?_; try simp only [Zu, ne_eq, reduceCtorEq] at hb)) | (apply rk_gd_u; · simp [evl])))
          refine rn_nil ?_; refine lpq_r ?_
          refine ⟨hxT, .inr ⟨rfl, ?_, (by (first | (simp (disch := omega) only [evl, Nat.reduceEqDiff, Nat.reduceAdd, reduceIte, reduceCtorEq] <;> exact rfl) | exact rfl))⟩⟩
          rw [Hok.out, Hc.out]; omega
        by_cases h2 : 4096 ≤ a
        · (repeat' (first | refine Z ?_ | refine Zq ?_ | refine rn_blk_x (by decide) ?_ | ((first | refine' Y ?_ ?_ | refine' X ?_ ?_ ?_); rotate_left; (· (first | (simp (disch := omega) only [evl, Nat.reduceEqDiff, Nat.reduceAdd, reduceIte, reduceCtorEq, h0, h7, h3, h4, hlen, hA, hB] <;> exact rfl) | exact rfl)); all_goals try (refine fun (hb : _ = _) => ?_; try simp only [Zu, ne_eq, reduceCtorEq] at hb)) | (apply rk_gd_u; · simp [evl])))
          refine rn_nil ?_; refine lpq_r ?_
          refine ⟨hxT, .inr ⟨rfl, ?_, (by (first | (simp (disch := omega) only [evl, Nat.reduceEqDiff, Nat.reduceAdd, reduceIte, reduceCtorEq] <;> exact rfl) | exact rfl))⟩⟩
          rw [Hok.out, Hc.out]; omega
        by_cases h3' : b < 1
        · (repeat' (first | refine Z ?_ | refine Zq ?_ | refine rn_blk_x (by decide) ?_ | ((first | refine' Y ?_ ?_ | refine' X ?_ ?_ ?_); rotate_left; (· (first | (simp (disch := omega) only [evl, Nat.reduceEqDiff, Nat.reduceAdd, reduceIte, reduceCtorEq, h0, h7, h3, h4, hlen, hA, hB] <;> exact rfl) | exact rfl)); all_goals try (refine fun (hb : _ = _) => ?_; try simp only [Zu, ne_eq, reduceCtorEq] at hb)) | (apply rk_gd_u; · simp [evl])))
          refine rn_nil ?_; refine lpq_r ?_
          refine ⟨hxT, .inr ⟨rfl, ?_, (by (first | (simp (disch := omega) only [evl, Nat.reduceEqDiff, Nat.reduceAdd, reduceIte, reduceCtorEq] <;> exact rfl) | exact rfl))⟩⟩
          rw [Hok.out, Hc.out]; omega
        by_cases h4' : 4096 - a < b
        · (repeat' (first | refine Z ?_ | refine Zq ?_ | refine rn_blk_x (by decide) ?_ | ((first | refine' Y ?_ ?_ | refine' X ?_ ?_ ?_); rotate_left; (· (first | (simp (disch := omega) only [evl, Nat.reduceEqDiff, Nat.reduceAdd, reduceIte, reduceCtorEq, h0, h7, h3, h4, hlen, hA, hB] <;> exact rfl) | exact rfl)); all_goals try (refine fun (hb : _ = _) => ?_; try simp only [Zu, ne_eq, reduceCtorEq] at hb)) | (apply rk_gd_u; · simp [evl])))
          refine rn_nil ?_; refine lpq_r ?_
          refine ⟨hxT, .inr ⟨rfl, ?_, (by (first | (simp (disch := omega) only [evl, Nat.reduceEqDiff, Nat.reduceAdd, reduceIte, reduceCtorEq] <;> exact rfl) | exact rfl))⟩⟩
          rw [Hok.out, Hc.out]; omega
        · (repeat' (first | refine Z ?_ | refine Zq ?_ | refine rn_blk_x (by decide) ?_ | ((first | refine' Y ?_ ?_ | refine' X ?_ ?_ ?_); rotate_left; (· (first | (simp (disch := omega) only [evl, Nat.reduceEqDiff, Nat.reduceAdd, reduceIte, reduceCtorEq, h0, h7, h3, h4, hlen, hA, hB] <;> exact rfl) | exact rfl)); all_goals try (refine fun (hb : _ = _) => ?_; try simp only [Zu, ne_eq, reduceCtorEq] at hb)) | (apply rk_gd_u; · simp [evl])))
          refine rn_nil ?_; refine lpq_n (l.length - (i + 1)) (by omega) ?_
          refine ⟨i + 1, a + b + 1, rfl, by omega, (by (first | (simp (disch := omega) only [evl, Nat.reduceEqDiff, Nat.reduceAdd, reduceIte, reduceCtorEq, h0] <;> exact rfl) | exact rfl)), trivial, (by (first | (simp (disch := omega) only [evl, Nat.reduceEqDiff, Nat.reduceAdd, reduceIte, reduceCtorEq] <;> exact rfl) | exact rfl)), (by (first | (simp (disch := omega) only [evl, Nat.reduceEqDiff, Nat.reduceAdd, reduceIte, reduceCtorEq, h4] <;> exact rfl) | exact rfl)), hxT, by omega, by omega, ?_⟩
          rw [Hok.out, Hc.out]
          constructor
          · intro h; exact h.2.2.2.2
          · intro h; exact ⟨by omega, by omega, by omega, by omega, h⟩
      · (repeat' (first | refine Z ?_ | refine Zq ?_ | refine rn_blk_x (by decide) ?_ | ((first | refine' Y ?_ ?_ | refine' X ?_ ?_ ?_); rotate_left; (· (first | (simp (disch := omega) only [evl, Nat.reduceEqDiff, Nat.reduceAdd, reduceIte, reduceCtorEq, h0, h7, h4, hlen] <;> exact rfl) | exact rfl)); all_goals try (refine fun (hb : _ = _) => ?_; try simp only [Zu, ne_eq, reduceCtorEq] at hb)) | (apply rk_gd_u; · simp [evl])))
        refine rn_nil ?_; refine lpq_e ?_
        obtain rfl : i = l.length := by omega
        refine ⟨hx, .inl ⟨rfl, ?_⟩⟩
        rw [Hok.out, List.drop_length]; trivial
    · exact ⟨0, 0, by omega, by omega, (by (first | (simp (disch := omega) only [evl, Nat.reduceEqDiff, Nat.reduceAdd, reduceIte, reduceCtorEq] <;> exact rfl) | exact rfl)), trivial, (by (first | (simp (disch := omega) only [evl, Nat.reduceEqDiff, Nat.reduceAdd, reduceIte, reduceCtorEq] <;> exact rfl) | exact rfl)), (by (first | (simp (disch := omega) only [evl, Nat.reduceEqDiff, Nat.reduceAdd, reduceIte, reduceCtorEq] <;> exact rfl) | exact rfl)), HX.refl _, by omega, by omega, Iff.rfl⟩
  · rintro ex T' H' ⟨hx, ⟨rfl, hok⟩ | ⟨rfl, hok, h2⟩⟩
    · (repeat' (first | refine Z ?_ | refine Zq ?_ | refine rn_blk_x (by decide) ?_ | ((first | refine' Y ?_ ?_ | refine' X ?_ ?_ ?_); rotate_left; (· (first | (simp (disch := omega) only [evl, Nat.reduceEqDiff, Nat.reduceAdd, reduceIte, reduceCtorEq] <;> exact rfl) | exact rfl)); all_goals try (refine fun (hb : _ = _) => ?_; try simp only [Zu, ne_eq, reduceCtorEq] at hb)) | (apply rk_gd_u; · simp [evl])))
      refine rn_nil ?_; refine fq_ret (resV_1 _ _) ⟨hx, .inl ⟨hok, ?_⟩⟩
      (simp (disch := omega) only [evl, Nat.reduceEqDiff, Nat.reduceAdd, reduceIte, reduceCtorEq])
    · (repeat' (first | refine Z ?_ | refine Zq ?_ | refine rn_blk_x (by decide) ?_ | ((first | refine' Y ?_ ?_ | refine' X ?_ ?_ ?_); rotate_left; (· (first | (simp (disch := omega) only [evl, Nat.reduceEqDiff, Nat.reduceAdd, reduceIte, reduceCtorEq] <;> exact rfl) | exact rfl)); all_goals try (refine fun (hb : _ = _) => ?_; try simp only [Zu, ne_eq, reduceCtorEq] at hb)) | (apply rk_gd_u; · simp [evl])))
      refine rn_nil ?_; refine fq_ret (resV_1 _ _) ⟨hx, .inr ⟨hok, ?_⟩⟩
      rw [h2]

set_option maxHeartbeats 4000000 in
theorem check_ok (H : AH) (v : AV) (l : List (Int × Int)) (hs : SlX H v l) (hh : H.hide = []) (hlo : H.lo ≤ H.next) (hl : l.length ≤ 1000000) :
    FnE look 22 [v] H fun r H' => HX H H' ∧ ((Ok 0 l ∧ r = .int .i64 0) ∨ (¬ Ok 0 l ∧ r = .int .i64 2)) := by
  refine fn_intro f22_eq (noext rfl) rfl ?_
  unfold f22c
  have hlen := fun H' => len_el (H' := H') u22 hs.is
  (repeat' (first | refine Z ?_ | refine Zq ?_ | refine rn_blk_x (by decide) ?_ | ((first | refine' Y ?_ ?_ | refine' X ?_ ?_ ?_); rotate_left; (· (first | (simp (disch := omega) only [evl, Nat.reduceEqDiff, Nat.reduceAdd, reduceIte, reduceCtorEq, hlen] <;> exact rfl) | exact rfl)); all_goals try (refine fun (hb : _ = _) => ?_; try simp only [Zu, ne_eq, reduceCtorEq] at hb)) | (apply rk_gd_u; · simp [evl])))
  refine rc_loop (R := fun ex T' H' => HX H H' ∧ ((ex = .exit 0 ∧ Ok 0 l) ∨ (ex = .ret ∧ ¬ Ok 0 l ∧ gT T' 2 = .int .i64 2))) ?_ ?_
  · refine lp_ind f22l0_eq (fun k T H' => ∃ (i : Nat) (fr : Int), k = l.length - i ∧ i ≤ l.length ∧ gT T 6 = v ∧ gT T 7 = .int .i64 l.length ∧ gT T 3 = .int .i64 fr ∧ gT T 8 = .int .i64 i ∧ HX H H' ∧ 0 ≤ fr ∧ fr ≤ 4097 ∧ (Ok 0 l ↔ Ok fr (l.drop i))) _ ?_ l.length _ _ ?_
    · intro k T H' hI
      obtain ⟨i, fr, hk, hi, h0, h7, h3, h4, hx, hf0, hf1, hok⟩ := hI
      unfold f22l0
      have Hok := Hd.mk hok
      clear hok
      by_cases hlt : i < l.length
      · have hsx : SlX H' v l := hs.hx hx
        have hix := @ix_el _ _ _ hsx.is
        have hrd := SlX.rdN hsx hlt
        have Hc := Hd.mk (Ok.cons (fr := fr) hlt)
        (repeat' (first | refine Z ?_ | refine Zq ?_ | refine rn_blk_x (by decide) ?_ | ((first | refine' Y ?_ ?_ | refine' X ?_ ?_ ?_); rotate_left; (· (first | (simp (disch := omega) only [evl, Nat.reduceEqDiff, Nat.reduceAdd, reduceIte, reduceCtorEq, h0, h7, h3, h4, hlen, hix, hrd] <;> exact rfl) | exact rfl)); all_goals try (refine fun (hb : _ = _) => ?_; try simp only [Zu, ne_eq, reduceCtorEq] at hb)) | (apply rk_gd_u; · simp [evl])))
        obtain ⟨H1, H2, hal, hst, hx2, hn2, hr2⟩ := boxN look (e := 43) (s := 2) (z := AV.toC (.agg [.int .i64 0, .int .i64 0])) (v := exV (exG l i)) (hx.hide.trans hh) (by rw [hx.lo]; have := hx.next; omega) (by rw [toC_l]; rfl) rfl rfl
        apply rk_al
        · (simp (disch := omega) only [evl, Nat.reduceEqDiff, Nat.reduceAdd, reduceIte, reduceCtorEq])
          exact hal
        simp only [hOut_f]
        apply rk_st
        · (simp (disch := omega) only [evl, Nat.reduceEqDiff, Nat.reduceAdd, reduceIte, reduceCtorEq])
          exact hst
        simp only [hOut_f]
        have hA := hr2.rd (k := 0) rfl
        have hB := hr2.rd (k := 1) rfl
        have hxT := hx.trans hx2
        generalize ha : (exG l i).1 = a at *
        generalize hb : (exG l i).2 = b at *
        clear ha hb hrd hr2 hst hal
        by_cases h1 : a < fr
        · (repeat' (first | refine Z ?_ | refine Zq ?_ | refine rn_blk_x (by decide) ?_ | ((first | refine' Y ?_ ?_ | refine' X ?_ ?_ ?_); rotate_left; (· (first | (simp (disch := omega) only [evl, Nat.reduceEqDiff, Nat.reduceAdd, reduceIte, reduceCtorEq, h0, h7, h3, h4, hlen, hA, hB] <;> exact rfl) | exact rfl)); all_goals try (refine fun (hb : _ = _) => ?_; try simp only [Zu, ne_eq, reduceCtorEq] at hb)) | (apply rk_gd_u; · simp [evl])))
          refine rn_nil ?_; refine lpq_r ?_
          refine ⟨hxT, .inr ⟨rfl, ?_, (by (first | (simp (disch := omega) only [evl, Nat.reduceEqDiff, Nat.reduceAdd, reduceIte, reduceCtorEq] <;> exact rfl) | exact rfl))⟩⟩
          rw [Hok.out, Hc.out]; omega
        by_cases h2 : 4096 ≤ a
        · (repeat' (first | refine Z ?_ | refine Zq ?_ | refine rn_blk_x (by decide) ?_ | ((first | refine' Y ?_ ?_ | refine' X ?_ ?_ ?_); rotate_left; (· (first | (simp (disch := omega) only [evl, Nat.reduceEqDiff, Nat.reduceAdd, reduceIte, reduceCtorEq, h0, h7, h3, h4, hlen, hA, hB] <;> exact rfl) | exact rfl)); all_goals try (refine fun (hb : _ = _) => ?_; try simp only [Zu, ne_eq, reduceCtorEq] at hb)) | (apply rk_gd_u; · simp [evl])))
          refine rn_nil ?_; refine lpq_r ?_
          refine ⟨hxT, .inr ⟨rfl, ?_, (by (first | (simp (disch := omega) only [evl, Nat.reduceEqDiff, Nat.reduceAdd, reduceIte, reduceCtorEq] <;> exact rfl) | exact rfl))⟩⟩
          rw [Hok.out, Hc.out]; omega
        by_cases h3' : b < 1
        · (repeat' (first | refine Z ?_ | refine Zq ?_ | refine rn_blk_x (by decide) ?_ | ((first | refine' Y ?_ ?_ | refine' X ?_ ?_ ?_); rotate_left; (· (first | (simp (disch := omega) only [evl, Nat.reduceEqDiff, Nat.reduceAdd, reduceIte, reduceCtorEq, h0, h7, h3, h4, hlen, hA, hB] <;> exact rfl) | exact rfl)); all_goals try (refine fun (hb : _ = _) => ?_; try simp only [Zu, ne_eq, reduceCtorEq] at hb)) | (apply rk_gd_u; · simp [evl])))
          refine rn_nil ?_; refine lpq_r ?_
          refine ⟨hxT, .inr ⟨rfl, ?_, (by (first | (simp (disch := omega) only [evl, Nat.reduceEqDiff, Nat.reduceAdd, reduceIte, reduceCtorEq] <;> exact rfl) | exact rfl))⟩⟩
          rw [Hok.out, Hc.out]; omega
        by_cases h4' : 4096 - a < b
        · (repeat' (first | refine Z ?_ | refine Zq ?_ | refine rn_blk_x (by decide) ?_ | ((first | refine' Y ?_ ?_ | refine' X ?_ ?_ ?_); rotate_left; (· (first | (simp (disch := omega) only [evl, Nat.reduceEqDiff, Nat.reduceAdd, reduceIte, reduceCtorEq, h0, h7, h3, h4, hlen, hA, hB] <;> exact rfl) | exact rfl)); all_goals try (refine fun (hb : _ = _) => ?_; try simp only [Zu, ne_eq, reduceCtorEq] at hb)) | (apply rk_gd_u; · simp [evl])))
          refine rn_nil ?_; refine lpq_r ?_
          refine ⟨hxT, .inr ⟨rfl, ?_, (by (first | (simp (disch := omega) only [evl, Nat.reduceEqDiff, Nat.reduceAdd, reduceIte, reduceCtorEq] <;> exact rfl) | exact rfl))⟩⟩
          rw [Hok.out, Hc.out]; omega
        · (repeat' (first | refine Z ?_ | refine Zq ?_ | refine rn_blk_x (by decide) ?_ | ((first | refine' Y ?_ ?_ | refine' X ?_ ?_ ?_); rotate_left; (· (first | (simp (disch := omega) only [evl, Nat.reduceEqDiff, Nat.reduceAdd, reduceIte, reduceCtorEq, h0, h7, h3, h4, hlen, hA, hB] <;> exact rfl) | exact rfl)); all_goals try (refine fun (hb : _ = _) => ?_; try simp only [Zu, ne_eq, reduceCtorEq] at hb)) | (apply rk_gd_u; · simp [evl])))
          refine rn_nil ?_; refine lpq_n (l.length - (i + 1)) (by omega) ?_
          refine ⟨i + 1, a + b + 1, rfl, by omega, (by (first | (simp (disch := omega) only [evl, Nat.reduceEqDiff, Nat.reduceAdd, reduceIte, reduceCtorEq, h0] <;> exact rfl) | exact rfl)), (by (first | (simp (disch := omega) only [evl, Nat.reduceEqDiff, Nat.reduceAdd, reduceIte, reduceCtorEq, h7] <;> exact rfl) | exact rfl)), (by (first | (simp (disch := omega) only [evl, Nat.reduceEqDiff, Nat.reduceAdd, reduceIte, reduceCtorEq] <;> exact rfl) | exact rfl)), (by (first | (simp (disch := omega) only [evl, Nat.reduceEqDiff, Nat.reduceAdd, reduceIte, reduceCtorEq, h4] <;> exact rfl) | exact rfl)), hxT, by omega, by omega, ?_⟩
          rw [Hok.out, Hc.out]
          constructor
          · intro h; exact h.2.2.2.2
          · intro h; exact ⟨by omega, by omega, by omega, by omega, h⟩
      · (repeat' (first | refine Z ?_ | refine Zq ?_ | refine rn_blk_x (by decide) ?_ | ((first | refine' Y ?_ ?_ | refine' X ?_ ?_ ?_); rotate_left; (· (first | (simp (disch := omega) only [evl, Nat.reduceEqDiff, Nat.reduceAdd, reduceIte, reduceCtorEq, h0, h7, h4, hlen] <;> exact rfl) | exact rfl)); all_goals try (refine fun (hb : _ = _) => ?_; try simp only [Zu, ne_eq, reduceCtorEq] at hb)) | (apply rk_gd_u; · simp [evl])))
        refine rn_nil ?_; refine lpq_e ?_
        obtain rfl : i = l.length := by omega
        refine ⟨hx, .inl ⟨rfl, ?_⟩⟩
        rw [Hok.out, List.drop_length]; trivial
    · exact ⟨0, 0, by omega, by omega, (by (first | (simp (disch := omega) only [evl, Nat.reduceEqDiff, Nat.reduceAdd, reduceIte, reduceCtorEq] <;> exact rfl) | exact rfl)), (by (first | (simp (disch := omega) only [evl, Nat.reduceEqDiff, Nat.reduceAdd, reduceIte, reduceCtorEq] <;> exact rfl) | exact rfl)), (by (first | (simp (disch := omega) only [evl, Nat.reduceEqDiff, Nat.reduceAdd, reduceIte, reduceCtorEq] <;> exact rfl) | exact rfl)), (by (first | (simp (disch := omega) only [evl, Nat.reduceEqDiff, Nat.reduceAdd, reduceIte, reduceCtorEq] <;> exact rfl) | exact rfl)), HX.refl _, by omega, by omega, Iff.rfl⟩
  · rintro ex T' H' ⟨hx, ⟨rfl, hok⟩ | ⟨rfl, hok, h2⟩⟩
    · (repeat' (first | refine Z ?_ | refine Zq ?_ | refine rn_blk_x (by decide) ?_ | ((first | refine' Y ?_ ?_ | refine' X ?_ ?_ ?_); rotate_left; (· (first | (simp (disch := omega) only [evl, Nat.reduceEqDiff, Nat.reduceAdd, reduceIte, reduceCtorEq] <;> exact rfl) | exact rfl)); all_goals try (refine fun (hb : _ = _) => ?_; try simp only [Zu, ne_eq, reduceCtorEq] at hb)) | (apply rk_gd_u; · simp [evl])))
      refine rn_nil ?_; refine fq_ret (resV_1 _ _) ⟨hx, .inl ⟨hok, ?_⟩⟩
      (simp (disch := omega) only [evl, Nat.reduceEqDiff, Nat.reduceAdd, reduceIte, reduceCtorEq])
    · (repeat' (first | refine Z ?_ | refine Zq ?_ | refine rn_blk_x (by decide) ?_ | ((first | refine' Y ?_ ?_ | refine' X ?_ ?_ ?_); rotate_left; (· (first | (simp (disch := omega) only [evl, Nat.reduceEqDiff, Nat.reduceAdd, reduceIte, reduceCtorEq] <;> exact rfl) | exact rfl)); all_goals try (refine fun (hb : _ = _) => ?_; try simp only [Zu, ne_eq, reduceCtorEq] at hb)) | (apply rk_gd_u; · simp [evl])))
      refine rn_nil ?_; refine fq_ret (resV_1 _ _) ⟨hx, .inr ⟨hok, ?_⟩⟩
      rw [h2]

end Go.Proofs.Ytnkomaedmblemaa

set_option linter.unusedSimpArgs false
set_option linter.unusedVariables false
set_option maxRecDepth 100000
namespace Go.Proofs.Ytnkomaedmblemaa
open Go.Ev Exl
open Ra Rb Rc Rd Re Rf Rg Rh Ri Rj Rk Rl Rm Rn Ro Rp Rq Rr

theorem Ap.st {L : Lk} {t : Nat} {H : AH} {s : AV} {n e z N k j : Nat} {l : List AV} {v : AV} (h : Ap H s n l e z N) (hk : k < n) (hj : j < z) (hh : H.hide = []) (hlo : H.lo ≤ N) (hs : L.size t = some 1) (hv : v.oneCell = true) :
    ∃ H', Go.Ev.st1 L t (elB z s k j) v H = some H' ∧ Ap H' s n (l.set (k * z + j) v) e z N ∧ HP (blkNe s) H H' ∧ H'.next = H.next := by
  obtain ⟨h0, ⟨rfl, rfl⟩ | ⟨i, rfl, hr, hN, hi⟩⟩ := h
  · omega
  · have : k * z + j < n * z := by
      have : (k + 1) * z ≤ n * z := Nat.mul_le_mul_right z hk
      rw [Nat.add_mul] at this; omega
    obtain ⟨H', h1, h2, h3, h4⟩ := hr.st1 (L := L) (t := t) (v := v) (k := k * z + j) hh (by omega) hs hv (by omega)
    refine ⟨H', ?_, ⟨by simpa using h0, .inr ⟨i, rfl, h2, hN, by omega⟩⟩, h3.mono fun j hj hb => fun h => hb 0 n n true (by rw [h]), h4⟩
    show Go.Ev.st1 L t (.ptr i (0 + k * z + j)) v H = _
    rw [Nat.zero_add]; exact h1

set_option maxHeartbeats 4000000 in
theorem sum_ok (H : AH) (v : AV) (l : List (Int × Int)) (hs : SlX H v l) (hh : H.hide = []) (hlo : H.lo ≤ H.next) (hl : l.length ≤ 1000000) (hok : Ok 0 l) :
    FnE look 45 [v] H fun r H' => HX H H' ∧ r = .int .i64 (tot l) := by
  refine fn_intro f45_eq (noext rfl) rfl ?_
  unfold f45c
  have hlen := fun H' => len_el (H' := H') u22 hs.is
  (repeat' (first | refine Z ?_ | refine Zq ?_ | refine rn_blk_x (by decide) ?_ | ((first | refine' Y ?_ ?_ | refine' X ?_ ?_ ?_); rotate_left; (· (first | (simp (disch := omega) only [evl, Nat.reduceEqDiff, Nat.reduceAdd, reduceIte, reduceCtorEq, hlen] <;> exact rfl) | exact rfl)); all_goals try (refine fun (hb : _ = _) => ?_; try simp only [Zu, ne_eq, reduceCtorEq] at hb)) | (apply rk_gd_u; · simp [evl])))
  refine rc_loop (R := fun ex T' H' => HX H H' ∧ ex = .exit 0 ∧ gT T' 3 = .int .i64 (tot l)) ?_ ?_
  · refine lp_ind f45l0_eq (fun k T H' => ∃ (i : Nat), k = l.length - i ∧ i ≤ l.length ∧ gT T 6 = v ∧ gT T 7 = .int .i64 l.length ∧ gT T 3 = .int .i64 (tot (l.take i)) ∧ gT T 8 = .int .i64 i ∧ HX H H') _ ?_ l.length _ _ ?_
    · intro k T H' hI
      obtain ⟨i, hk, hi, h0, h7, h3, h4, hx⟩ := hI
      unfold f45l0
      have hb1 := (Ok.take i hok).tot (by omega)
      by_cases hlt : i < l.length
      · have hsx : SlX H' v l := hs.hx hx
        have hix := @ix_el _ _ _ hsx.is
        have hrd := SlX.rdN hsx hlt
        have hb2 := (Ok.take (i + 1) hok).tot (by omega)
        have hts := tot_snoc l hlt
        (repeat' (first | refine Z ?_ | refine Zq ?_ | refine rn_blk_x (by decide) ?_ | ((first | refine' Y ?_ ?_ | refine' X ?_ ?_ ?_); rotate_left; (· (first | (simp (disch := omega) only [evl, Nat.reduceEqDiff, Nat.reduceAdd, reduceIte, reduceCtorEq, h0, h7, h3, h4, hlen, hix, hrd] <;> exact rfl) | exact rfl)); all_goals try (refine fun (hb : _ = _) => ?_; try simp only [Zu, ne_eq, reduceCtorEq] at hb)) | (apply rk_gd_u; · simp [evl])))
        obtain ⟨H1, H2, hal, hst, hx2, hn2, hr2⟩ := boxN look (e := 43) (s := 2) (z := AV.toC (.agg [.int .i64 0, .int .i64 0])) (v := exV (exG l i)) (hx.hide.trans hh) (by rw [hx.lo]; have := hx.next; omega) (by rw [toC_l]; rfl) rfl rfl
        apply rk_al
        · (simp (disch := omega) only [evl, Nat.reduceEqDiff, Nat.reduceAdd, reduceIte, reduceCtorEq])
          exact hal
        simp only [hOut_f]
        apply rk_st
        · (simp (disch := omega) only [evl, Nat.reduceEqDiff, Nat.reduceAdd, reduceIte, reduceCtorEq])
          exact hst
        simp only [hOut_f]
        have hB := hr2.rd (k := 1) rfl
        have hxT := hx.trans hx2
        generalize hb : (exG l i).2 = b at *
        generalize htt : tot (l.take i) = t at *
        have Hts := Hd.mk hts
        clear hts htt hb hal hst hr2 hrd
        rw [Hts.out] at hb2
        (repeat' (first | refine Z ?_ | refine Zq ?_ | refine rn_blk_x (by decide) ?_ | ((first | refine' Y ?_ ?_ | refine' X ?_ ?_ ?_); rotate_left; (· (first | (simp (disch := omega) only [evl, Nat.reduceEqDiff, Nat.reduceAdd, reduceIte, reduceCtorEq, h0, h7, h3, h4, hB] <;> exact rfl) | exact rfl)); all_goals try (refine fun (hb : _ = _) => ?_; try simp only [Zu, ne_eq, reduceCtorEq] at hb)) | (apply rk_gd_u; · simp [evl])))
        refine rn_nil ?_; refine lpq_n (l.length - (i + 1)) (by omega) ?_
        refine ⟨i + 1, rfl, by omega, (by (first | (simp (disch := omega) only [evl, Nat.reduceEqDiff, Nat.reduceAdd, reduceIte, reduceCtorEq, h0] <;> exact rfl) | exact rfl)), (by (first | (simp (disch := omega) only [evl, Nat.reduceEqDiff, Nat.reduceAdd, reduceIte, reduceCtorEq, h7] <;> exact rfl) | exact rfl)), ?_, (by (first | (simp (disch := omega) only [evl, Nat.reduceEqDiff, Nat.reduceAdd, reduceIte, reduceCtorEq, h4] <;> exact rfl) | exact rfl)), hxT⟩
        rw [Hts.out]; (first | (simp (disch := omega) only [evl, Nat.reduceEqDiff, Nat.reduceAdd, reduceIte, reduceCtorEq] <;> exact rfl) | exact rfl)
      · (repeat' (first | refine Z ?_ | refine Zq ?_ | refine rn_blk_x (by decide) ?_ | ((first | refine' Y ?_ ?_ | refine' X ?_ ?_ ?_); rotate_left; (· (first | (simp (disch := omega) only [evl, Nat.reduceEqDiff, Nat.reduceAdd, reduceIte, reduceCtorEq, h0, h7, h4, hlen] <;> exact rfl) | exact rfl)); all_goals try (refine fun (hb : _ = _) => ?_; try simp only [Zu, ne_eq, reduceCtorEq] at hb)) | (apply rk_gd_u; · simp [evl])))
        refine rn_nil ?_; refine lpq_e ?_
        obtain rfl : i = l.length := by omega
        refine ⟨hx, rfl, ?_⟩
        rw [List.take_length] at h3; exact h3
    · exact ⟨0, by omega, by omega, (by (first | (simp (disch := omega) only [evl, Nat.reduceEqDiff, Nat.reduceAdd, reduceIte, reduceCtorEq] <;> exact rfl) | exact rfl)), (by (first | (simp (disch := omega) only [evl, Nat.reduceEqDiff, Nat.reduceAdd, reduceIte, reduceCtorEq] <;> exact rfl) | exact rfl)), (by (first | (simp (disch := omega) only [evl, Nat.reduceEqDiff, Nat.reduceAdd, reduceIte, reduceCtorEq] <;> exact rfl) | exact rfl)), (by (first | (simp (disch := omega) only [evl, Nat.reduceEqDiff, Nat.reduceAdd, reduceIte, reduceCtorEq] <;> exact rfl) | exact rfl)), HX.refl _⟩
  · rintro ex T' H' ⟨hx, rfl, h3⟩
    (repeat' (first | refine Z ?_ | refine Zq ?_ | refine rn_blk_x (by decide) ?_ | ((first | refine' Y ?_ ?_ | refine' X ?_ ?_ ?_); rotate_left; (· (first | (simp (disch := omega) only [evl, Nat.reduceEqDiff, Nat.reduceAdd, reduceIte, reduceCtorEq, h3] <;> exact rfl) | exact rfl)); all_goals try (refine fun (hb : _ = _) => ?_; try simp only [Zu, ne_eq, reduceCtorEq] at hb)) | (apply rk_gd_u; · simp [evl])))
    refine rn_nil ?_; refine fq_ret (resV_1 _ _) ⟨hx, ?_⟩
    (simp (disch := omega) only [evl, Nat.reduceEqDiff, Nat.reduceAdd, reduceIte, reduceCtorEq, h3])

theorem joins_ok (H : AH) (hh : H.hide = []) (hlo : H.lo ≤ H.next) :
    FnE look 50 [] H fun r H' => r = .tup [.ptr H.next 0, .fn (.func 56) [] [.ptr H.next 0]] ∧ HX H H' ∧ H'.next = H.next + 1 ∧ Row H' H.next false false 22 1 [.nilSl] := by
  refine fn_intro f50_eq (noext rfl) rfl ?_
  unfold f50c
  (repeat' (first | refine Z ?_ | refine Zq ?_ | refine rn_blk_x (by decide) ?_ | ((first | refine' Y ?_ ?_ | refine' X ?_ ?_ ?_); rotate_left; (· (first | (simp (disch := omega) only [evl, Nat.reduceEqDiff, Nat.reduceAdd, reduceIte, reduceCtorEq] <;> exact rfl) | exact rfl)); all_goals try (refine fun (hb : _ = _) => ?_; try simp only [Zu, ne_eq, reduceCtorEq] at hb)) | (apply rk_gd_u; · simp [evl])))
  obtain ⟨H1, hal, hx1, hn1, hr1⟩ := al_box (e := 22) (s := 1) (c := AV.toC .nilSl) hh
  rw [toC_l] at hr1
  apply rk_al
  · (simp (disch := omega) only [evl, Nat.reduceEqDiff, Nat.reduceAdd, reduceIte, reduceCtorEq])
    exact hal
  simp only [hOut_f]
  (repeat' (first | refine Z ?_ | refine Zq ?_ | refine rn_blk_x (by decide) ?_ | ((first | refine' Y ?_ ?_ | refine' X ?_ ?_ ?_); rotate_left; (· (first | (simp (disch := omega) only [evl, Nat.reduceEqDiff, Nat.reduceAdd, reduceIte, reduceCtorEq] <;> exact rfl) | exact rfl)); all_goals try (refine fun (hb : _ = _) => ?_; try simp only [Zu, ne_eq, reduceCtorEq] at hb)) | (apply rk_gd_u; · simp [evl])))
  refine rn_nil ?_; refine fq_ret (resV_2 _ _ _) ⟨?_, hx1, hn1, hr1⟩
  (simp (disch := omega) only [evl, Nat.reduceEqDiff, Nat.reduceAdd, reduceIte, reduceCtorEq])

set_option maxHeartbeats 4000000 in
theorem put_ok2 (H : AH) (s : AV) (out : List (Int × Int)) (a b : Int) (bk N : Nat) (hr : Row H bk false false 22 1 [s]) (hap : Ap H s out.length (exC out) 43 2 N) (hbN : bk < N) (hN : N ≤ H.next) (hlo : H.lo ≤ bk) (hh : H.hide = [])
    (hol : out.length ≤ 1000000) (hbd : ∀ q ∈ out, 0 ≤ q.1 ∧ q.1 ≤ 1000000 ∧ 0 ≤ q.2 ∧ q.2 ≤ 1000000) (hb0 : 0 ≤ b) (hb1 : b ≤ 1000000) :
    FnE look 56 [.int .i64 a, .int .i64 b, .ptr bk 0] H fun r H' => ∃ s', Row H' bk false false 22 1 [s'] ∧ Ap H' s' (put out a b).length (exC (put out a b)) 43 2 N ∧ HP (fun j => blkNe s j ∧ j ≠ bk) H H' := by
  refine fn_intro f56_eq (noext rfl) rfl ?_
  unfold f56c
  have hlens : ∀ H', fstO (builtinF .len look [22] [s] H') = some (.int .i64 out.length) := fun H' => len_el u22 hap.isSl
  have hbk : ld1 (.ptr bk 0) H = some s := hr.rd rfl
  have hblk : ∀ j, j < N → blkNe s j := by
    intro j hj
    obtain ⟨_, ⟨rfl, _⟩ | ⟨i', rfl, _, hN, _⟩⟩ := hap
    · exact blkNe_nil _
    · exact blkNe_sl (by omega)
  have new : put out a b = out ++ [(a, b)] → ∀ T, gT T 0 = .int .i64 a → gT T 1 = .int .i64 b → gT T 2 = .ptr bk 0 → RN look [.seq (.reg f56r3)] .normal T H (FnQ look [] fun r H' => ∃ s', Row H' bk false false 22 1 [s'] ∧ Ap H' s' (put out a b).length (exC (put out a b)) 43 2 N ∧ HP (fun j => blkNe s j ∧ j ≠ bk) H H') := by
    intro hput T h0 h1 h2
    unfold f56r3
    have hbd43 := build43 a b
    (repeat' (first | refine Z ?_ | refine Zq ?_ | refine rn_blk_x (by decide) ?_ | ((first | refine' Y ?_ ?_ | refine' X ?_ ?_ ?_); rotate_left; (· (first | (simp (disch := omega) only [evl, Nat.reduceEqDiff, Nat.reduceAdd, reduceIte, reduceCtorEq, h0, h1, h2, hbk, hbd43] <;> exact rfl) | exact rfl)); all_goals try (refine fun (hb : _ = _) => ?_; try simp only [Zu, ne_eq, reduceCtorEq] at hb)) | (apply rk_gd_u; · simp [evl])))
    obtain ⟨H4, hb4, hx4, hn4, hr4⟩ := bs_one (s := 2) (e := 43) (z := .agg [.int .i64 0, .int .i64 0]) (v := exV (a, b)) (H := H) hh rfl rfl
    apply rk_hn
    · (simp (disch := omega) only [evl, Nat.reduceEqDiff, Nat.reduceAdd, reduceIte, reduceCtorEq])
      exact hb4
    simp only [hOut_f]
    (repeat' (first | refine Z ?_ | refine Zq ?_ | refine rn_blk_x (by decide) ?_ | ((first | refine' Y ?_ ?_ | refine' X ?_ ?_ ?_); rotate_left; (· (first | (simp (disch := omega) only [evl, Nat.reduceEqDiff, Nat.reduceAdd, reduceIte, reduceCtorEq, h0, h1, h2] <;> exact rfl) | exact rfl)); all_goals try (refine fun (hb : _ = _) => ?_; try simp only [Zu, ne_eq, reduceCtorEq] at hb)) | (apply rk_gd_u; · simp [evl])))
    obtain ⟨new, hsrc, hnl⟩ := srcRow (z := 2) (n := 1) (c := 1) (op := false) hr4 rfl
    have hap4 := hap.hx hx4
    obtain ⟨s', H5, happ, hap5, hp5, hn5, hne5⟩ := hap4.app (b := 16) (x := .sl H.next 0 1 1 false) (m := 1) rfl hsrc (one_of_l (by rw [hnl]; rfl)) (by rw [hnl]; rfl) (Nat.le_refl _) (by omega) (by omega) (hx4.hide.trans hh) (by rw [hx4.lo]; omega) (by omega)
    apply rk_hn
    · (simp (disch := omega) only [evl, Nat.reduceEqDiff, Nat.reduceAdd, reduceIte, reduceCtorEq, h2])
      exact happ
    simp only [hOut_f]
    have hr5 : Row H5 bk false false 22 1 [s] := (hr.hx hx4 (by omega)).hp hp5 (by omega) (hblk _ hbN)
    have hso : s'.oneCell = true := by
      obtain ⟨_, ⟨rfl, _⟩ | ⟨i', rfl, _, _⟩⟩ := hap5 <;> rfl
    obtain ⟨H6, hs6, hr6, hp6, hn6⟩ := hr5.st1 (L := look) (t := 22) (v := s') (k := 0) (hp5.hide.trans (hx4.hide.trans hh)) (by rw [hp5.lo, hx4.lo]; omega) z22 hso (by simp)
    apply rk_st
    · (simp (disch := omega) only [evl, Nat.reduceEqDiff, Nat.reduceAdd, reduceIte, reduceCtorEq, h2])
      exact hs6
    simp only [hOut_f]
    (repeat' (first | refine Z ?_ | refine Zq ?_ | refine rn_blk_x (by decide) ?_ | ((first | refine' Y ?_ ?_ | refine' X ?_ ?_ ?_); rotate_left; (· (first | (simp (disch := omega) only [evl, Nat.reduceEqDiff, Nat.reduceAdd, reduceIte, reduceCtorEq] <;> exact rfl) | exact rfl)); all_goals try (refine fun (hb : _ = _) => ?_; try simp only [Zu, ne_eq, reduceCtorEq] at hb)) | (apply rk_gd_u; · simp [evl])))
    refine rn_nil ?_; refine fq_nor (resV_0 _) ⟨s', hr6, ?_, ?_⟩
    · rw [hput]
      rw [hnl, show AV.cells (exV (a, b)) = exC [(a, b)] from rfl, ← exC_app] at hap5
      have := hap5.hp hp6 (fun i hi => by subst hi; exact fun h => hne5 bk (by omega) _ _ _ _ (by rw [h]))
      simpa using this
    · have h45 := (hx4.hp fun _ => True).trans hp5 (r := blkNe s) fun j hj hjN => ⟨trivial, hjN⟩
      exact h45.trans hp6 fun j hj hjp => ⟨hjp.1, hjp.2⟩
  by_cases he : out = []
  · have h0 : out.length = 0 := by rw [he]; rfl
    (repeat' (first | refine Z ?_ | refine rn_blk_x (by decide) ?_ | ((first | refine' Y ?_ ?_ | refine' X ?_ ?_ ?_); rotate_left; (· (first | (simp (disch := omega) only [evl, Nat.reduceEqDiff, Nat.reduceAdd, reduceIte, reduceCtorEq, hbk, hlens] <;> exact rfl) | exact rfl)); all_goals try (refine fun (hb : _ = _) => ?_; try simp only [Zu, ne_eq, reduceCtorEq] at hb)) | (apply rk_gd_u; · simp [evl])))
    refine rn_seq_n ?_
    (repeat' (first | refine Z ?_ | refine rn_blk_x (by decide) ?_ | ((first | refine' Y ?_ ?_ | refine' X ?_ ?_ ?_); rotate_left; (· (first | (simp (disch := omega) only [evl, Nat.reduceEqDiff, Nat.reduceAdd, reduceIte, reduceCtorEq, hbk, hlens] <;> exact rfl) | exact rfl)); all_goals try (refine fun (hb : _ = _) => ?_; try simp only [Zu, ne_eq, reduceCtorEq] at hb)) | (apply rk_gd_u; · simp [evl])))
    refine rn_seq_n ?_
    (repeat' (first | refine Z ?_ | refine rn_blk_x (by decide) ?_ | ((first | refine' Y ?_ ?_ | refine' X ?_ ?_ ?_); rotate_left; (· (first | (simp (disch := omega) only [evl, Nat.reduceEqDiff, Nat.reduceAdd, reduceIte, reduceCtorEq, hbk, hlens] <;> exact rfl) | exact rfl)); all_goals try (refine fun (hb : _ = _) => ?_; try simp only [Zu, ne_eq, reduceCtorEq] at hb)) | (apply rk_gd_u; · simp [evl])))
    refine new (by rw [he]; rfl) _ ?_ ?_ ?_
    · (simp (disch := omega) only [evl, Nat.reduceEqDiff, Nat.reduceAdd, reduceIte, reduceCtorEq])
    · (simp (disch := omega) only [evl, Nat.reduceEqDiff, Nat.reduceAdd, reduceIte, reduceCtorEq])
    · (simp (disch := omega) only [evl, Nat.reduceEqDiff, Nat.reduceAdd, reduceIte, reduceCtorEq])
  · have h0 : out.length ≠ 0 := fun h => he (List.eq_nil_of_length_eq_zero h)
    have hkl : out.length - 1 < out.length := by omega
    have hmem := hbd _ (exG_mem hkl)
    have hixL : ixS 2 s (.int .i64 ((out.length : Int) - 1)) = some (elA 2 s (out.length - 1)) := by
      have := ix_el hap.isSl (k := .i64) (e := (out.length : Int) - 1) (z := 2) (by omega) (by omega)
      rw [this, show ((out.length : Int) - 1).toNat = out.length - 1 from by omega]
    have hfa0 := fa_el hap.isSl hkl 2 0
    have hfa1 := fa_el hap.isSl hkl 2 1
    have hrd0 := SlX.rd0 (l := out) hap.slZ hkl
    have hrd1 := SlX.rd1 (l := out) hap.slZ hkl
    by_cases hj : lastE out = a
    · obtain ⟨H', hst, hap', hp', hn'⟩ := Ap.st (L := look) (t := 3) (v := .int .i64 ((exG out (out.length - 1)).2 + b)) hap hkl (j := 1) (by omega) hh (by omega) z3 rfl
      rw [exC_set _ _ hkl] at hap'
      have hput : put out a b = out.set (out.length - 1) ((exG out (out.length - 1)).1, (exG out (out.length - 1)).2 + b) := by
        unfold put; rw [if_pos ⟨he, hj⟩]
      unfold lastE at hj
      generalize (exG out (out.length - 1)).1 = x at *
      generalize (exG out (out.length - 1)).2 = y at *
      (repeat' (first | refine Z ?_ | refine Zq ?_ | refine rn_blk_x (by decide) ?_ | ((first | refine' Y ?_ ?_ | refine' X ?_ ?_ ?_); rotate_left; (· (first | (simp (disch := omega) only [evl, Nat.reduceEqDiff, Nat.reduceAdd, reduceIte, reduceCtorEq, hbk, hlens, hixL, hfa0, hfa1, hrd0, hrd1] <;> exact rfl) | exact rfl)); all_goals try (refine fun (hb : _ = _) => ?_; try simp only [Zu, ne_eq, reduceCtorEq] at hb)) | (apply rk_gd_u; · simp [evl])))
      apply rk_st
      · (simp (disch := omega) only [evl, Nat.reduceEqDiff, Nat.reduceAdd, reduceIte, reduceCtorEq])
        exact hst
      simp only [hOut_f]
      (repeat' (first | refine Z ?_ | refine Zq ?_ | refine rn_blk_x (by decide) ?_ | ((first | refine' Y ?_ ?_ | refine' X ?_ ?_ ?_); rotate_left; (· (first | (simp (disch := omega) only [evl, Nat.reduceEqDiff, Nat.reduceAdd, reduceIte, reduceCtorEq] <;> exact rfl) | exact rfl)); all_goals try (refine fun (hb : _ = _) => ?_; try simp only [Zu, ne_eq, reduceCtorEq] at hb)) | (apply rk_gd_u; · simp [evl])))
      refine rn_nil ?_; refine fq_ret (resV_0 _) ⟨s, ?_, ?_, ?_⟩
      · exact hr.hp hp' (by omega) (hblk _ hbN)
      · rw [hput, List.length_set]; exact hap'
      · exact hp'.mono fun j hj hp => hp.1
    · have hput : put out a b = out ++ [(a, b)] := by
        unfold put; rw [if_neg (fun h => hj h.2)]
      unfold lastE at hj
      generalize (exG out (out.length - 1)).1 = x at *
      generalize (exG out (out.length - 1)).2 = y at *
      (repeat' (first | refine Z ?_ | refine rn_blk_x (by decide) ?_ | ((first | refine' Y ?_ ?_ | refine' X ?_ ?_ ?_); rotate_left; (· (first | (simp (disch := omega) only [evl, Nat.reduceEqDiff, Nat.reduceAdd, reduceIte, reduceCtorEq, hbk, hlens, hixL, hfa0, hfa1, hrd0, hrd1] <;> exact rfl) | exact rfl)); all_goals try (refine fun (hb : _ = _) => ?_; try simp only [Zu, ne_eq, reduceCtorEq] at hb)) | (apply rk_gd_u; · simp [evl])))
      refine rn_seq_n ?_
      (repeat' (first | refine Z ?_ | refine rn_blk_x (by decide) ?_ | ((first | refine' Y ?_ ?_ | refine' X ?_ ?_ ?_); rotate_left; (· (first | (simp (disch := omega) only [evl, Nat.reduceEqDiff, Nat.reduceAdd, reduceIte, reduceCtorEq, hbk, hlens, hixL, hfa0, hfa1, hrd0, hrd1] <;> exact rfl) | exact rfl)); all_goals try (refine fun (hb : _ = _) => ?_; try simp only [Zu, ne_eq, reduceCtorEq] at hb)) | (apply rk_gd_u; · simp [evl])))
      refine rn_seq_n ?_
      (repeat' (first | refine Z ?_ | refine rn_blk_x (by decide) ?_ | ((first | refine' Y ?_ ?_ | refine' X ?_ ?_ ?_); rotate_left; (· (first | (simp (disch := omega) only [evl, Nat.reduceEqDiff, Nat.reduceAdd, reduceIte, reduceCtorEq, hbk, hlens, hixL, hfa0, hfa1, hrd0, hrd1] <;> exact rfl) | exact rfl)); all_goals try (refine fun (hb : _ = _) => ?_; try simp only [Zu, ne_eq, reduceCtorEq] at hb)) | (apply rk_gd_u; · simp [evl])))
      refine new hput _ ?_ ?_ ?_
      · (simp (disch := omega) only [evl, Nat.reduceEqDiff, Nat.reduceAdd, reduceIte, reduceCtorEq])
      · (simp (disch := omega) only [evl, Nat.reduceEqDiff, Nat.reduceAdd, reduceIte, reduceCtorEq])
      · (simp (disch := omega) only [evl, Nat.reduceEqDiff, Nat.reduceAdd, reduceIte, reduceCtorEq])
theorem put_ok (H : AH) (s : AV) (out : List (Int × Int)) (a b : Int) (bk N : Nat) (hr : Row H bk false false 22 1 [s]) (hap : Ap H s out.length (exC out) 43 2 N) (hbN : bk < N) (hN : N ≤ H.next) (hlo : H.lo ≤ bk) (hh : H.hide = [])
    (hol : out.length ≤ 1000000) (hbd : ∀ q ∈ out, 0 ≤ q.1 ∧ q.1 ≤ 1000000 ∧ 0 ≤ q.2 ∧ q.2 ≤ 1000000) (hb0 : 0 ≤ b) (hb1 : b ≤ 1000000) :
    FnE look 56 [.int .i64 a, .int .i64 b, .ptr bk 0] H fun r H' => ∃ s', Row H' bk false false 22 1 [s'] ∧ Ap H' s' (put out a b).length (exC (put out a b)) 43 2 N ∧ HP (fun j => j < N ∧ j ≠ bk) H H' :=
  (put_ok2 H s out a b bk N hr hap hbN hN hlo hh hol hbd hb0 hb1).mono fun r H' ⟨s', h1, h2, h3⟩ => ⟨s', h1, h2, h3.mono fun j hj hp => by
    refine ⟨?_, hp.2⟩
    obtain ⟨_, ⟨rfl, _⟩ | ⟨i', rfl, _, hN, _⟩⟩ := hap
    · exact blkNe_nil _
    · exact blkNe_sl (by omega)⟩
end Go.Proofs.Ytnkomaedmblemaa

set_option linter.unusedSimpArgs false
set_option linter.unusedVariables false
set_option maxRecDepth 100000
namespace Go.Proofs.Ytnkomaedmblemaa
open Go.Ev Exl
open Ra Rb Rc Rd Re Rf Rg Rh Ri Rj Rk Rl Rm Rn Ro Rp Rq Rr

theorem Ap.le {H : AH} {s : AV} {n e z N M : Nat} {l : List AV} (h : Ap H s n l e z N) (hM : M ≤ N) : Ap H s n l e z M := by
  obtain ⟨h0, h | ⟨i, hs, hr, hN, hi⟩⟩ := h
  · exact ⟨h0, .inl h⟩
  · exact ⟨h0, .inr ⟨i, hs, hr, by omega, hi⟩⟩
end Go.Proofs.Ytnkomaedmblemaa

set_option linter.unusedSimpArgs false
set_option linter.unusedVariables false
set_option maxRecDepth 100000
namespace Go.Proofs.Ytnkomaedmblemaa
open Go.Ev Exl
open Ra Rb Rc Rd Re Rf Rg Rh Ri Rj Rk Rl Rm Rn Ro Rp Rq Rr

theorem ixA_ok {n z i o : Nat} {k : IntKind} {e : Int} (h0 : 0 ≤ e) (h1 : e < n) : ixA n z (.ptr i o) (.int k e) = some (.ptr i (o + e.toNat * z)) := by
  obtain ⟨m, rfl⟩ := Int.eq_ofNat_of_zero_le h0
  show brec none (some (AV.ptr i (o + m * z))) (Nat.blt m n) = _
  rw [show Nat.blt m n = true from by rw [Nat.blt_eq]; omega]
  simp only [Int.toNat_natCast]; rfl
theorem resV_cell {L : Lk} {H : AH} {a t s i e z : Nat} {ro op : Bool} {l : List AV} (ha : L.isAgg t = some true) (hs : L.size t = some s) (hr : Row H i ro op e z l) (hl : l.length = s) : ∃ c : Ce, c.l = l ∧ ∀ T : Tr AV, gT T a = .ptr i 0 → resV L [.cell a t] T H = some c.toV := by
  obtain ⟨c, h1, h2⟩ := hr.rdN (o := 0) (s := s) (by omega)
  refine ⟨c, by rw [h2, List.drop_zero, List.take_of_length_le (by omega)], fun T hT => ?_⟩
  have hg : T.get a = some (.ptr i 0) := by
    unfold gT at hT
    cases hg : T.get a with
    | none => rw [hg] at hT; cases hT
    | some v => rw [hg] at hT; exact congrArg some hT
  have hld : evLoad L t (.ptr i 0) H = some c.toV := by
    unfold evLoad
    simp only [ha, hs]
    have h3 : orec none (fun c => some (ceV c)) (subCF H i 0 s) = some c.toV := h1
    rw [subCF_eq] at h3
    cases hc : H.subC i 0 s with
    | none => rw [hc] at h3; cases h3
    | some c' => rw [hc] at h3; exact (show some (ceV c') = some c'.toV from by rw [ceV_eq]).symm.trans h3
  show (match (obind (match T.get a with | some v => evLoad L t v H | none => none) fun b => obind (some []) fun bs => some (b :: bs)) with
    | some vs => (match vs with | [v] => some v | vs => some (.tup vs))
    | none => none) = _
  rw [hg]
  simp only [hld]
  rfl
theorem repF (n x : Nat) : (List.replicate n false).getD x false = false := by
  rw [List.getD_eq_getElem?_getD, List.getElem?_replicate]; split <;> rfl
def bl (s : List Bool) : List AV := s.map .bool
theorem bl_len (s : List Bool) : (bl s).length = s.length := by simp [bl]
theorem bl_get (s : List Bool) {i : Nat} (h : i < s.length) : (bl s)[i]? = some (.bool (s.getD i false)) := by
  simp [bl, List.getD_eq_getElem?_getD, List.getElem?_eq_getElem h]
theorem bl_one (s : List Bool) : (bl s).all AV.oneCell = true := by
  induction s with
  | nil => rfl
  | cons b s ih => simp only [bl, List.map_cons, List.all_cons] at ih ⊢; rw [ih]; rfl
theorem bl_set (s : List Bool) (i : Nat) (b : Bool) : (bl s).set i (.bool b) = bl (s.set i b) := by simp [bl, List.map_set]
theorem zC52b : (zC look 52).l = bl (List.replicate 4096 false) := by rw [zC52]; simp [bl]
theorem getD_set (s : List Bool) (i x : Nat) (b : Bool) (h : i < s.length) : (s.set i b).getD x false = if x = i then b else s.getD x false := by
  simp only [List.getD_eq_getElem?_getD, List.getElem?_set]
  by_cases hx : x = i
  · subst hx; simp [h]
  · rw [if_neg (fun h => hx h.symm), if_neg hx]
def MarkOf (s : List Bool) (l : List (Int × Int)) : Prop := s.length = 4096 ∧ ∀ i : Nat, i < 4096 → (s.getD i false = true ↔ Has l i)
theorem Ok.at {l : List (Int × Int)} : ∀ {fr : Int} (_ : Ok fr l) {i : Nat} (_ : i < l.length), 0 ≤ fr → 0 ≤ (exG l i).1 ∧ (exG l i).1 < 4096 ∧ 1 ≤ (exG l i).2 ∧ (exG l i).2 ≤ 4096 - (exG l i).1 := by
  induction l with
  | nil => intro fr _ i hi _; simp at hi
  | cons p l ih =>
    intro fr h i hi hf
    obtain ⟨h1, h2, h3, h4, h5⟩ := h
    cases i with
    | zero => exact ⟨by show 0 ≤ p.1; omega, h2, h3, h4⟩
    | succ i => exact ih h5 (i := i) (by simpa using hi) (by omega)
theorem Has_snoc (l : List (Int × Int)) {i : Nat} (h : i < l.length) (x : Int) : Has (l.take (i + 1)) x ↔ Has (l.take i) x ∨ ((exG l i).1 ≤ x ∧ x < (exG l i).1 + (exG l i).2) := by
  rw [take_snoc l h]; unfold Has
  constructor
  · rintro ⟨p, hp, h⟩
    rcases List.mem_append.1 hp with hp | hp
    · exact .inl ⟨p, hp, h⟩
    · rw [List.mem_singleton] at hp; subst hp; exact .inr h
  · rintro (⟨p, hp, h⟩ | h)
    · exact ⟨p, List.mem_append_left _ hp, h⟩
    · exact ⟨_, List.mem_append_right _ (List.mem_singleton_self _), h⟩

set_option maxHeartbeats 8000000 in
theorem marks_ok (H : AH) (v : AV) (l : List (Int × Int)) (hs : SlX H v l) (hh : H.hide = []) (hlo : H.lo ≤ H.next) (hl : l.length ≤ 1000000) (hok : Ok 0 l) :
    FnE look 46 [v] H fun r H' => HX H H' ∧ ∃ (s : List Bool) (c : Ce), r = c.toV ∧ c.l = bl s ∧ MarkOf s l := by
  refine fn_intro f46_eq (noext rfl) rfl ?_
  unfold f46c
  have hlen := fun H' => len_el (H' := H') u22 hs.is
  obtain ⟨H1, hal1, hx1, hn1, hr1⟩ := al_box (e := 52) (s := 4096) (c := zC look 52) hh
  (repeat' (first | refine Z ?_ | refine Zq ?_ | refine rn_blk_x (by decide) ?_ | ((first | refine' Y ?_ ?_ | refine' X ?_ ?_ ?_); rotate_left; (· (first | (simp (disch := omega) only [evl, Nat.reduceEqDiff, Nat.reduceAdd, reduceIte, reduceCtorEq] <;> exact rfl) | exact rfl)); all_goals try (refine fun (hb : _ = _) => ?_; try simp only [Zu, ne_eq, reduceCtorEq] at hb)) | (apply rk_gd_u; · simp [evl])))
  apply rk_al
  · (simp (disch := omega) only [evl, Nat.reduceEqDiff, Nat.reduceAdd, reduceIte, reduceCtorEq])
    exact hal1
  simp only [hOut_f]
  (repeat' (first | refine Z ?_ | refine Zq ?_ | refine rn_blk_x (by decide) ?_ | ((first | refine' Y ?_ ?_ | refine' X ?_ ?_ ?_); rotate_left; (· (first | (simp (disch := omega) only [evl, Nat.reduceEqDiff, Nat.reduceAdd, reduceIte, reduceCtorEq] <;> exact rfl) | exact rfl)); all_goals try (refine fun (hb : _ = _) => ?_; try simp only [Zu, ne_eq, reduceCtorEq] at hb)) | (apply rk_gd_u; · simp [evl])))
  obtain ⟨H2, hal2, hx2, hn2, hr2⟩ := al_box (e := 52) (s := 4096) (c := zC look 52) (hx1.hide.trans hh)
  apply rk_al
  · (simp (disch := omega) only [evl, Nat.reduceEqDiff, Nat.reduceAdd, reduceIte, reduceCtorEq])
    exact hal2
  simp only [hOut_f]
  rw [zC52b] at hr1 hr2
  have hr1 := hr1.hx hx2 (by omega)
  have hx0 := hx1.trans hx2
  have hh2 : H2.hide = [] := hx0.hide.trans hh
  have hlo2 : H2.lo ≤ H.next := by rw [hx0.lo]; exact hlo
  rw [hn1] at hal2 hr2 hn2 ⊢
  clear hal1 hal2
  (repeat' (first | refine Z ?_ | refine Zq ?_ | refine rn_blk_x (by decide) ?_ | ((first | refine' Y ?_ ?_ | refine' X ?_ ?_ ?_); rotate_left; (· (first | (simp (disch := omega) only [evl, Nat.reduceEqDiff, Nat.reduceAdd, reduceIte, reduceCtorEq] <;> exact rfl) | exact rfl)); all_goals try (refine fun (hb : _ = _) => ?_; try simp only [Zu, ne_eq, reduceCtorEq] at hb)) | (apply rk_gd_u; · simp [evl])))
  refine rc_loop (R := fun ex T' H' => ex = .exit 0 ∧ gT T' 2 = .ptr H.next 0 ∧ gT T' 3 = .ptr (H.next + 1) 0 ∧ HP (· ≠ H.next + 1) H2 H' ∧ H'.next = H2.next ∧ ∃ s : List Bool, Row H' (H.next + 1) false false 52 4096 (bl s) ∧ MarkOf s l) ?_ ?_
  · refine lp_ind f46l0_eq (fun k T H' => ∃ (i : Nat) (s : List Bool), k = l.length - i ∧ i ≤ l.length ∧ gT T 0 = v ∧ gT T 2 = .ptr H.next 0 ∧ gT T 3 = .ptr (H.next + 1) 0 ∧ gT T 4 = .int .i64 i ∧ HP (· ≠ H.next + 1) H2 H' ∧ H'.next = H2.next ∧ Row H' (H.next + 1) false false 52 4096 (bl s) ∧ MarkOf s (l.take i)) _ ?_ l.length _ _ ?_
    · intro k T H' hI
      obtain ⟨i, s, hk, hi, h0, h2, h3, h4, hp, hn, hr, hm⟩ := hI
      unfold f46l0
      by_cases hlt : i < l.length
      · have hat := Ok.at hok hlt (by omega)
        have hsn := Has_snoc l hlt
        (repeat' (first | refine Z ?_ | refine Zq ?_ | refine rn_blk_x (by decide) ?_ | ((first | refine' Y ?_ ?_ | refine' X ?_ ?_ ?_); rotate_left; (· (first | (simp (disch := omega) only [evl, Nat.reduceEqDiff, Nat.reduceAdd, reduceIte, reduceCtorEq, h0, h2, h3, h4, hlen] <;> exact rfl) | exact rfl)); all_goals try (refine fun (hb : _ = _) => ?_; try simp only [Zu, ne_eq, reduceCtorEq] at hb)) | (apply rk_gd_u; · simp [evl])))
        refine rc_loop (R := fun ex T' H' => ex = .exit 2 ∧ gT T' 0 = v ∧ gT T' 2 = .ptr H.next 0 ∧ gT T' 3 = .ptr (H.next + 1) 0 ∧ gT T' 4 = .int .i64 i ∧ HP (· ≠ H.next + 1) H2 H' ∧ H'.next = H2.next ∧ ∃ s : List Bool, Row H' (H.next + 1) false false 52 4096 (bl s) ∧ MarkOf s (l.take (i + 1))) ?_ ?_
        · refine lp_ind f46l1_eq (fun k T H' => ∃ (j : Nat) (s : List Bool), k = (exG l i).2.toNat - j ∧ j ≤ (exG l i).2.toNat ∧ gT T 0 = v ∧ gT T 2 = .ptr H.next 0 ∧ gT T 3 = .ptr (H.next + 1) 0 ∧ gT T 4 = .int .i64 i ∧ gT T 5 = .int .i64 j ∧ HP (· ≠ H.next + 1) H2 H' ∧ H'.next = H2.next ∧ Row H' (H.next + 1) false false 52 4096 (bl s) ∧ s.length = 4096 ∧
            (∀ x : Nat, x < 4096 → (s.getD x false = true ↔ Has (l.take i) x ∨ ((exG l i).1 ≤ x ∧ x < (exG l i).1 + j)))) _ ?_ (exG l i).2.toNat _ _ ?_
          · intro k T H' hI
            obtain ⟨j, s, hk, hj, h0, h2, h3, h4, h5, hp, hn, hr, hsl, hms⟩ := hI
            unfold f46l1
            have hsx : SlX H' v l := SlZ.hp (hs.hx hx0) hp (fun i' o c op hv => by
              rcases hs.is with ⟨rfl, _⟩ | ⟨i2, o2, c2, op2, rfl, hi2, _⟩
              · cases hv
              · cases hv; omega)
            have hix := @ix_el _ _ _ hsx.is
            have hfa0 := fa_el hsx.is hlt 2 0
            have hfa1 := fa_el hsx.is hlt 2 1
            have hrd0 := SlX.rd0 hsx hlt
            have hrd1 := SlX.rd1 hsx hlt
            have Hsn := Hd.mk hsn
            have Hms := Hd.mk hms
            clear hsn hms
            by_cases hjl : (j : Int) < (exG l i).2
            · obtain ⟨H3, hst, hr3, hp3, hn3⟩ := hr.st1 (L := look) (t := 4) (v := .bool true) (k := ((exG l i).1 + j).toNat) (hp.hide.trans hh2) (by rw [hp.lo]; omega) z4 rfl (by rw [bl_len, hsl]; omega)
              rw [bl_set] at hr3
              have hixA := ixA_ok (n := 4096) (z := 1) (i := H.next + 1) (o := 0) (k := .i64) (e := (exG l i).1 + j) (by omega) (by omega)
              rw [Nat.zero_add, Nat.mul_one] at hixA
              generalize ha : (exG l i).1 = a at *
              generalize hb : (exG l i).2 = b at *
              clear ha hb
              (repeat' (first | refine Z ?_ | refine Zq ?_ | refine rn_blk_x (by decide) ?_ | ((first | refine' Y ?_ ?_ | refine' X ?_ ?_ ?_); rotate_left; (· (first | (simp (disch := omega) only [evl, Nat.reduceEqDiff, Nat.reduceAdd, reduceIte, reduceCtorEq, h0, h2, h3, h4, h5, hix, hfa0, hfa1, hrd0, hrd1, hixA] <;> exact rfl) | exact rfl)); all_goals try (refine fun (hb : _ = _) => ?_; try simp only [Zu, ne_eq, reduceCtorEq] at hb)) | (apply rk_gd_u; · simp [evl])))
              apply rk_st
              · (simp (disch := omega) only [evl, Nat.reduceEqDiff, Nat.reduceAdd, reduceIte, reduceCtorEq])
                exact hst
              simp only [hOut_f]
              (repeat' (first | refine Z ?_ | refine Zq ?_ | refine rn_blk_x (by decide) ?_ | ((first | refine' Y ?_ ?_ | refine' X ?_ ?_ ?_); rotate_left; (· (first | (simp (disch := omega) only [evl, Nat.reduceEqDiff, Nat.reduceAdd, reduceIte, reduceCtorEq, h5] <;> exact rfl) | exact rfl)); all_goals try (refine fun (hb : _ = _) => ?_; try simp only [Zu, ne_eq, reduceCtorEq] at hb)) | (apply rk_gd_u; · simp [evl])))
              refine rn_nil ?_; refine lpq_n (b.toNat - (j + 1)) (by omega) ?_
              refine ⟨j + 1, _, rfl, by omega, (by (first | (simp (disch := omega) only [evl, Nat.reduceEqDiff, Nat.reduceAdd, reduceIte, reduceCtorEq, h0] <;> exact rfl) | exact rfl)), (by (first | (simp (disch := omega) only [evl, Nat.reduceEqDiff, Nat.reduceAdd, reduceIte, reduceCtorEq, h2] <;> exact rfl) | exact rfl)), (by (first | (simp (disch := omega) only [evl, Nat.reduceEqDiff, Nat.reduceAdd, reduceIte, reduceCtorEq, h3] <;> exact rfl) | exact rfl)), (by (first | (simp (disch := omega) only [evl, Nat.reduceEqDiff, Nat.reduceAdd, reduceIte, reduceCtorEq, h4] <;> exact rfl) | exact rfl)), (by (first | (simp (disch := omega) only [evl, Nat.reduceEqDiff, Nat.reduceAdd, reduceIte, reduceCtorEq] <;> exact rfl) | exact rfl)), hp.trans hp3 (r := (· ≠ H.next + 1)) fun i hi h => ⟨h, h⟩, by omega, hr3, by rw [List.length_set]; exact hsl, ?_⟩
              intro x hx
              rw [getD_set _ _ _ _ (by omega)]
              by_cases hxe : x = (a + j).toNat
              · rw [if_pos hxe]
                constructor
                · intro _; exact .inr (by omega)
                · intro _; rfl
              · rw [if_neg hxe, Hms.out x hx]
                constructor
                · rintro (h | h)
                  · exact .inl h
                  · exact .inr (by omega)
                · rintro (h | h)
                  · exact .inl h
                  · exact .inr (by omega)
            · generalize ha : (exG l i).1 = a at *
              generalize hb : (exG l i).2 = b at *
              clear ha hb
              (repeat' (first | refine Z ?_ | refine Zq ?_ | refine rn_blk_x (by decide) ?_ | ((first | refine' Y ?_ ?_ | refine' X ?_ ?_ ?_); rotate_left; (· (first | (simp (disch := omega) only [evl, Nat.reduceEqDiff, Nat.reduceAdd, reduceIte, reduceCtorEq, h0, h2, h3, h4, h5, hix, hfa0, hfa1, hrd0, hrd1] <;> exact rfl) | exact rfl)); all_goals try (refine fun (hb : _ = _) => ?_; try simp only [Zu, ne_eq, reduceCtorEq] at hb)) | (apply rk_gd_u; · simp [evl])))
              refine rn_nil ?_; refine lpq_e ?_
              refine ⟨rfl, (by (first | (simp (disch := omega) only [evl, Nat.reduceEqDiff, Nat.reduceAdd, reduceIte, reduceCtorEq, h0] <;> exact rfl) | exact rfl)), (by (first | (simp (disch := omega) only [evl, Nat.reduceEqDiff, Nat.reduceAdd, reduceIte, reduceCtorEq, h2] <;> exact rfl) | exact rfl)), (by (first | (simp (disch := omega) only [evl, Nat.reduceEqDiff, Nat.reduceAdd, reduceIte, reduceCtorEq, h3] <;> exact rfl) | exact rfl)), (by (first | (simp (disch := omega) only [evl, Nat.reduceEqDiff, Nat.reduceAdd, reduceIte, reduceCtorEq, h4] <;> exact rfl) | exact rfl)), hp, hn, s, hr, hsl, fun x hx => ?_⟩
              rw [Hms.out x hx, Hsn.out]
              constructor
              · rintro (h | h)
                · exact .inl h
                · exact .inr (by omega)
              · rintro (h | h)
                · exact .inl h
                · exact .inr (by omega)
          · refine ⟨0, s, by omega, by omega, (by (first | (simp (disch := omega) only [evl, Nat.reduceEqDiff, Nat.reduceAdd, reduceIte, reduceCtorEq, h0] <;> exact rfl) | exact rfl)), (by (first | (simp (disch := omega) only [evl, Nat.reduceEqDiff, Nat.reduceAdd, reduceIte, reduceCtorEq, h2] <;> exact rfl) | exact rfl)), (by (first | (simp (disch := omega) only [evl, Nat.reduceEqDiff, Nat.reduceAdd, reduceIte, reduceCtorEq, h3] <;> exact rfl) | exact rfl)), (by (first | (simp (disch := omega) only [evl, Nat.reduceEqDiff, Nat.reduceAdd, reduceIte, reduceCtorEq, h4] <;> exact rfl) | exact rfl)), (by (first | (simp (disch := omega) only [evl, Nat.reduceEqDiff, Nat.reduceAdd, reduceIte, reduceCtorEq] <;> exact rfl) | exact rfl)), hp, hn, hr, hm.1, fun x hx => ?_⟩
            rw [hm.2 x hx]
            constructor
            · intro h; exact .inl h
            · rintro (h | h)
              · exact h
              · omega
        · rintro ex T' H'' ⟨rfl, h0, h2, h3, h4, hp, hn, s', hr, hm⟩
          (repeat' (first | refine Z ?_ | refine Zq ?_ | refine rn_blk_x (by decide) ?_ | ((first | refine' Y ?_ ?_ | refine' X ?_ ?_ ?_); rotate_left; (· (first | (simp (disch := omega) only [evl, Nat.reduceEqDiff, Nat.reduceAdd, reduceIte, reduceCtorEq, h4] <;> exact rfl) | exact rfl)); all_goals try (refine fun (hb : _ = _) => ?_; try simp only [Zu, ne_eq, reduceCtorEq] at hb)) | (apply rk_gd_u; · simp [evl])))
          refine rn_nil ?_; refine lpq_n (l.length - (i + 1)) (by omega) ?_
          exact ⟨i + 1, s', rfl, by omega, (by (first | (simp (disch := omega) only [evl, Nat.reduceEqDiff, Nat.reduceAdd, reduceIte, reduceCtorEq, h0] <;> exact rfl) | exact rfl)), (by (first | (simp (disch := omega) only [evl, Nat.reduceEqDiff, Nat.reduceAdd, reduceIte, reduceCtorEq, h2] <;> exact rfl) | exact rfl)), (by (first | (simp (disch := omega) only [evl, Nat.reduceEqDiff, Nat.reduceAdd, reduceIte, reduceCtorEq, h3] <;> exact rfl) | exact rfl)), (by (first | (simp (disch := omega) only [evl, Nat.reduceEqDiff, Nat.reduceAdd, reduceIte, reduceCtorEq] <;> exact rfl) | exact rfl)), hp, hn, hr, hm⟩
      · (repeat' (first | refine Z ?_ | refine Zq ?_ | refine rn_blk_x (by decide) ?_ | ((first | refine' Y ?_ ?_ | refine' X ?_ ?_ ?_); rotate_left; (· (first | (simp (disch := omega) only [evl, Nat.reduceEqDiff, Nat.reduceAdd, reduceIte, reduceCtorEq, h0, h4, hlen] <;> exact rfl) | exact rfl)); all_goals try (refine fun (hb : _ = _) => ?_; try simp only [Zu, ne_eq, reduceCtorEq] at hb)) | (apply rk_gd_u; · simp [evl])))
        refine rn_nil ?_; refine lpq_e ?_
        obtain rfl : i = l.length := by omega
        rw [List.take_length] at hm
        exact ⟨rfl, (by (first | (simp (disch := omega) only [evl, Nat.reduceEqDiff, Nat.reduceAdd, reduceIte, reduceCtorEq, h2] <;> exact rfl) | exact rfl)), (by (first | (simp (disch := omega) only [evl, Nat.reduceEqDiff, Nat.reduceAdd, reduceIte, reduceCtorEq, h3] <;> exact rfl) | exact rfl)), hp, hn, s, hr, hm⟩
    · refine ⟨0, List.replicate 4096 false, by omega, by omega, (by (first | (simp (disch := omega) only [evl, Nat.reduceEqDiff, Nat.reduceAdd, reduceIte, reduceCtorEq] <;> exact rfl) | exact rfl)), (by (first | (simp (disch := omega) only [evl, Nat.reduceEqDiff, Nat.reduceAdd, reduceIte, reduceCtorEq] <;> exact rfl) | exact rfl)), (by (first | (simp (disch := omega) only [evl, Nat.reduceEqDiff, Nat.reduceAdd, reduceIte, reduceCtorEq] <;> exact rfl) | exact rfl)), (by (first | (simp (disch := omega) only [evl, Nat.reduceEqDiff, Nat.reduceAdd, reduceIte, reduceCtorEq] <;> exact rfl) | exact rfl)), HP.refl _ _, rfl, hr2, by simp, fun x hx => ?_⟩
      rw [repF]; simp [Has]
  · rintro ex T' H' ⟨rfl, h2, h3, hp, hn, s, hr, hm⟩
    obtain ⟨c, hld, hcl⟩ := hr.rdN (o := 0) (s := 4096) (by rw [bl_len, hm.1]; omega)
    rw [List.drop_zero, List.take_of_length_le (by rw [bl_len, hm.1]; omega)] at hcl
    (repeat' (first | refine Z ?_ | refine Zq ?_ | refine rn_blk_x (by decide) ?_ | ((first | refine' Y ?_ ?_ | refine' X ?_ ?_ ?_); rotate_left; (· (first | (simp (disch := omega) only [evl, Nat.reduceEqDiff, Nat.reduceAdd, reduceIte, reduceCtorEq, h2, h3, hld] <;> exact rfl) | exact rfl)); all_goals try (refine fun (hb : _ = _) => ?_; try simp only [Zu, ne_eq, reduceCtorEq] at hb)) | (apply rk_gd_u; · simp [evl])))
    have hr1' := hr1.hp hp (by omega) (by omega)
    obtain ⟨H4, hst, hr4, hp4, hn4⟩ := hr1'.stN (L := look) (t := 0) (v := c.toV) (k := 0) (s := 4096) (hp.hide.trans hh2) (by rw [hp.lo]; omega) (by rw [toV_cells, hcl, bl_len, hm.1]) (one_of_l (by rw [toC_l, toV_cells, hcl]; exact bl_one s)) (by rw [bl_len]; simp)
    apply rk_st
    · (simp (disch := omega) only [evl, Nat.reduceEqDiff, Nat.reduceAdd, reduceIte, reduceCtorEq, h2])
      exact hst
    simp only [hOut_f]
    (repeat' (first | refine Z ?_ | refine Zq ?_ | refine rn_blk_x (by decide) ?_ | ((first | refine' Y ?_ ?_ | refine' X ?_ ?_ ?_); rotate_left; (· (first | (simp (disch := omega) only [evl, Nat.reduceEqDiff, Nat.reduceAdd, reduceIte, reduceCtorEq] <;> exact rfl) | exact rfl)); all_goals try (refine fun (hb : _ = _) => ?_; try simp only [Zu, ne_eq, reduceCtorEq] at hb)) | (apply rk_gd_u; · simp [evl])))
    rw [List.take_zero, Nat.zero_add, List.drop_eq_nil_of_le (by rw [bl_len]; simp), toV_cells, hcl, List.nil_append, List.append_nil] at hr4
    obtain ⟨c', hcl', hres⟩ := resV_cell (L := look) (a := 2) a52 z52 hr4 (by rw [bl_len, hm.1])
    refine rn_nil ?_; refine fq_ret (hres _ ?_) ⟨?_, s, c', rfl, hcl', hm⟩
    · (simp (disch := omega) only [evl, Nat.reduceEqDiff, Nat.reduceAdd, reduceIte, reduceCtorEq, h2])
    · exact (((hx0.hp fun _ => True).trans hp (r := fun _ => True) fun j hj _ => ⟨trivial, by omega⟩).trans hp4 (r := fun _ => True) fun j hj _ => ⟨trivial, by omega⟩).hx fun _ _ => trivial
end Go.Proofs.Ytnkomaedmblemaa

set_option linter.unusedSimpArgs false
set_option linter.unusedVariables false
set_option maxRecDepth 100000
namespace Go.Proofs.Ytnkomaedmblemaa
open Go.Ev Exl
open Ra Rb Rc Rd Re Rf Rg Rh Ri Rj Rk Rl Rm Rn Ro Rp Rq Rr

theorem runsTo_ne' {s : List Bool} {i : Nat} (h0 : 0 < i) (h : s.getD (i - 1) false = true) : runsTo s i ≠ [] := by
  have := runsTo_ne h
  rwa [show i - 1 + 1 = i from by omega] at this

theorem runsTo_succ (s : List Bool) (i : Nat) : runsTo s (i + 1) = if s.getD i false = true then
      (if 0 < i ∧ s.getD (i - 1) false = true then (runsTo s i).set ((runsTo s i).length - 1) ((exG (runsTo s i) ((runsTo s i).length - 1)).1, (exG (runsTo s i) ((runsTo s i).length - 1)).2 + 1) else runsTo s i ++ [((i : Int), 1)])
    else runsTo s i := rfl
set_option maxHeartbeats 8000000 in
theorem runs_ok (H : AH) (c : Ce) (s : List Bool) (hc : c.l = bl s) (hsl : s.length = 4096) (hh : H.hide = []) (hlo : H.lo ≤ H.next) :
    FnE look 51 [c.toV] H fun r H' => HX H H' ∧ Ap H' r (runsTo s 4096).length (exC (runsTo s 4096)) 43 2 H.next := by
  refine fn_intro f51_eq (noext rfl) rfl ?_
  unfold f51c
  obtain ⟨H1, hal1, hx1, hn1, hr1⟩ := al_box (e := 52) (s := 4096) (c := c.toV.toC) hh
  rw [toC_l, toV_cells, hc] at hr1
  (repeat' (first | refine Z ?_ | refine Zq ?_ | refine rn_blk_x (by decide) ?_ | ((first | refine' Y ?_ ?_ | refine' X ?_ ?_ ?_); rotate_left; (· (first | (simp (disch := omega) only [evl, Nat.reduceEqDiff, Nat.reduceAdd, reduceIte, reduceCtorEq] <;> exact rfl) | exact rfl)); all_goals try (refine fun (hb : _ = _) => ?_; try simp only [Zu, ne_eq, reduceCtorEq] at hb)) | (apply rk_gd_u; · simp [evl])))
  apply rk_m1
  · (simp (disch := omega) only [evl, Nat.reduceEqDiff, Nat.reduceAdd, reduceIte, reduceCtorEq])
    exact hal1
  simp only [hOut_f]
  (repeat' (first | refine Z ?_ | refine Zq ?_ | refine rn_blk_x (by decide) ?_ | ((first | refine' Y ?_ ?_ | refine' X ?_ ?_ ?_); rotate_left; (· (first | (simp (disch := omega) only [evl, Nat.reduceEqDiff, Nat.reduceAdd, reduceIte, reduceCtorEq] <;> exact rfl) | exact rfl)); all_goals try (refine fun (hb : _ = _) => ?_; try simp only [Zu, ne_eq, reduceCtorEq] at hb)) | (apply rk_gd_u; · simp [evl])))
  have hh1 : H1.hide = [] := hx1.hide.trans hh
  have hlo1 : H1.lo ≤ H.next := by rw [hx1.lo]; exact hlo
  refine rc_loop (R := fun ex T' H' => ex = .exit 0 ∧ HX H1 H' ∧ ∃ o, gT T' 3 = o ∧ Ap H' o (runsTo s 4096).length (exC (runsTo s 4096)) 43 2 H1.next) ?_ ?_
  · refine lp_ind f51l0_eq (fun k T H' => ∃ (i : Nat) (o : AV), k = 4096 - i ∧ i ≤ 4096 ∧ gT T 1 = .ptr H.next 0 ∧ gT T 3 = o ∧ gT T 4 = .int .i64 i ∧ HX H1 H' ∧ Ap H' o (runsTo s i).length (exC (runsTo s i)) 43 2 H1.next) _ ?_ 4096 _ _ ?_
    · intro k T H' hI
      obtain ⟨i, o, hk, hi, h1, h3, h4, hx, hap⟩ := hI
      unfold f51l0
      have hrl := runsTo_len s i
      have hbd := runsTo_bd s i
      have hne := @runsTo_ne' s i
      have Hsu := Hd.mk (runsTo_succ s i)
      by_cases hlt : i < 4096
      · have hrd := (hr1.hx hx (by omega)).rd (bl_get s (i := i) (by omega))
        have hixA := ixA_ok (n := 4096) (z := 1) (i := H.next) (o := 0) (k := .i64) (e := (i : Int)) (by omega) (by omega)
        rw [Nat.zero_add, Nat.mul_one, Int.toNat_natCast] at hixA
        have hnx := hx.next
        have hhA : H'.hide = [] := hx.hide.trans hh1
        cases hsi : s.getD i false with
        | false =>
          rw [hsi] at hrd
          (repeat' (first | refine Z ?_ | refine Zq ?_ | refine rn_blk_x (by decide) ?_ | ((first | refine' Y ?_ ?_ | refine' X ?_ ?_ ?_); rotate_left; (· (first | (simp (disch := omega) only [evl, Nat.reduceEqDiff, Nat.reduceAdd, reduceIte, reduceCtorEq, h1, h3, h4, hixA, hrd] <;> exact rfl) | exact rfl)); all_goals try (refine fun (hb : _ = _) => ?_; try simp only [Zu, ne_eq, reduceCtorEq] at hb)) | (apply rk_gd_u; · simp [evl])))
          refine rn_nil ?_; refine lpq_n (4096 - (i + 1)) (by omega) ?_
          refine ⟨i + 1, o, rfl, by omega, (by (first | (simp (disch := omega) only [evl, Nat.reduceEqDiff, Nat.reduceAdd, reduceIte, reduceCtorEq, h1] <;> exact rfl) | exact rfl)), (by (first | (simp (disch := omega) only [evl, Nat.reduceEqDiff, Nat.reduceAdd, reduceIte, reduceCtorEq, h3] <;> exact rfl) | exact rfl)), (by (first | (simp (disch := omega) only [evl, Nat.reduceEqDiff, Nat.reduceAdd, reduceIte, reduceCtorEq] <;> exact rfl) | exact rfl)), hx, ?_⟩
          rw [Hsu.out, if_neg (by rw [hsi]; simp)]
          exact hap
        | true =>
          rw [hsi] at hrd
          by_cases hprev : 0 < i ∧ s.getD (i - 1) false = true
          · have hi0 := hprev.1
            have hrd' := (hr1.hx hx (by omega)).rd (bl_get s (i := i - 1) (by omega))
            rw [hprev.2] at hrd'
            have hixA' := ixA_ok (n := 4096) (z := 1) (i := H.next) (o := 0) (k := .i64) (e := (i : Int) - 1) (by omega) (by omega)
            rw [Nat.zero_add, Nat.mul_one, show ((i : Int) - 1).toNat = i - 1 from by omega] at hixA'
            have hl0 : (runsTo s i).length ≠ 0 := fun h => hne hi0 hprev.2 (List.eq_nil_of_length_eq_zero h)
            have hkl : (runsTo s i).length - 1 < (runsTo s i).length := by omega
            have hmem := hbd _ (exG_mem hkl)
            have hlens : ∀ H', fstO (builtinF .len look [22] [o] H') = some (.int .i64 (runsTo s i).length) := fun H' => len_el u22 hap.isSl
            have hixL : ixS 2 o (.int .i64 (((runsTo s i).length : Int) - 1)) = some (elA 2 o ((runsTo s i).length - 1)) := by
              have := ix_el hap.isSl (k := .i64) (e := ((runsTo s i).length : Int) - 1) (z := 2) (by omega) (by omega)
              rw [this, show (((runsTo s i).length : Int) - 1).toNat = (runsTo s i).length - 1 from by omega]
            have hfa1 := fa_el hap.isSl hkl 2 1
            have hrd1 := SlX.rd1 (l := runsTo s i) hap.slZ hkl
            obtain ⟨H2, hst, hap', hp', hn'⟩ := Ap.st (L := look) (t := 3) (v := .int .i64 ((exG (runsTo s i) ((runsTo s i).length - 1)).2 + 1)) hap hkl (j := 1) (by omega) hhA (by rw [hx.lo]; omega) z3 rfl
            rw [exC_set _ _ hkl] at hap'
            have hsu : runsTo s (i + 1) = (runsTo s i).set ((runsTo s i).length - 1) ((exG (runsTo s i) ((runsTo s i).length - 1)).1, (exG (runsTo s i) ((runsTo s i).length - 1)).2 + 1) := by
              rw [Hsu.out, if_pos hsi, if_pos hprev]
            have Hsu' := Hd.mk hsu
            clear hsu Hsu hne hbd
            generalize runsTo s i = rs at *
            generalize (exG rs (rs.length - 1)).1 = x at *
            generalize (exG rs (rs.length - 1)).2 = y at *
            (repeat' (first | refine Z ?_ | refine Zq ?_ | refine rn_blk_x (by decide) ?_ | ((first | refine' Y ?_ ?_ | refine' X ?_ ?_ ?_); rotate_left; (· (first | (simp (disch := omega) only [evl, Nat.reduceEqDiff, Nat.reduceAdd, reduceIte, reduceCtorEq, h1, h3, h4, hixA, hrd, hixA', hrd', hlens, hixL, hfa1, hrd1] <;> exact rfl) | exact rfl)); all_goals try (refine fun (hb : _ = _) => ?_; try simp only [Zu, ne_eq, reduceCtorEq] at hb)) | (apply rk_gd_u; · simp [evl])))
            apply rk_st
            · (simp (disch := omega) only [evl, Nat.reduceEqDiff, Nat.reduceAdd, reduceIte, reduceCtorEq, h3])
              exact hst
            simp only [hOut_f]
            (repeat' (first | refine Z ?_ | refine Zq ?_ | refine rn_blk_x (by decide) ?_ | ((first | refine' Y ?_ ?_ | refine' X ?_ ?_ ?_); rotate_left; (· (first | (simp (disch := omega) only [evl, Nat.reduceEqDiff, Nat.reduceAdd, reduceIte, reduceCtorEq, h4] <;> exact rfl) | exact rfl)); all_goals try (refine fun (hb : _ = _) => ?_; try simp only [Zu, ne_eq, reduceCtorEq] at hb)) | (apply rk_gd_u; · simp [evl])))
            refine rn_nil ?_; refine lpq_n (4096 - (i + 1)) (by omega) ?_
            refine ⟨i + 1, o, rfl, by omega, (by (first | (simp (disch := omega) only [evl, Nat.reduceEqDiff, Nat.reduceAdd, reduceIte, reduceCtorEq, h1] <;> exact rfl) | exact rfl)), (by (first | (simp (disch := omega) only [evl, Nat.reduceEqDiff, Nat.reduceAdd, reduceIte, reduceCtorEq, h3] <;> exact rfl) | exact rfl)), (by (first | (simp (disch := omega) only [evl, Nat.reduceEqDiff, Nat.reduceAdd, reduceIte, reduceCtorEq] <;> exact rfl) | exact rfl)), ?_, ?_⟩
            · refine ((hx.hp fun _ => True).trans hp' (r := fun _ => True) fun j hj _ => ⟨trivial, ?_⟩).hx fun _ _ => trivial
              obtain ⟨_, ⟨rfl, _⟩ | ⟨i', rfl, _, hN, _⟩⟩ := hap
              · exact blkNe_nil _
              · exact blkNe_sl (by omega)
            · rw [Hsu'.out, List.length_set]; exact hap'
          · have hsu : runsTo s (i + 1) = runsTo s i ++ [((i : Int), 1)] := by
              rw [Hsu.out, if_pos hsi, if_neg hprev]
            have Hsu' := Hd.mk hsu
            clear hsu Hsu hne hbd
            generalize runsTo s i = rs at *
            have hb43 := build43 (i : Int) 1
            have fin : ∀ T, gT T 1 = .ptr H.next 0 → gT T 3 = o → gT T 4 = .int .i64 i → RC look (.reg f51r7) [.blk 1, .seq (.reg f51r8)] T H' (LpQ (fun k T H' => ∃ (i : Nat) (o : AV), k = 4096 - i ∧ i ≤ 4096 ∧ gT T 1 = .ptr H.next 0 ∧ gT T 3 = o ∧ gT T 4 = .int .i64 i ∧ HX H1 H' ∧ Ap H' o (runsTo s i).length (exC (runsTo s i)) 43 2 H1.next) (fun ex T' H' => ex = .exit 0 ∧ HX H1 H' ∧ ∃ o, gT T' 3 = o ∧ Ap H' o (runsTo s 4096).length (exC (runsTo s 4096)) 43 2 H1.next) k) := by
              intro T h1 h3 h4
              (repeat' (first | refine Z ?_ | refine Zq ?_ | refine rn_blk_x (by decide) ?_ | ((first | refine' Y ?_ ?_ | refine' X ?_ ?_ ?_); rotate_left; (· (first | (simp (disch := omega) only [evl, Nat.reduceEqDiff, Nat.reduceAdd, reduceIte, reduceCtorEq, h1, h3, h4, hb43] <;> exact rfl) | exact rfl)); all_goals try (refine fun (hb : _ = _) => ?_; try simp only [Zu, ne_eq, reduceCtorEq] at hb)) | (apply rk_gd_u; · simp [evl])))
              obtain ⟨H4, hb4, hx4, hn4, hr4⟩ := bs_one (s := 2) (e := 43) (z := .agg [.int .i64 0, .int .i64 0]) (v := exV ((i : Int), 1)) (H := H') hhA rfl rfl
              apply rk_hn
              · (simp (disch := omega) only [evl, Nat.reduceEqDiff, Nat.reduceAdd, reduceIte, reduceCtorEq])
                exact hb4
              simp only [hOut_f]
              (repeat' (first | refine Z ?_ | refine Zq ?_ | refine rn_blk_x (by decide) ?_ | ((first | refine' Y ?_ ?_ | refine' X ?_ ?_ ?_); rotate_left; (· (first | (simp (disch := omega) only [evl, Nat.reduceEqDiff, Nat.reduceAdd, reduceIte, reduceCtorEq, h3] <;> exact rfl) | exact rfl)); all_goals try (refine fun (hb : _ = _) => ?_; try simp only [Zu, ne_eq, reduceCtorEq] at hb)) | (apply rk_gd_u; · simp [evl])))
              obtain ⟨new, hsrc, hnl⟩ := srcRow (z := 2) (n := 1) (c := 1) (op := false) hr4 rfl
              have hap4 := hap.hx hx4
              obtain ⟨s', H5, happ, hap5, hp5, hn5, hne5⟩ := hap4.app (b := 16) (x := .sl H'.next 0 1 1 false) (m := 1) rfl hsrc (one_of_l (by rw [hnl]; rfl)) (by rw [hnl]; rfl) (Nat.le_refl _) (by omega) (by omega) ((hx.trans hx4).hide.trans hh1) (by rw [(hx.trans hx4).lo]; omega) (by have := (hx.trans hx4).next; omega)
              apply rk_hn
              · (simp (disch := omega) only [evl, Nat.reduceEqDiff, Nat.reduceAdd, reduceIte, reduceCtorEq, h3])
                exact happ
              simp only [hOut_f]
              (repeat' (first | refine Z ?_ | refine Zq ?_ | refine rn_blk_x (by decide) ?_ | ((first | refine' Y ?_ ?_ | refine' X ?_ ?_ ?_); rotate_left; (· (first | (simp (disch := omega) only [evl, Nat.reduceEqDiff, Nat.reduceAdd, reduceIte, reduceCtorEq, h4] <;> exact rfl) | exact rfl)); all_goals try (refine fun (hb : _ = _) => ?_; try simp only [Zu, ne_eq, reduceCtorEq] at hb)) | (apply rk_gd_u; · simp [evl])))
              refine rn_nil ?_; refine lpq_n (4096 - (i + 1)) (by omega) ?_
              refine ⟨i + 1, s', rfl, by omega, (by (first | (simp (disch := omega) only [evl, Nat.reduceEqDiff, Nat.reduceAdd, reduceIte, reduceCtorEq, h1] <;> exact rfl) | exact rfl)), (by (first | (simp (disch := omega) only [evl, Nat.reduceEqDiff, Nat.reduceAdd, reduceIte, reduceCtorEq] <;> exact rfl) | exact rfl)), (by (first | (simp (disch := omega) only [evl, Nat.reduceEqDiff, Nat.reduceAdd, reduceIte, reduceCtorEq] <;> exact rfl) | exact rfl)), ?_, ?_⟩
              · refine (((hx.trans hx4).hp fun _ => True).trans hp5 (r := fun _ => True) fun i hi _ => ⟨trivial, ?_⟩).hx fun _ _ => trivial
                obtain ⟨_, ⟨rfl, _⟩ | ⟨i', rfl, _, hN, _⟩⟩ := hap
                · exact blkNe_nil _
                · exact blkNe_sl (by omega)
              · rw [Hsu'.out]
                rw [hnl, show AV.cells (exV ((i : Int), 1)) = exC [((i : Int), 1)] from rfl, ← exC_app] at hap5
                simpa using hap5
            by_cases hi0 : 0 < i
            · have hrd' := (hr1.hx hx (by omega)).rd (bl_get s (i := i - 1) (by omega))
              have hpf : s.getD (i - 1) false = false := by
                cases h : s.getD (i - 1) false with
                | false => rfl
                | true => exact absurd ⟨hi0, h⟩ hprev
              rw [hpf] at hrd'
              have hixA' := ixA_ok (n := 4096) (z := 1) (i := H.next) (o := 0) (k := .i64) (e := (i : Int) - 1) (by omega) (by omega)
              rw [Nat.zero_add, Nat.mul_one, show ((i : Int) - 1).toNat = i - 1 from by omega] at hixA'
              (repeat' (first | refine Z ?_ | refine rn_blk_x (by decide) ?_ | ((first | refine' Y ?_ ?_ | refine' X ?_ ?_ ?_); rotate_left; (· (first | (simp (disch := omega) only [evl, Nat.reduceEqDiff, Nat.reduceAdd, reduceIte, reduceCtorEq, h1, h3, h4, hixA, hrd, hixA', hrd'] <;> exact rfl) | exact rfl)); all_goals try (refine fun (hb : _ = _) => ?_; try simp only [Zu, ne_eq, reduceCtorEq] at hb)) | (apply rk_gd_u; · simp [evl])))
              refine rn_seq_n ?_
              (repeat' (first | refine Z ?_ | refine rn_blk_x (by decide) ?_ | ((first | refine' Y ?_ ?_ | refine' X ?_ ?_ ?_); rotate_left; (· (first | (simp (disch := omega) only [evl, Nat.reduceEqDiff, Nat.reduceAdd, reduceIte, reduceCtorEq, h1, h3, h4, hixA, hrd, hixA', hrd'] <;> exact rfl) | exact rfl)); all_goals try (refine fun (hb : _ = _) => ?_; try simp only [Zu, ne_eq, reduceCtorEq] at hb)) | (apply rk_gd_u; · simp [evl])))
              refine rn_seq_n ?_
              (repeat' (first | refine Z ?_ | refine rn_blk_x (by decide) ?_ | ((first | refine' Y ?_ ?_ | refine' X ?_ ?_ ?_); rotate_left; (· (first | (simp (disch := omega) only [evl, Nat.reduceEqDiff, Nat.reduceAdd, reduceIte, reduceCtorEq, h1, h3, h4, hixA, hrd, hixA', hrd'] <;> exact rfl) | exact rfl)); all_goals try (refine fun (hb : _ = _) => ?_; try simp only [Zu, ne_eq, reduceCtorEq] at hb)) | (apply rk_gd_u; · simp [evl])))
              refine rn_seq_n ?_
              (repeat' (first | refine Z ?_ | refine rn_blk_x (by decide) ?_ | ((first | refine' Y ?_ ?_ | refine' X ?_ ?_ ?_); rotate_left; (· (first | (simp (disch := omega) only [evl, Nat.reduceEqDiff, Nat.reduceAdd, reduceIte, reduceCtorEq, h1, h3, h4, hixA, hrd, hixA', hrd'] <;> exact rfl) | exact rfl)); all_goals try (refine fun (hb : _ = _) => ?_; try simp only [Zu, ne_eq, reduceCtorEq] at hb)) | (apply rk_gd_u; · simp [evl])))
              refine rn_seq_n ?_
              (repeat' (first | refine Z ?_ | refine rn_blk_x (by decide) ?_ | ((first | refine' Y ?_ ?_ | refine' X ?_ ?_ ?_); rotate_left; (· (first | (simp (disch := omega) only [evl, Nat.reduceEqDiff, Nat.reduceAdd, reduceIte, reduceCtorEq, h1, h3, h4, hixA, hrd, hixA', hrd'] <;> exact rfl) | exact rfl)); all_goals try (refine fun (hb : _ = _) => ?_; try simp only [Zu, ne_eq, reduceCtorEq] at hb)) | (apply rk_gd_u; · simp [evl])))
              refine rn_seq_n ?_
              refine rc_cond_f ?_ ?_
              · (simp (disch := omega) only [evl, Nat.reduceEqDiff, Nat.reduceAdd, reduceIte, reduceCtorEq])
              refine fin _ ?_ ?_ ?_
              · (simp (disch := omega) only [evl, Nat.reduceEqDiff, Nat.reduceAdd, reduceIte, reduceCtorEq, h1])
              · (simp (disch := omega) only [evl, Nat.reduceEqDiff, Nat.reduceAdd, reduceIte, reduceCtorEq, h3])
              · (simp (disch := omega) only [evl, Nat.reduceEqDiff, Nat.reduceAdd, reduceIte, reduceCtorEq, h4])
            · (repeat' (first | refine Z ?_ | refine rn_blk_x (by decide) ?_ | ((first | refine' Y ?_ ?_ | refine' X ?_ ?_ ?_); rotate_left; (· (first | (simp (disch := omega) only [evl, Nat.reduceEqDiff, Nat.reduceAdd, reduceIte, reduceCtorEq, h1, h3, h4, hixA, hrd] <;> exact rfl) | exact rfl)); all_goals try (refine fun (hb : _ = _) => ?_; try simp only [Zu, ne_eq, reduceCtorEq] at hb)) | (apply rk_gd_u; · simp [evl])))
              refine rn_seq_n ?_
              (repeat' (first | refine Z ?_ | refine rn_blk_x (by decide) ?_ | ((first | refine' Y ?_ ?_ | refine' X ?_ ?_ ?_); rotate_left; (· (first | (simp (disch := omega) only [evl, Nat.reduceEqDiff, Nat.reduceAdd, reduceIte, reduceCtorEq, h1, h3, h4, hixA, hrd] <;> exact rfl) | exact rfl)); all_goals try (refine fun (hb : _ = _) => ?_; try simp only [Zu, ne_eq, reduceCtorEq] at hb)) | (apply rk_gd_u; · simp [evl])))
              refine rn_seq_n ?_
              (repeat' (first | refine Z ?_ | refine rn_blk_x (by decide) ?_ | ((first | refine' Y ?_ ?_ | refine' X ?_ ?_ ?_); rotate_left; (· (first | (simp (disch := omega) only [evl, Nat.reduceEqDiff, Nat.reduceAdd, reduceIte, reduceCtorEq, h1, h3, h4, hixA, hrd] <;> exact rfl) | exact rfl)); all_goals try (refine fun (hb : _ = _) => ?_; try simp only [Zu, ne_eq, reduceCtorEq] at hb)) | (apply rk_gd_u; · simp [evl])))
              refine rn_seq_n ?_
              (repeat' (first | refine Z ?_ | refine rn_blk_x (by decide) ?_ | ((first | refine' Y ?_ ?_ | refine' X ?_ ?_ ?_); rotate_left; (· (first | (simp (disch := omega) only [evl, Nat.reduceEqDiff, Nat.reduceAdd, reduceIte, reduceCtorEq, h1, h3, h4, hixA, hrd] <;> exact rfl) | exact rfl)); all_goals try (refine fun (hb : _ = _) => ?_; try simp only [Zu, ne_eq, reduceCtorEq] at hb)) | (apply rk_gd_u; · simp [evl])))
              refine rn_seq_n ?_
              (repeat' (first | refine Z ?_ | refine rn_blk_x (by decide) ?_ | ((first | refine' Y ?_ ?_ | refine' X ?_ ?_ ?_); rotate_left; (· (first | (simp (disch := omega) only [evl, Nat.reduceEqDiff, Nat.reduceAdd, reduceIte, reduceCtorEq, h1, h3, h4, hixA, hrd] <;> exact rfl) | exact rfl)); all_goals try (refine fun (hb : _ = _) => ?_; try simp only [Zu, ne_eq, reduceCtorEq] at hb)) | (apply rk_gd_u; · simp [evl])))
              refine rn_seq_n ?_
              refine rc_cond_f ?_ ?_
              · (simp (disch := omega) only [evl, Nat.reduceEqDiff, Nat.reduceAdd, reduceIte, reduceCtorEq])
              refine fin _ ?_ ?_ ?_
              · (simp (disch := omega) only [evl, Nat.reduceEqDiff, Nat.reduceAdd, reduceIte, reduceCtorEq, h1])
              · (simp (disch := omega) only [evl, Nat.reduceEqDiff, Nat.reduceAdd, reduceIte, reduceCtorEq, h3])
              · (simp (disch := omega) only [evl, Nat.reduceEqDiff, Nat.reduceAdd, reduceIte, reduceCtorEq, h4])
      · (repeat' (first | refine Z ?_ | refine Zq ?_ | refine rn_blk_x (by decide) ?_ | ((first | refine' Y ?_ ?_ | refine' X ?_ ?_ ?_); rotate_left; (· (first | (simp (disch := omega) only [evl, Nat.reduceEqDiff, Nat.reduceAdd, reduceIte, reduceCtorEq, h4] <;> exact rfl) | exact rfl)); all_goals try (refine fun (hb : _ = _) => ?_; try simp only [Zu, ne_eq, reduceCtorEq] at hb)) | (apply rk_gd_u; · simp [evl])))
        refine rn_nil ?_; refine lpq_e ?_
        obtain rfl : i = 4096 := by omega
        exact ⟨rfl, hx, o, (by (first | (simp (disch := omega) only [evl, Nat.reduceEqDiff, Nat.reduceAdd, reduceIte, reduceCtorEq, h3] <;> exact rfl) | exact rfl)), hap⟩
    · exact ⟨0, .nilSl, by omega, by omega, (by (first | (simp (disch := omega) only [evl, Nat.reduceEqDiff, Nat.reduceAdd, reduceIte, reduceCtorEq] <;> exact rfl) | exact rfl)), (by (first | (simp (disch := omega) only [evl, Nat.reduceEqDiff, Nat.reduceAdd, reduceIte, reduceCtorEq] <;> exact rfl) | exact rfl)), (by (first | (simp (disch := omega) only [evl, Nat.reduceEqDiff, Nat.reduceAdd, reduceIte, reduceCtorEq] <;> exact rfl) | exact rfl)), HX.refl _, Ap.nil _ _ _ _⟩
  · rintro ex T' H' ⟨rfl, hx, o, h3, hap⟩
    (repeat' (first | refine Z ?_ | refine Zq ?_ | refine rn_blk_x (by decide) ?_ | ((first | refine' Y ?_ ?_ | refine' X ?_ ?_ ?_); rotate_left; (· (first | (simp (disch := omega) only [evl, Nat.reduceEqDiff, Nat.reduceAdd, reduceIte, reduceCtorEq, h3] <;> exact rfl) | exact rfl)); all_goals try (refine fun (hb : _ = _) => ?_; try simp only [Zu, ne_eq, reduceCtorEq] at hb)) | (apply rk_gd_u; · simp [evl])))
    refine rn_nil ?_; refine fq_ret (v := o) (resV_1 _ _ |>.trans ?_) ⟨hx1.trans hx, Ap.le hap (by omega)⟩
    (simp (disch := omega) only [evl, Nat.reduceEqDiff, Nat.reduceAdd, reduceIte, reduceCtorEq])
end Go.Proofs.Ytnkomaedmblemaa
