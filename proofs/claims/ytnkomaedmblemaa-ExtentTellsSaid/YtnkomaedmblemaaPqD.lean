import Derived.Test.YtnkomaedmblemaaPqC
import Derived.Test.YtnkomaedmblemaaExB
import Derived.Test.YtnkomaedmblemaaExl
import Derived.Test.YtnkomaedmblemaaStA
set_option linter.unusedSimpArgs false
set_option linter.unusedVariables false
set_option maxRecDepth 100000
namespace Go.Proofs.Ytnkomaedmblemaa
open Go.Ev Exl
open Ra Rb Rc Rd Re Rf Rg Rh Ri Rj Rk Rl Rm Rn Ro Rp Rq Rr
namespace PQ

theorem ixo {i o n c : Nat} {op : Bool} {k : Nat} (h1 : k < n) : ixS 1 (.sl i o n c op) (.int .i64 k) = some (.ptr i (o + k)) := by
  show brec none (some (AV.ptr i (o + k * 1))) (Nat.blt k n) = _
  rw [show Nat.blt k n = true from by rw [Nat.blt_eq]; omega, Nat.mul_one]; rfl
theorem sl_lo {L : Lk} {t e : Nat} {i n : Nat} {kk : IntKind} {k : Nat} (ht : L.under t = some (.slice e)) (hz : L.size e = some 1) (hk : k < n) : sliceF L t true false false [.sl i 0 n n true, .int kk (k : Int)] = some (.sl i k (n - k) (n - k) true) := by
  show evSlice L t (.sl i 0 n n true) (some (.int kk (k : Int))) none none = _
  unfold evSlice
  rw [ht]
  show (match L.size e with | none => none | some z => (match some n with
        | none => none
        | some h => match Nat.ble k h && Nat.ble h n with
            | true => (match Nat.beq n k with | true => none | false => some (AV.sl i (0 + k * z) (h - k) (n - k) true))
            | false => none)) = _
  rw [hz]
  simp only
  rw [show Nat.ble k n = true from Nat.ble_eq_true_of_le (by omega), show Nat.ble n n = true from Nat.ble_eq_true_of_le (Nat.le_refl _), show Nat.beq n k = false from by cases h : Nat.beq n k with | false => rfl | true => have := Nat.eq_of_beq_eq_true h; omega]
  simp
theorem n3 : look.zero 3 = some (.int .i64 0) := by kernel_rfl
theorem clear_row {H : AH} {i o m c e z : Nat} {op op' : Bool} {ys : List Int} (hr : Row H i false op' e z (iC ys)) (hh : H.hide = []) (hlo : H.lo ≤ i) (hm : 1 ≤ m) (hom : o + m ≤ ys.length) :
    ∃ H' zs, builtinF .clear look [32] [.sl i o m c op] H = some (.undef, H') ∧ Row H' i false op' e z (iC zs) ∧ zs.length = ys.length ∧ (∀ j, j < o → g zs j = g ys j) ∧ HP (· ≠ i) H H' ∧ H'.next = H.next := by
  obtain ⟨cc, h2, h3⟩ := hr
  have hxl : (Ce.of (rep [AV.int .i64 0] m)).l = iC (List.replicate m 0) := by
    rw [Ce.of_l, rep_one]; simp [iC]
  have hll : (Ce.of (rep [AV.int .i64 0] m)).l.length = m := by rw [hxl, iC_len, List.length_replicate]
  have hcl : cc.l.length = ys.length := by rw [h3, iC_len]
  obtain ⟨c', h4, h5⟩ := Ce.over_ex (x := Ce.of (rep [AV.int .i64 0] m)) (c := cc) (o := o) (by rw [hll]; omega)
  rw [h3, hxl, show (iC (List.replicate m 0)).length = m from by rw [iC_len, List.length_replicate]] at h5
  have h6 : c'.l = iC (ys.take o ++ List.replicate m 0 ++ ys.drop (o + m)) := by
    rw [h5]; simp [iC, List.map_take, List.map_drop]
  refine ⟨H.put i (.cells c' e z op' false), ys.take o ++ List.replicate m 0 ++ ys.drop (o + m), ?_, ⟨c', AH.get_put hh _ _, h6⟩, by simp; omega, fun j hj => ?_, HP.put _ _ _, rfl⟩
  · show (match evClear look 32 (.sl i o m c op) H with | some H' => some (AV.undef, H') | none => none) = _
    unfold evClear
    rw [u32]
    simp only [n3]
    rw [show Nat.beq m 0 = false from by cases m with | zero => omega | succ m => rfl]
    simp only
    unfold AH.write AH.writeC
    rw [show Nat.ble H.lo i = true from Nat.ble_eq_true_of_le hlo, h2]
    have hone : (Ce.of (rep [AV.int .i64 0] m)).one = true := one_of_l (by rw [hxl]; simp [iC, AV.oneCell])
    show (match (match Ce.one (Ce.of (rep [AV.int .i64 0] m)) with | false => none | true => match Ce.over (Ce.of (rep [AV.int .i64 0] m)) cc o with | some vs' => some (H.put i (.cells vs' e z op' false)) | none => none) with | some H' => some (AV.undef, H') | none => none) = _
    rw [hone]
    simp only [h4]
  · unfold g
    rw [List.getD_eq_getElem?_getD, List.getD_eq_getElem?_getD, List.append_assoc, List.getElem?_append_left (by simp; omega), List.getElem?_take_of_lt hj]
theorem dd_len1 (xs : List Int) (h : xs.length < 2) : dd xs = xs := by
  match xs, h with
  | [], _ => rfl
  | [x], _ => rfl
  | x :: y :: l, h => simp at h; omega

set_option maxHeartbeats 8000000 in
theorem compact_ok (H : AH) (v : AV) (xs : List Int) (N : Nat) (hap : Ap H v xs.length (iC xs) 3 1 N) (hlo : H.lo ≤ N) (hh : H.hide = []) (hl : xs.length ≤ 60000) :
    FnE look 47 [v] H fun r H' => HP (fun j => j < N) H H' ∧ SlI H' r (dd xs) ∧ ∀ i o n c op, r = .sl i o n c op → N ≤ i := by
  refine fn_intro f47_eq (noext rfl) rfl ?_
  unfold f47c
  have hlens : ∀ H', fstO (builtinF .len look [32] [v] H') = some (.int .i64 xs.length) := fun H' => len_el u32 hap.isSl
  have hsl : SlI H v xs := hap.slR fun k hk => by unfold iC; rw [List.getElem?_map, g_get hk]; rfl
  have hvN : ∀ i o n c op, v = .sl i o n c op → N ≤ i := fun i o n c op hv => by
    obtain ⟨_, ⟨rfl, _⟩ | ⟨i', rfl, _, hN', _⟩⟩ := hap
    · cases hv
    · cases hv; exact hN'
  by_cases h2 : xs.length < 2
  · (repeat' (first | refine Z ?_ | refine Zq ?_ | refine rn_blk_x (by decide) ?_ | ((first | refine' Y ?_ ?_ | refine' X ?_ ?_ ?_); rotate_left; (· (first | (simp (disch := omega) only [evl, Nat.reduceEqDiff, Nat.reduceAdd, reduceIte, reduceCtorEq, hlens] <;> exact rfl) | exact rfl)); all_goals try (refine fun (hb : _ = _) => ?_; try simp only [Zu, ne_eq, reduceCtorEq] at hb)) | (apply rk_gd_u; · simp [evl])))
    refine rn_nil ?_; refine fq_ret (resV_1 _ _) ⟨HP.refl _ _, ?_, ?_⟩
    · rw [dd_len1 xs h2]; (simp (disch := omega) only [evl, Nat.reduceEqDiff, Nat.reduceAdd, reduceIte, reduceCtorEq]); exact hsl
    · intro i o n c op hv; exact hvN i o n c op (by have h := hv; revert h; (simp (disch := omega) only [evl, Nat.reduceEqDiff, Nat.reduceAdd, reduceIte, reduceCtorEq]); exact id)
  rcases hap.2 with ⟨rfl, h0⟩ | ⟨i, rfl, hrow, hNi, hin⟩
  · omega
  (repeat' (first | refine Z ?_ | refine Zq ?_ | refine rn_blk_x (by decide) ?_ | ((first | refine' Y ?_ ?_ | refine' X ?_ ?_ ?_); rotate_left; (· (first | (simp (disch := omega) only [evl, Nat.reduceEqDiff, Nat.reduceAdd, reduceIte, reduceCtorEq, hlens] <;> exact rfl) | exact rfl)); all_goals try (refine fun (hb : _ = _) => ?_; try simp only [Zu, ne_eq, reduceCtorEq] at hb)) | (apply rk_gd_u; · simp [evl])))
  refine rc_loop (R := fun ex T' H' => (ex = .exit 0 ∧ H' = H ∧ gT T' 0 = .sl i 0 xs.length xs.length true ∧ dd xs = xs) ∨ (ex = .ret ∧ HP (· ≠ i) H H' ∧ SlI H' (gT T' 2) (dd xs) ∧ ∃ k, gT T' 2 = .sl i 0 k xs.length true)) ?_ ?_
  · refine lp_ind f47l0_eq (fun kk T H' => ∃ k : Nat, kk = xs.length - k ∧ 1 ≤ k ∧ k ≤ xs.length ∧ gT T 0 = .sl i 0 xs.length xs.length true ∧ gT T 3 = .int .i64 k ∧ H' = H ∧ dd (xs.take k) = xs.take k) _ ?_ (xs.length - 1) _ _ ?_
    · intro kk T H1 hI
      obtain ⟨k, hk, hk1, hkn, h0, h3, rfl, hdd⟩ := hI
      unfold f47l0
      by_cases hlt : k < xs.length
      · have hixA := ixn (i := i) (n := xs.length) (c := xs.length) (op := true) (k := k) (by omega)
        have hixB := ix (i := i) (n := xs.length) (c := xs.length) (op := true) (e := (k : Int) - 1) (by omega) (by omega)
        rw [show ((k : Int) - 1).toNat = k - 1 from by omega] at hixB
        have hrdA := rd hrow (k := k) (by omega)
        have hrdB := rd hrow (k := k - 1) (by omega)
        have hds := dd_step xs hk1 hlt
        by_cases heq : g xs k = g xs (k - 1)
        · rw [if_pos heq, hdd] at hds
          have hslo : sliceF look 32 true false false [.sl i 0 xs.length xs.length true, .int .i64 (k : Int)] = some (.sl i k (xs.length - k) (xs.length - k) true) := sl_lo u32 z3 hlt
          have hl2 : ∀ H', fstO (builtinF .len look [32] [.sl i k (xs.length - k) (xs.length - k) true] H') = some (.int .i64 (xs.length - k : Nat)) := fun H' => len_el (n := xs.length - k) u32 (hrow.isSl (o := k) hin (by rw [iC_len]; omega))
          (repeat' (first | refine Z ?_ | refine Zq ?_ | refine rn_blk_x (by decide) ?_ | ((first | refine' Y ?_ ?_ | refine' X ?_ ?_ ?_); rotate_left; (· (first | (simp (disch := omega) only [evl, Nat.reduceEqDiff, Nat.reduceAdd, reduceIte, reduceCtorEq, h0, h3, hlens, hixA, hixB, hrdA, hrdB, hslo] <;> exact rfl) | exact rfl)); all_goals try (refine fun (hb : _ = _) => ?_; try simp only [Zu, ne_eq, reduceCtorEq] at hb)) | (apply rk_gd_u; · simp [evl])))
          refine rc_loop (R := fun ex T' H' => ex = .exit 2 ∧ ∃ (q : Nat) (ys : List Int), gT T' 0 = .sl i 0 xs.length xs.length true ∧ gT T' 3 = .int .i64 q ∧ HP (· ≠ i) H1 H' ∧ Row H' i false true 3 1 (iC ys) ∧ ys.length = xs.length ∧ q < xs.length ∧ ys.take q = dd xs) ?_ ?_
          · refine lp_ind f47l1_eq (fun kk T H' => ∃ (q u : Nat) (ys : List Int), kk = xs.length - (k + u) ∧ 1 ≤ u ∧ k + u ≤ xs.length ∧ k ≤ q ∧ q + 1 ≤ k + u ∧ gT T 0 = .sl i 0 xs.length xs.length true ∧ gT T 3 = .int .i64 q ∧ gT T 4 = .sl i k (xs.length - k) (xs.length - k) true ∧ gT T 5 = .int .i64 u ∧ HP (· ≠ i) H1 H' ∧ Row H' i false true 3 1 (iC ys) ∧ ys.length = xs.length ∧ ys.take q = dd (xs.take (k + u)) ∧ ∀ j, q ≤ j → g ys j = g xs j) _ ?_ (xs.length - (k + 1)) _ _ ?_
            · intro kk T H2 hI
              obtain ⟨q, u, ys, hk', hu1, hun, hq1, hq2, h0, h3, h4, h5, hp, hr2, hyl, htk, hrest⟩ := hI
              unfold f47l1
              by_cases hlt2 : k + u < xs.length
              · have hixU := ixo (i := i) (o := k) (n := xs.length - k) (c := xs.length - k) (op := true) (k := u) (by omega)
                have hixV := ixo (i := i) (o := k) (n := xs.length - k) (c := xs.length - k) (op := true) (k := u - 1) (by omega)
                have eu : (u : Int) - 1 = ((u - 1 : Nat) : Int) := by omega
                have hrdU := rd hr2 (k := k + u) (by omega)
                have hrdV := rd hr2 (k := k + (u - 1)) (by omega)
                rw [hrest (k + u) (by omega)] at hrdU
                rw [hrest (k + (u - 1)) (by omega)] at hrdV
                have hds2 := dd_step xs (j := k + u) (by omega) hlt2
                rw [show k + u - 1 = k + (u - 1) from by omega] at hds2
                have hul : u < xs.length - k := by omega
                have hul2 : (u : Int) < ((xs.length - k : Nat) : Int) := by omega
                by_cases hne : g xs (k + u) = g xs (k + (u - 1))
                · rw [if_pos hne] at hds2
                  have Hd2 := Hd.mk hds2
                  have Htk := Hd.mk htk
                  have Hrest := Hd.mk hrest
                  clear hds2 htk hrest
                  (repeat' (first | refine Z ?_ | refine Zq ?_ | refine rn_blk_x (by decide) ?_ | ((first | refine' Y ?_ ?_ | refine' X ?_ ?_ ?_); rotate_left; (· (first | (simp (disch := omega) only [evl, Nat.reduceEqDiff, Nat.reduceAdd, reduceIte, reduceCtorEq, h0, h3, h4, h5, hl2, hixU, hixV, eu, hrdU, hrdV] <;> exact rfl) | exact rfl)); all_goals try (refine fun (hb : _ = _) => ?_; try simp only [Zu, ne_eq, reduceCtorEq] at hb)) | (apply rk_gd_u; · simp [evl])))
                  refine rn_nil ?_; refine lpq_n (xs.length - (k + (u + 1))) (by omega) ?_
                  exact ⟨q, u + 1, ys, rfl, by omega, by omega, hq1, by omega, (by (first | (simp (disch := omega) only [evl, Nat.reduceEqDiff, Nat.reduceAdd, reduceIte, reduceCtorEq, h0] <;> exact rfl) | exact rfl)), (by (first | (simp (disch := omega) only [evl, Nat.reduceEqDiff, Nat.reduceAdd, reduceIte, reduceCtorEq, h3] <;> exact rfl) | exact rfl)), (by (first | (simp (disch := omega) only [evl, Nat.reduceEqDiff, Nat.reduceAdd, reduceIte, reduceCtorEq, h4] <;> exact rfl) | exact rfl)), (by (first | (simp (disch := omega) only [evl, Nat.reduceEqDiff, Nat.reduceAdd, reduceIte, reduceCtorEq, h5] <;> exact rfl) | exact rfl)), hp, hr2, hyl, by rw [Htk.out, ← Hd2.out]; rfl, Hrest.out⟩
                · rw [if_neg hne] at hds2
                  have Hd2 := Hd.mk hds2
                  have Htk := Hd.mk htk
                  have Hrest := Hd.mk hrest
                  clear hds2 htk hrest
                  have hixQ := ixn (i := i) (n := xs.length) (c := xs.length) (op := true) (k := q) (by omega)
                  obtain ⟨H3, hs3, hr3, hp3, hn3⟩ := hr2.st1 (L := look) (t := 3) (v := .int .i64 (g xs (k + u))) (k := q) (hp.hide.trans hh) (by rw [hp.lo]; omega) z3 rfl (by rw [iC_len]; omega)
                  rw [iC_set] at hr3
                  (repeat' (first | refine Z ?_ | refine Zq ?_ | refine rn_blk_x (by decide) ?_ | ((first | refine' Y ?_ ?_ | refine' X ?_ ?_ ?_); rotate_left; (· (first | (simp (disch := omega) only [evl, Nat.reduceEqDiff, Nat.reduceAdd, reduceIte, reduceCtorEq, h0, h3, h4, h5, hl2, hixU, hixV, eu, hrdU, hrdV, hixQ] <;> exact rfl) | exact rfl)); all_goals try (refine fun (hb : _ = _) => ?_; try simp only [Zu, ne_eq, reduceCtorEq] at hb)) | (apply rk_gd_u; · simp [evl])))
                  apply rk_st
                  · (simp (disch := omega) only [evl, Nat.reduceEqDiff, Nat.reduceAdd, reduceIte, reduceCtorEq])
                    exact hs3
                  simp only [hOut_f]
                  (repeat' (first | refine Z ?_ | refine Zq ?_ | refine rn_blk_x (by decide) ?_ | ((first | refine' Y ?_ ?_ | refine' X ?_ ?_ ?_); rotate_left; (· (first | (simp (disch := omega) only [evl, Nat.reduceEqDiff, Nat.reduceAdd, reduceIte, reduceCtorEq, h3, h5] <;> exact rfl) | exact rfl)); all_goals try (refine fun (hb : _ = _) => ?_; try simp only [Zu, ne_eq, reduceCtorEq] at hb)) | (apply rk_gd_u; · simp [evl])))
                  refine rn_nil ?_; refine lpq_n (xs.length - (k + (u + 1))) (by omega) ?_
                  refine ⟨q + 1, u + 1, _, rfl, by omega, by omega, by omega, by omega, (by (first | (simp (disch := omega) only [evl, Nat.reduceEqDiff, Nat.reduceAdd, reduceIte, reduceCtorEq, h0] <;> exact rfl) | exact rfl)), (by (first | (simp (disch := omega) only [evl, Nat.reduceEqDiff, Nat.reduceAdd, reduceIte, reduceCtorEq] <;> exact rfl) | exact rfl)), (by (first | (simp (disch := omega) only [evl, Nat.reduceEqDiff, Nat.reduceAdd, reduceIte, reduceCtorEq, h4] <;> exact rfl) | exact rfl)), (by (first | (simp (disch := omega) only [evl, Nat.reduceEqDiff, Nat.reduceAdd, reduceIte, reduceCtorEq, h5] <;> exact rfl) | exact rfl)), hp.trans hp3 (r := (· ≠ i)) fun i hi h => ⟨h, h⟩, hr3, by simp [hyl], ?_, fun j hj => ?_⟩
                  · rw [show k + (u + 1) = k + u + 1 from by omega, Hd2.out, ← Htk.out, List.take_add_one, List.getElem?_set, if_pos rfl, if_pos (by omega), List.take_set_of_le (Nat.le_refl _)]
                    rfl
                  · rw [← Hrest.out j (by omega)]
                    unfold g
                    rw [List.getD_eq_getElem?_getD, List.getElem?_set, if_neg (by omega)]
                    exact (List.getD_eq_getElem?_getD).symm
              · have hul2 : ¬ ((u : Int) < ((xs.length - k : Nat) : Int)) := by omega
                (repeat' (first | refine Z ?_ | refine Zq ?_ | refine rn_blk_x (by decide) ?_ | ((first | refine' Y ?_ ?_ | refine' X ?_ ?_ ?_); rotate_left; (· (first | (simp (disch := omega) only [evl, Nat.reduceEqDiff, Nat.reduceAdd, reduceIte, reduceCtorEq, h4, h5, hl2] <;> exact rfl) | exact rfl)); all_goals try (refine fun (hb : _ = _) => ?_; try simp only [Zu, ne_eq, reduceCtorEq] at hb)) | (apply rk_gd_u; · simp [evl])))
                refine rn_nil ?_; refine lpq_e ?_
                have : k + u = xs.length := by omega
                rw [this, List.take_length] at htk
                exact ⟨rfl, q, ys, (by (first | (simp (disch := omega) only [evl, Nat.reduceEqDiff, Nat.reduceAdd, reduceIte, reduceCtorEq, h0] <;> exact rfl) | exact rfl)), (by (first | (simp (disch := omega) only [evl, Nat.reduceEqDiff, Nat.reduceAdd, reduceIte, reduceCtorEq, h3] <;> exact rfl) | exact rfl)), hp, hr2, hyl, by omega, htk⟩
            · exact ⟨k, 1, xs, rfl, Nat.le_refl _, by omega, Nat.le_refl _, Nat.le_refl _, (by (first | (simp (disch := omega) only [evl, Nat.reduceEqDiff, Nat.reduceAdd, reduceIte, reduceCtorEq, h0] <;> exact rfl) | exact rfl)), (by (first | (simp (disch := omega) only [evl, Nat.reduceEqDiff, Nat.reduceAdd, reduceIte, reduceCtorEq, h3] <;> exact rfl) | exact rfl)), (by (first | (simp (disch := omega) only [evl, Nat.reduceEqDiff, Nat.reduceAdd, reduceIte, reduceCtorEq, h0, h3, hslo] <;> exact rfl) | exact rfl)), (by (first | (simp (disch := omega) only [evl, Nat.reduceEqDiff, Nat.reduceAdd, reduceIte, reduceCtorEq] <;> exact rfl) | exact rfl)), HP.refl _ _, hrow, rfl, hds.symm, fun j _ => rfl⟩
          · rintro ex T' H2 ⟨rfl, q, ys, h0, h3, hp, hr2, hyl, hqn, htk⟩
            have hsq : sliceF look 32 true false false [.sl i 0 xs.length xs.length true, .int .i64 (q : Int)] = some (.sl i q (xs.length - q) (xs.length - q) true) := sl_lo u32 z3 hqn
            have hsh : sliceF look 32 false true false [.sl i 0 xs.length xs.length true, .int .i64 (q : Int)] = some (.sl i 0 q xs.length true) := by
              have := sl_open (L := look) (t := 32) (e := 3) (z := 1) (i := i) (o := 0) (n := xs.length) (c := xs.length) (k := .i64) (m := (q : Int)) u32 z3 (by omega) (by omega) (by omega)
              rw [this, Int.toNat_natCast]
            obtain ⟨H3, zs, hcl, hr3, hzl, hz, hp3, hn3⟩ := clear_row (op := true) (c := xs.length - q) hr2 (hp.hide.trans hh) (by rw [hp.lo]; omega) (o := q) (m := xs.length - q) (by omega) (by omega)
            (repeat' (first | refine Z ?_ | refine Zq ?_ | refine rn_blk_x (by decide) ?_ | ((first | refine' Y ?_ ?_ | refine' X ?_ ?_ ?_); rotate_left; (· (first | (simp (disch := omega) only [evl, Nat.reduceEqDiff, Nat.reduceAdd, reduceIte, reduceCtorEq, h0, h3, hsq] <;> exact rfl) | exact rfl)); all_goals try (refine fun (hb : _ = _) => ?_; try simp only [Zu, ne_eq, reduceCtorEq] at hb)) | (apply rk_gd_u; · simp [evl])))
            apply rk_hn
            · (simp (disch := omega) only [evl, Nat.reduceEqDiff, Nat.reduceAdd, reduceIte, reduceCtorEq])
              exact hcl
            simp only [hOut_f]
            (repeat' (first | refine Z ?_ | refine Zq ?_ | refine rn_blk_x (by decide) ?_ | ((first | refine' Y ?_ ?_ | refine' X ?_ ?_ ?_); rotate_left; (· (first | (simp (disch := omega) only [evl, Nat.reduceEqDiff, Nat.reduceAdd, reduceIte, reduceCtorEq, h0, h3, hsh] <;> exact rfl) | exact rfl)); all_goals try (refine fun (hb : _ = _) => ?_; try simp only [Zu, ne_eq, reduceCtorEq] at hb)) | (apply rk_gd_u; · simp [evl])))
            refine rn_nil ?_; refine lpq_r ?_
            have hddl : (dd xs).length = q := by rw [← htk]; simp; omega
            refine .inr ⟨rfl, hp.trans hp3 (r := (· ≠ i)) fun i hi h => ⟨h, h⟩, ?_, q, ?_⟩
            · (simp (disch := omega) only [evl, Nat.reduceEqDiff, Nat.reduceAdd, reduceIte, reduceCtorEq, h0, h3, hsh])
              show SlR H3 _ (dd xs).length _
              rw [hddl]
              refine hr3.slR (by have := hp.next; omega) (Nat.zero_le _) fun j hj => ?_
              unfold iC
              rw [Nat.zero_add, List.getElem?_map, g_get (by omega), hz j hj, ← htk]
              show some (AV.int .i64 (g ys j)) = some (AV.int .i64 ((ys.take q).getD j 0))
              have e : (ys.take q).getD j 0 = g ys j := by
                unfold g
                rw [List.getD_eq_getElem?_getD, List.getElem?_take_of_lt hj]
                exact (List.getD_eq_getElem?_getD).symm
              rw [e]
            · (first | (simp (disch := omega) only [evl, Nat.reduceEqDiff, Nat.reduceAdd, reduceIte, reduceCtorEq, h0, h3, hsh] <;> exact rfl) | exact rfl)
        · rw [if_neg heq, hdd] at hds
          have Hds := Hd.mk hds
          clear hds hdd
          (repeat' (first | refine Z ?_ | refine Zq ?_ | refine rn_blk_x (by decide) ?_ | ((first | refine' Y ?_ ?_ | refine' X ?_ ?_ ?_); rotate_left; (· (first | (simp (disch := omega) only [evl, Nat.reduceEqDiff, Nat.reduceAdd, reduceIte, reduceCtorEq, h0, h3, hlens, hixA, hixB, hrdA, hrdB] <;> exact rfl) | exact rfl)); all_goals try (refine fun (hb : _ = _) => ?_; try simp only [Zu, ne_eq, reduceCtorEq] at hb)) | (apply rk_gd_u; · simp [evl])))
          refine rn_nil ?_; refine lpq_n (xs.length - (k + 1)) (by omega) ?_
          exact ⟨k + 1, rfl, by omega, by omega, (by (first | (simp (disch := omega) only [evl, Nat.reduceEqDiff, Nat.reduceAdd, reduceIte, reduceCtorEq, h0] <;> exact rfl) | exact rfl)), (by (first | (simp (disch := omega) only [evl, Nat.reduceEqDiff, Nat.reduceAdd, reduceIte, reduceCtorEq] <;> exact rfl) | exact rfl)), rfl, by rw [Hds.out]; exact (takeI xs hlt).symm⟩
      · (repeat' (first | refine Z ?_ | refine Zq ?_ | refine rn_blk_x (by decide) ?_ | ((first | refine' Y ?_ ?_ | refine' X ?_ ?_ ?_); rotate_left; (· (first | (simp (disch := omega) only [evl, Nat.reduceEqDiff, Nat.reduceAdd, reduceIte, reduceCtorEq, h0, h3, hlens] <;> exact rfl) | exact rfl)); all_goals try (refine fun (hb : _ = _) => ?_; try simp only [Zu, ne_eq, reduceCtorEq] at hb)) | (apply rk_gd_u; · simp [evl])))
        refine rn_nil ?_; refine lpq_e ?_
        obtain rfl : k = xs.length := by omega
        rw [List.take_length] at hdd
        exact .inl ⟨rfl, rfl, (by (first | (simp (disch := omega) only [evl, Nat.reduceEqDiff, Nat.reduceAdd, reduceIte, reduceCtorEq, h0] <;> exact rfl) | exact rfl)), hdd⟩
    · exact ⟨1, rfl, Nat.le_refl _, by omega, (by (first | (simp (disch := omega) only [evl, Nat.reduceEqDiff, Nat.reduceAdd, reduceIte, reduceCtorEq] <;> exact rfl) | exact rfl)), (by (first | (simp (disch := omega) only [evl, Nat.reduceEqDiff, Nat.reduceAdd, reduceIte, reduceCtorEq] <;> exact rfl) | exact rfl)), rfl, dd_one xs (by omega)⟩
  · rintro ex T' H' (⟨rfl, rfl, h0, hdd⟩ | ⟨rfl, hp, hsI, k, hk⟩)
    · (repeat' (first | refine Z ?_ | refine Zq ?_ | refine rn_blk_x (by decide) ?_ | ((first | refine' Y ?_ ?_ | refine' X ?_ ?_ ?_); rotate_left; (· (first | (simp (disch := omega) only [evl, Nat.reduceEqDiff, Nat.reduceAdd, reduceIte, reduceCtorEq, h0] <;> exact rfl) | exact rfl)); all_goals try (refine fun (hb : _ = _) => ?_; try simp only [Zu, ne_eq, reduceCtorEq] at hb)) | (apply rk_gd_u; · simp [evl])))
      refine rn_nil ?_; refine fq_ret (resV_1 _ _) ⟨HP.refl _ _, ?_, ?_⟩
      · rw [hdd]; (simp (disch := omega) only [evl, Nat.reduceEqDiff, Nat.reduceAdd, reduceIte, reduceCtorEq, h0]); exact hsl
      · intro i' o n c op hv; exact hvN i' o n c op (by have h := hv; revert h; (simp (disch := omega) only [evl, Nat.reduceEqDiff, Nat.reduceAdd, reduceIte, reduceCtorEq, h0]); exact id)
    · (repeat' (first | refine Z ?_ | refine Zq ?_ | refine rn_blk_x (by decide) ?_ | ((first | refine' Y ?_ ?_ | refine' X ?_ ?_ ?_); rotate_left; (· (first | (simp (disch := omega) only [evl, Nat.reduceEqDiff, Nat.reduceAdd, reduceIte, reduceCtorEq] <;> exact rfl) | exact rfl)); all_goals try (refine fun (hb : _ = _) => ?_; try simp only [Zu, ne_eq, reduceCtorEq] at hb)) | (apply rk_gd_u; · simp [evl])))
      refine rn_nil ?_; refine fq_ret (resV_1 _ _) ⟨hp.mono fun j _ h => by omega, hsI, ?_⟩
      intro i' o n c op hv
      rw [hk] at hv; cases hv; exact hNi
end PQ
end Go.Proofs.Ytnkomaedmblemaa

set_option linter.unusedSimpArgs false
set_option linter.unusedVariables false
set_option maxRecDepth 100000
namespace Go.Proofs.Ytnkomaedmblemaa
open Go.Ev Exl
open Ra Rb Rc Rd Re Rf Rg Rh Ri Rj Rk Rl Rm Rn Ro Rp Rq Rr
namespace PQ

/-! ### Sorted lists without doubles -/
theorem ddG_mem (x : Int) : ∀ (l : List Int) (p : Int), (x = p ∨ x ∈ ddG p l) ↔ (x = p ∨ x ∈ l)
  | [], p => by simp [ddG]
  | y :: l, p => by
    have ep : ddG p (y :: l) = if y = p then ddG p l else y :: ddG y l := rfl
    rw [ep]
    by_cases h : y = p
    · subst h
      rw [if_pos rfl, ddG_mem x l y, List.mem_cons]
      constructor
      · rintro (h | h)
        · exact .inl h
        · exact .inr (.inr h)
      · rintro (h | h | h)
        · exact .inl h
        · exact .inl h
        · exact .inr h
    · rw [if_neg h, List.mem_cons, List.mem_cons, ddG_mem x l y]
theorem dd_mem (x : Int) (l : List Int) : x ∈ dd l ↔ x ∈ l := by
  cases l with
  | nil => exact Iff.rfl
  | cons y l =>
    show x ∈ y :: ddG y l ↔ _
    rw [List.mem_cons, List.mem_cons]
    exact ddG_mem x l y
theorem ddG_strict : ∀ (l : List Int) (p : Int), List.Pairwise (· ≤ ·) (p :: l) → List.Pairwise (· < ·) (p :: ddG p l)
  | [], p, _ => by simp [ddG]
  | y :: l, p, h => by
    have ep : ddG p (y :: l) = if y = p then ddG p l else y :: ddG y l := rfl
    rw [ep]
    obtain ⟨h1, h2⟩ := List.pairwise_cons.1 h
    by_cases e : y = p
    · subst e
      rw [if_pos rfl]
      exact ddG_strict l y h2
    · rw [if_neg e]
      have ih := ddG_strict l y h2
      have hpy : p < y := by have := h1 y (List.mem_cons_self ..); omega
      refine List.pairwise_cons.2 ⟨fun z hz => ?_, ih⟩
      rcases List.mem_cons.1 hz with rfl | hz
      · exact hpy
      · have := (List.pairwise_cons.1 ih).1 z hz; omega
theorem dd_strict (l : List Int) (h : srt l 0 l.length) : ∀ s t, s < t → t < (dd l).length → g (dd l) s < g (dd l) t := by
  have hp : List.Pairwise (· ≤ ·) l := List.pairwise_iff_getElem.2 fun i j hi hj hij => by
    have := h i j (Nat.zero_le _) hij hj
    rwa [g_el hi, g_el hj] at this
  have hd : List.Pairwise (· < ·) (dd l) := by
    cases l with
    | nil => exact List.Pairwise.nil
    | cons y l => exact ddG_strict l y hp
  intro s t hst ht
  rw [g_el (by omega), g_el ht]
  exact (List.pairwise_iff_getElem.1 hd) s t (by omega) ht hst

theorem ddG_len : ∀ (l : List Int) (p : Int), (ddG p l).length ≤ l.length
  | [], p => Nat.le_refl _
  | y :: l, p => by
    have ep : ddG p (y :: l) = if y = p then ddG p l else y :: ddG y l := rfl
    rw [ep]
    split
    · have := ddG_len l p; simp; omega
    · have := ddG_len l y; simp; omega
theorem dd_len (l : List Int) : (dd l).length ≤ l.length := by
  cases l with
  | nil => exact Nat.le_refl _
  | cons y l => show (ddG y l).length + 1 ≤ l.length + 1; have := ddG_len l y; omega

/-! ### extent.Of -/
def OfP (H : AH) (xs : List Int) (r : AV) (H' : AH) : Prop :=
  HX H H' ∧ (((∃ x ∈ xs, x < 0 ∨ 4096 ≤ x) ∧ r = .tup [.nilSl, .int .i64 2]) ∨ ((∀ x ∈ xs, 0 ≤ x ∧ x < 4096) ∧ ∃ s out, r = .tup [s, .int .i64 0] ∧ Ap H' s out.length (exC out) 43 2 H.next ∧ Ok 0 out ∧ ∀ x, Has out x ↔ x ∈ xs))
/-- What is so when the first i have been put. -/
structure PutI (zs : List Int) (i : Nat) (out : List P) : Prop where
  ok : Ok 0 out
  en : endq 0 out ≤ (if i = 0 then 0 else g zs (i - 1) + 2)
  has : ∀ x, Has out x ↔ ∃ j, j < i ∧ g zs j = x
theorem Ok_bd2 {l : List P} : ∀ {fr : Int}, Ok fr l → 0 ≤ fr → (∀ q ∈ l, 0 ≤ q.1 ∧ q.1 ≤ 1000000 ∧ 0 ≤ q.2 ∧ q.2 ≤ 1000000) ∧ (l.length : Int) ≤ 4097 := by
  have h2 : ∀ {l : List P} {fr : Int}, Ok fr l → fr ≤ 4097 → (l.length : Int) ≤ 4097 - fr := by
    intro l
    induction l with
    | nil => intro fr _ h; simp; omega
    | cons p l ih =>
      intro fr h hfr
      obtain ⟨h1, h2, h3, h4, h5⟩ := h
      have := ih h5 (by omega)
      rw [List.length_cons, Int.natCast_add]; omega
  intro fr h hfr
  refine ⟨?_, ?_⟩
  · induction l generalizing fr with
    | nil => intro q hq; cases hq
    | cons p l ih =>
      intro q hq
      obtain ⟨h1, h2, h3, h4, h5⟩ := h
      rcases List.mem_cons.1 hq with rfl | hq
      · omega
      · exact ih h5 (by omega) q hq
  · cases l with
    | nil => simp
    | cons p l =>
      have h' := h
      obtain ⟨h1, h3, h4, h5, h6⟩ := h'
      have := h2 h (by omega); omega

set_option maxHeartbeats 8000000 in
theorem of_ok (H : AH) (v : AV) (xs : List Int) (hs : SlI H v xs) (hv : v.oneCell = true) (hh : H.hide = []) (hlo : H.lo ≤ H.next) (hl : xs.length ≤ 60000) :
    FnE look 27 [v] H (OfP H xs) := by
  refine fn_intro f27_eq (noext rfl) rfl ?_
  unfold f27c
  (repeat' (first | refine Z ?_ | refine Zq ?_ | refine rn_blk_x (by decide) ?_ | ((first | refine' Y ?_ ?_ | refine' X ?_ ?_ ?_); rotate_left; (· (first | (simp (disch := omega) only [evl, Nat.reduceEqDiff, Nat.reduceAdd, reduceIte, reduceCtorEq] <;> exact rfl) | exact rfl)); all_goals try (refine fun (hb : _ = _) => ?_; try simp only [Zu, ne_eq, reduceCtorEq] at hb)) | (apply rk_gd_u; · simp [evl])))
  refine rk_cl (by (simp (disch := omega) only [evl, Nat.reduceEqDiff, Nat.reduceAdd, reduceIte, reduceCtorEq]); exact values_ok H v hh hv) ?_
  rintro r H1 ⟨rfl, hx1, hn1, hr1⟩
  simp only [hOut_f]
  (repeat' (first | refine Z ?_ | refine Zq ?_ | refine rn_blk_x (by decide) ?_ | ((first | refine' Y ?_ ?_ | refine' X ?_ ?_ ?_); rotate_left; (· (first | (simp (disch := omega) only [evl, Nat.reduceEqDiff, Nat.reduceAdd, reduceIte, reduceCtorEq] <;> exact rfl) | exact rfl)); all_goals try (refine fun (hb : _ = _) => ?_; try simp only [Zu, ne_eq, reduceCtorEq] at hb)) | (apply rk_gd_u; · simp [evl])))
  refine rk_cl (by (simp (disch := omega) only [evl, Nat.reduceEqDiff, Nat.reduceAdd, reduceIte, reduceCtorEq]); exact sorted_ok H1 v xs H.next (hs.hx hx1) hr1 (by omega) (by rw [hx1.lo]; omega) (hx1.hide.trans hh) hl) ?_
  rintro r H2 ⟨hx2, ys, hap2, hperm, hsrt⟩
  simp only [hOut_f]
  have hxA := hx1.trans hx2
  have hyl := hperm.length_eq
  have hnA := hxA.next
  (repeat' (first | refine Z ?_ | refine Zq ?_ | refine rn_blk_x (by decide) ?_ | ((first | refine' Y ?_ ?_ | refine' X ?_ ?_ ?_); rotate_left; (· (first | (simp (disch := omega) only [evl, Nat.reduceEqDiff, Nat.reduceAdd, reduceIte, reduceCtorEq] <;> exact rfl) | exact rfl)); all_goals try (refine fun (hb : _ = _) => ?_; try simp only [Zu, ne_eq, reduceCtorEq] at hb)) | (apply rk_gd_u; · simp [evl])))
  refine rk_cl (by (simp (disch := omega) only [evl, Nat.reduceEqDiff, Nat.reduceAdd, reduceIte, reduceCtorEq]); exact compact_ok H2 r ys H1.next hap2 (by rw [hxA.lo]; omega) (hxA.hide.trans hh) (by omega)) ?_
  rintro r3 H3 ⟨hp3, hs3, hb3⟩
  simp only [hOut_f]
  have hxB : HX H H3 := ((hxA.hp fun _ => True).trans hp3 (r := fun _ => True) fun j hj _ => ⟨trivial, by omega⟩).hx fun _ _ => trivial
  have hnB := hxB.next
  have hmem : ∀ x, x ∈ dd ys ↔ x ∈ xs := fun x => (dd_mem x ys).trans hperm.mem_iff
  have hstr := dd_strict ys hsrt
  have hzl := dd_len ys
  generalize dd ys = zs at *
  have hlz := fun H' => len_el (H' := H') u32 hs3.is
  have hix := @ix_el _ _ _ hs3.is
  have hr3N : ∀ i o n c op, r3 = .sl i o n c op → H1.next ≤ i ∧ i < H3.next := fun i o n c op hv => by
    refine ⟨hb3 i o n c op hv, ?_⟩
    rcases hs3.is with ⟨h, _⟩ | ⟨i', o', c', op', h, hi, _⟩
    · rw [h] at hv; cases hv
    · rw [h] at hv; cases hv; exact hi
  -- what comes when all are within bounds
  have rest : (∀ x ∈ xs, 0 ≤ x ∧ x < 4096) → ∀ T : Tr AV, gT T 4 = r3 → gT T 2 = .nilSl →
      RC look (.seq (.reg f27r4) (.seq (.seq (.reg f27r5) (.block 0 (.loop f27b0))) (.seq (.reg f27r10) .ret))) [] T H3 (FnQ look [.tmp 2, .tmp 3] (OfP H xs)) := by
    intro hall T t4 t2
    have hzb : ∀ j, j < zs.length → 0 ≤ g zs j ∧ g zs j < 4096 := fun j hj => hall _ ((hmem _).1 (g_mem hj))
    (repeat' (first | refine Z ?_ | refine Zq ?_ | refine rn_blk_x (by decide) ?_ | ((first | refine' Y ?_ ?_ | refine' X ?_ ?_ ?_); rotate_left; (· (first | (simp (disch := omega) only [evl, Nat.reduceEqDiff, Nat.reduceAdd, reduceIte, reduceCtorEq] <;> exact rfl) | exact rfl)); all_goals try (refine fun (hb : _ = _) => ?_; try simp only [Zu, ne_eq, reduceCtorEq] at hb)) | (apply rk_gd_u; · simp [evl])))
    refine rk_cl (by (simp (disch := omega) only [evl, Nat.reduceEqDiff, Nat.reduceAdd, reduceIte, reduceCtorEq]); exact joins_ok H3 (hxB.hide.trans hh) (by rw [hxB.lo]; omega)) ?_
    rintro r H4 ⟨rfl, hx4, hn4, hr4⟩
    simp only [hOut_f]
    have hs4 : SlI H4 r3 zs := hs3.hx hx4
    (repeat' (first | refine Z ?_ | refine Zq ?_ | refine rn_blk_x (by decide) ?_ | ((first | refine' Y ?_ ?_ | refine' X ?_ ?_ ?_); rotate_left; (· (first | (simp (disch := omega) only [evl, Nat.reduceEqDiff, Nat.reduceAdd, reduceIte, reduceCtorEq, t4, hlz] <;> exact rfl) | exact rfl)); all_goals try (refine fun (hb : _ = _) => ?_; try simp only [Zu, ne_eq, reduceCtorEq] at hb)) | (apply rk_gd_u; · simp [evl])))
    refine rc_loop (R := fun ex T' H' => ex = .exit 0 ∧ gT T' 5 = .ptr H3.next 0 ∧ HP (fun j => j < H4.next ∧ j ≠ H3.next) H4 H' ∧ ∃ out s, Row H' H3.next false false 22 1 [s] ∧ Ap H' s out.length (exC out) 43 2 H4.next ∧ PutI zs zs.length out) ?_ ?_
    · refine lp_ind f27l0_eq (fun k T H' => ∃ (i : Nat) (out : List P) (s : AV), k = zs.length - i ∧ i ≤ zs.length ∧ gT T 5 = .ptr H3.next 0 ∧ gT T 6 = .fn (.func 56) [] [.ptr H3.next 0] ∧ gT T 35 = r3 ∧ gT T 36 = .int .i64 zs.length ∧ gT T 37 = .int .i64 i ∧ HP (fun j => j < H4.next ∧ j ≠ H3.next) H4 H' ∧ Row H' H3.next false false 22 1 [s] ∧ Ap H' s out.length (exC out) 43 2 H4.next ∧ PutI zs i out) _ ?_ zs.length _ _ ?_
      · intro k T H5 hI
        obtain ⟨i, out, s, hk, hi, h5, h6, h35, h36, h37, hp, hrow, hap, hpi⟩ := hI
        unfold f27l0
        by_cases hlt : i < zs.length
        · have hixI := hix (k := .i64) (e := (i : Int)) (z := 1) (by omega) (by omega)
          rw [Int.toNat_natCast] at hixI
          have hel : ld1 (elA 1 r3 i) H5 = some (.int .i64 (g zs i)) := by
            have h := hs4.el i hlt
            rcases hs3.is with ⟨rfl, h0⟩ | ⟨i', o, c, op, rfl, hi', _⟩
            · omega
            · have h : ld1 (.ptr i' (o + i * 1)) H4 = some (.int .i64 (g zs i)) := h
              show ld1 (.ptr i' (o + i * 1)) H5 = _
              rw [ld1_get] at h ⊢
              unfold AH.read1 AH.row at h ⊢
              rw [hp.get (by omega) ⟨by omega, by omega⟩]; exact h
          have hb := hzb i hlt
          obtain ⟨hbd, hol⟩ := Ok_bd2 hpi.ok (Int.le_refl _)
          have hen : endq 0 out ≤ g zs i + 1 := by
            have := hpi.en
            by_cases h0 : i = 0
            · rw [if_pos h0] at this; omega
            · rw [if_neg h0] at this
              have := hstr (i - 1) i (by omega) hlt
              omega
          obtain ⟨p1, p2, p3⟩ := put_law (a := g zs i) (s := 1) hpi.ok hen hb.1 (by omega) (by omega)
          have hnx := hp.next
          (repeat' (first | refine Z ?_ | refine Zq ?_ | refine rn_blk_x (by decide) ?_ | ((first | refine' Y ?_ ?_ | refine' X ?_ ?_ ?_); rotate_left; (· (first | (simp (disch := omega) only [evl, Nat.reduceEqDiff, Nat.reduceAdd, reduceIte, reduceCtorEq, h35, h36, h37, hixI, hel] <;> exact rfl) | exact rfl)); all_goals try (refine fun (hb : _ = _) => ?_; try simp only [Zu, ne_eq, reduceCtorEq] at hb)) | (apply rk_gd_u; · simp [evl])))
          refine rk_cn (g := 56) (args := [.int .i64 (g zs i), .int .i64 1, .ptr H3.next 0]) (by (simp (disch := omega) only [evl, Nat.reduceEqDiff, Nat.reduceAdd, reduceIte, reduceCtorEq, h6]); rfl) (put_ok H5 s out (g zs i) 1 H3.next H4.next hrow hap (by omega) (by omega) (by rw [hp.lo, hx4.lo, hxB.lo]; omega) (hp.hide.trans (hx4.hide.trans (hxB.hide.trans hh))) (by omega) hbd (by omega) (by omega)) ?_
          rintro r H6 ⟨s', hr6, hap6, hp6⟩
          simp only [hOut_f]
          (repeat' (first | refine Z ?_ | refine Zq ?_ | refine rn_blk_x (by decide) ?_ | ((first | refine' Y ?_ ?_ | refine' X ?_ ?_ ?_); rotate_left; (· (first | (simp (disch := omega) only [evl, Nat.reduceEqDiff, Nat.reduceAdd, reduceIte, reduceCtorEq, h37] <;> exact rfl) | exact rfl)); all_goals try (refine fun (hb : _ = _) => ?_; try simp only [Zu, ne_eq, reduceCtorEq] at hb)) | (apply rk_gd_u; · simp [evl])))
          refine rn_nil ?_; refine lpq_n (zs.length - (i + 1)) (by omega) ?_
          refine ⟨i + 1, _, s', rfl, by omega, (by (first | (simp (disch := omega) only [evl, Nat.reduceEqDiff, Nat.reduceAdd, reduceIte, reduceCtorEq, h5] <;> exact rfl) | exact rfl)), (by (first | (simp (disch := omega) only [evl, Nat.reduceEqDiff, Nat.reduceAdd, reduceIte, reduceCtorEq, h6] <;> exact rfl) | exact rfl)), (by (first | (simp (disch := omega) only [evl, Nat.reduceEqDiff, Nat.reduceAdd, reduceIte, reduceCtorEq, h35] <;> exact rfl) | exact rfl)), (by (first | (simp (disch := omega) only [evl, Nat.reduceEqDiff, Nat.reduceAdd, reduceIte, reduceCtorEq, h36] <;> exact rfl) | exact rfl)), (by (first | (simp (disch := omega) only [evl, Nat.reduceEqDiff, Nat.reduceAdd, reduceIte, reduceCtorEq] <;> exact rfl) | exact rfl)), hp.trans hp6 fun j hj h => ⟨h, h⟩, hr6, hap6, p1, ?_, fun x => ?_⟩
          · rw [if_neg (by omega), p2, show i + 1 - 1 = i from by omega]; omega
          · rw [p3, hpi.has]
            constructor
            · rintro (⟨j, h1, h2⟩ | h)
              · exact ⟨j, by omega, h2⟩
              · exact ⟨i, by omega, by omega⟩
            · rintro ⟨j, h1, h2⟩
              by_cases e : j = i
              · subst e; exact .inr (by omega)
              · exact .inl ⟨j, by omega, h2⟩
        · (repeat' (first | refine Z ?_ | refine Zq ?_ | refine rn_blk_x (by decide) ?_ | ((first | refine' Y ?_ ?_ | refine' X ?_ ?_ ?_); rotate_left; (· (first | (simp (disch := omega) only [evl, Nat.reduceEqDiff, Nat.reduceAdd, reduceIte, reduceCtorEq, h36, h37] <;> exact rfl) | exact rfl)); all_goals try (refine fun (hb : _ = _) => ?_; try simp only [Zu, ne_eq, reduceCtorEq] at hb)) | (apply rk_gd_u; · simp [evl])))
          refine rn_nil ?_; refine lpq_e ?_
          obtain rfl : i = zs.length := by omega
          exact ⟨rfl, (by (first | (simp (disch := omega) only [evl, Nat.reduceEqDiff, Nat.reduceAdd, reduceIte, reduceCtorEq, h5] <;> exact rfl) | exact rfl)), hp, out, s, hrow, hap, hpi⟩
      · exact ⟨0, [], .nilSl, by omega, Nat.zero_le _, (by (first | (simp (disch := omega) only [evl, Nat.reduceEqDiff, Nat.reduceAdd, reduceIte, reduceCtorEq] <;> exact rfl) | exact rfl)), (by (first | (simp (disch := omega) only [evl, Nat.reduceEqDiff, Nat.reduceAdd, reduceIte, reduceCtorEq] <;> exact rfl) | exact rfl)), (by (first | (simp (disch := omega) only [evl, Nat.reduceEqDiff, Nat.reduceAdd, reduceIte, reduceCtorEq, t4] <;> exact rfl) | exact rfl)), (by (first | (simp (disch := omega) only [evl, Nat.reduceEqDiff, Nat.reduceAdd, reduceIte, reduceCtorEq, t4, hlz] <;> exact rfl) | exact rfl)), (by (first | (simp (disch := omega) only [evl, Nat.reduceEqDiff, Nat.reduceAdd, reduceIte, reduceCtorEq] <;> exact rfl) | exact rfl)), HP.refl _ _, hr4, Ap.nil _ _ _ _, trivial, by rw [if_pos rfl]; show (0 : Int) ≤ 0; omega, fun x => ⟨fun h => absurd h (Has_nil x), fun ⟨j, h, _⟩ => by omega⟩⟩
    · rintro ex T' H5 ⟨rfl, h5, hp, out, s, hrow, hap, hpi⟩
      have hbk : ld1 (.ptr H3.next 0) H5 = some s := hrow.rd rfl
      (repeat' (first | refine Z ?_ | refine Zq ?_ | refine rn_blk_x (by decide) ?_ | ((first | refine' Y ?_ ?_ | refine' X ?_ ?_ ?_); rotate_left; (· (first | (simp (disch := omega) only [evl, Nat.reduceEqDiff, Nat.reduceAdd, reduceIte, reduceCtorEq, h5, hbk] <;> exact rfl) | exact rfl)); all_goals try (refine fun (hb : _ = _) => ?_; try simp only [Zu, ne_eq, reduceCtorEq] at hb)) | (apply rk_gd_u; · simp [evl])))
      refine rn_nil ?_; refine fq_ret (resV_2 _ _ _) ⟨(((hxB.trans hx4).hp fun _ => True).trans hp (r := fun _ => True) fun j hj _ => ⟨trivial, by omega, by omega⟩).hx fun _ _ => trivial, .inr ⟨hall, s, out, ?_, Ap.le hap (by omega), hpi.ok, fun x => ?_⟩⟩
      · (simp (disch := omega) only [evl, Nat.reduceEqDiff, Nat.reduceAdd, reduceIte, reduceCtorEq, h5, hbk])
      · rw [hpi.has, ← hmem]
        constructor
        · rintro ⟨j, h1, rfl⟩; exact g_mem h1
        · intro h
          obtain ⟨j, h1, h2⟩ := List.mem_iff_getElem.1 h
          exact ⟨j, h1, by rw [g_el h1]; exact h2⟩
  have Rest := Hd.mk rest
  clear rest
  by_cases h0 : zs.length = 0
  · have hz : zs = [] := List.eq_nil_of_length_eq_zero h0
    have hall : ∀ x ∈ xs, 0 ≤ x ∧ x < 4096 := fun x hx => by
      have := (hmem x).2 hx
      rw [hz] at this; cases this
    (repeat' (first | refine Z ?_ | refine rn_blk_x (by decide) ?_ | ((first | refine' Y ?_ ?_ | refine' X ?_ ?_ ?_); rotate_left; (· (first | (simp (disch := omega) only [evl, Nat.reduceEqDiff, Nat.reduceAdd, reduceIte, reduceCtorEq, hlz] <;> exact rfl) | exact rfl)); all_goals try (refine fun (hb : _ = _) => ?_; try simp only [Zu, ne_eq, reduceCtorEq] at hb)) | (apply rk_gd_u; · simp [evl])))
    refine rn_seq_n ?_
    (repeat' (first | refine Z ?_ | refine rn_blk_x (by decide) ?_ | ((first | refine' Y ?_ ?_ | refine' X ?_ ?_ ?_); rotate_left; (· (first | (simp (disch := omega) only [evl, Nat.reduceEqDiff, Nat.reduceAdd, reduceIte, reduceCtorEq, hlz] <;> exact rfl) | exact rfl)); all_goals try (refine fun (hb : _ = _) => ?_; try simp only [Zu, ne_eq, reduceCtorEq] at hb)) | (apply rk_gd_u; · simp [evl])))
    refine rn_seq_n ?_
    (repeat' (first | refine Z ?_ | refine rn_blk_x (by decide) ?_ | ((first | refine' Y ?_ ?_ | refine' X ?_ ?_ ?_); rotate_left; (· (first | (simp (disch := omega) only [evl, Nat.reduceEqDiff, Nat.reduceAdd, reduceIte, reduceCtorEq, hlz] <;> exact rfl) | exact rfl)); all_goals try (refine fun (hb : _ = _) => ?_; try simp only [Zu, ne_eq, reduceCtorEq] at hb)) | (apply rk_gd_u; · simp [evl])))
    refine rn_seq_n ?_
    exact Rest.out hall _ (by (first | (simp (disch := omega) only [evl, Nat.reduceEqDiff, Nat.reduceAdd, reduceIte, reduceCtorEq] <;> exact rfl) | exact rfl)) (by (first | (simp (disch := omega) only [evl, Nat.reduceEqDiff, Nat.reduceAdd, reduceIte, reduceCtorEq] <;> exact rfl) | exact rfl))
  · have hix0 : ixS 1 r3 (.int .i64 0) = some (elA 1 r3 0) := hix (k := .i64) (e := 0) (z := 1) (by omega) (by omega)
    have hixL := hix (k := .i64) (e := (zs.length : Int) - 1) (z := 1) (by omega) (by omega)
    rw [show ((zs.length : Int) - 1).toNat = zs.length - 1 from by omega] at hixL
    have hel0 : ld1 (elA 1 r3 0) H3 = some (.int .i64 (g zs 0)) := hs3.el 0 (by omega)
    have helL : ld1 (elA 1 r3 (zs.length - 1)) H3 = some (.int .i64 (g zs (zs.length - 1))) := hs3.el _ (by omega)
    have hm0 := (hmem _).1 (g_mem (xs := zs) (k := 0) (by omega))
    have hmL := (hmem _).1 (g_mem (xs := zs) (k := zs.length - 1) (by omega))
    have hbetw : ∀ x ∈ xs, g zs 0 ≤ x ∧ x ≤ g zs (zs.length - 1) := fun x hx => by
      obtain ⟨j, h1, h2⟩ := List.mem_iff_getElem.1 ((hmem x).2 hx)
      rw [← g_el h1] at h2
      subst h2
      constructor
      · by_cases e : j = 0
        · subst e; exact Int.le_refl _
        · have := hstr 0 j (by omega) h1; omega
      · by_cases e : j = zs.length - 1
        · rw [e]; exact Int.le_refl _
        · have := hstr j (zs.length - 1) (by omega) (by omega); omega
    by_cases hneg : g zs 0 < 0
    · (repeat' (first | refine Z ?_ | refine Zq ?_ | refine rn_blk_x (by decide) ?_ | ((first | refine' Y ?_ ?_ | refine' X ?_ ?_ ?_); rotate_left; (· (first | (simp (disch := omega) only [evl, Nat.reduceEqDiff, Nat.reduceAdd, reduceIte, reduceCtorEq, hlz, hix0, hel0] <;> exact rfl) | exact rfl)); all_goals try (refine fun (hb : _ = _) => ?_; try simp only [Zu, ne_eq, reduceCtorEq] at hb)) | (apply rk_gd_u; · simp [evl])))
      refine rn_nil ?_; refine fq_ret (resV_2 _ _ _) ⟨hxB, .inl ⟨⟨_, hm0, .inl hneg⟩, ?_⟩⟩
      (simp (disch := omega) only [evl, Nat.reduceEqDiff, Nat.reduceAdd, reduceIte, reduceCtorEq])
    by_cases hbig : 4096 ≤ g zs (zs.length - 1)
    · (repeat' (first | refine Z ?_ | refine Zq ?_ | refine rn_blk_x (by decide) ?_ | ((first | refine' Y ?_ ?_ | refine' X ?_ ?_ ?_); rotate_left; (· (first | (simp (disch := omega) only [evl, Nat.reduceEqDiff, Nat.reduceAdd, reduceIte, reduceCtorEq, hlz, hix0, hel0, hixL, helL] <;> exact rfl) | exact rfl)); all_goals try (refine fun (hb : _ = _) => ?_; try simp only [Zu, ne_eq, reduceCtorEq] at hb)) | (apply rk_gd_u; · simp [evl])))
      refine rn_nil ?_; refine fq_ret (resV_2 _ _ _) ⟨hxB, .inl ⟨⟨_, hmL, .inr hbig⟩, ?_⟩⟩
      (simp (disch := omega) only [evl, Nat.reduceEqDiff, Nat.reduceAdd, reduceIte, reduceCtorEq])
    · (repeat' (first | refine Z ?_ | refine rn_blk_x (by decide) ?_ | ((first | refine' Y ?_ ?_ | refine' X ?_ ?_ ?_); rotate_left; (· (first | (simp (disch := omega) only [evl, Nat.reduceEqDiff, Nat.reduceAdd, reduceIte, reduceCtorEq, hlz, hix0, hel0, hixL, helL] <;> exact rfl) | exact rfl)); all_goals try (refine fun (hb : _ = _) => ?_; try simp only [Zu, ne_eq, reduceCtorEq] at hb)) | (apply rk_gd_u; · simp [evl])))
      refine rn_seq_n ?_
      (repeat' (first | refine Z ?_ | refine rn_blk_x (by decide) ?_ | ((first | refine' Y ?_ ?_ | refine' X ?_ ?_ ?_); rotate_left; (· (first | (simp (disch := omega) only [evl, Nat.reduceEqDiff, Nat.reduceAdd, reduceIte, reduceCtorEq, hlz, hix0, hel0, hixL, helL] <;> exact rfl) | exact rfl)); all_goals try (refine fun (hb : _ = _) => ?_; try simp only [Zu, ne_eq, reduceCtorEq] at hb)) | (apply rk_gd_u; · simp [evl])))
      refine rn_seq_n ?_
      (repeat' (first | refine Z ?_ | refine rn_blk_x (by decide) ?_ | ((first | refine' Y ?_ ?_ | refine' X ?_ ?_ ?_); rotate_left; (· (first | (simp (disch := omega) only [evl, Nat.reduceEqDiff, Nat.reduceAdd, reduceIte, reduceCtorEq, hlz, hix0, hel0, hixL, helL] <;> exact rfl) | exact rfl)); all_goals try (refine fun (hb : _ = _) => ?_; try simp only [Zu, ne_eq, reduceCtorEq] at hb)) | (apply rk_gd_u; · simp [evl])))
      refine rn_seq_n ?_
      exact Rest.out (fun x hx => by have := hbetw x hx; omega) _ (by (first | (simp (disch := omega) only [evl, Nat.reduceEqDiff, Nat.reduceAdd, reduceIte, reduceCtorEq] <;> exact rfl) | exact rfl)) (by (first | (simp (disch := omega) only [evl, Nat.reduceEqDiff, Nat.reduceAdd, reduceIte, reduceCtorEq] <;> exact rfl) | exact rfl))
end PQ
end Go.Proofs.Ytnkomaedmblemaa

set_option linter.unusedSimpArgs false
set_option linter.unusedVariables false
set_option maxRecDepth 100000
namespace Go.Proofs.Ytnkomaedmblemaa
open Go.Ev Exl
open Ra Rb Rc Rd Re Rf Rg Rh Ri Rj Rk Rl Rm Rn Ro Rp Rq Rr
namespace PQ

theorem b3 : look.bytes 3 = some 8 := by kernel_rfl

def lentCInts (l : List Int) (i : Nat) : List AV := (List.range (l.length + 3)).map fun k => if k < l.length then ints l k else if k < i then .int .i64 (-77 - (k : Int)) else .int .i64 0
theorem lentCInts_len (l : List Int) (i : Nat) : (lentCInts l i).length = l.length + 3 := by simp [lentCInts]
theorem lentCInts_get (l : List Int) (i k : Nat) (hk : k < l.length + 3) : (lentCInts l i)[k]? = some (if k < l.length then ints l k else if k < i then .int .i64 (-77 - (k : Int)) else .int .i64 0) := by
  simp [lentCInts, hk]
theorem lentCInts_set (l : List Int) (k : Nat) (h : l.length ≤ k) (h2 : k < l.length + 3) : (lentCInts l k).set k (.int .i64 (-77 - (k : Int))) = lentCInts l (k + 1) := by
  refine List.ext_getElem? fun j => ?_
  rw [List.getElem?_set]
  by_cases hj : j < l.length + 3
  · rw [lentCInts_get l k j hj, lentCInts_get l (k + 1) j hj, lentCInts_len]
    by_cases hjk : k = j
    · subst hjk
      rw [if_pos rfl, if_pos h2, if_neg (by omega), if_pos (by omega)]
    · rw [if_neg hjk]
      by_cases h3 : j < l.length
      · rw [if_pos h3, if_pos h3]
      · rw [if_neg h3, if_neg h3]
        by_cases h4 : j < k
        · rw [if_pos h4, if_pos (by omega)]
        · rw [if_neg h4, if_neg (by omega)]
  · rw [if_neg (by omega), List.getElem?_eq_none (by rw [lentCInts_len]; omega), List.getElem?_eq_none (by rw [lentCInts_len]; omega)]

theorem lentInts_ok (H : AH) (v : AV) (l : List Int) (hs : SlI H v l) (hh : H.hide = []) (hlo : H.lo ≤ H.next) (hl : l.length ≤ 1000000) :
    FnE look 24 [v] H fun r H' => r = .sl H.next 0 l.length (l.length + 3) false ∧ HX H H' ∧ H'.next = H.next + 1 ∧ Row H' H.next false false 3 1 (lentCInts l (l.length + 3)) := by
  refine fn_intro f24_eq (noext rfl) rfl ?_
  unfold f24c
  have hlen := fun H' => len_el (H' := H') u32 hs.is
  (repeat' (first | refine Z ?_ | refine Zq ?_ | refine rn_blk_x (by decide) ?_ | ((first | refine' Y ?_ ?_ | refine' X ?_ ?_ ?_); rotate_left; (· (first | (simp (disch := omega) only [evl, Nat.reduceEqDiff, Nat.reduceAdd, reduceIte, reduceCtorEq, hlen] <;> exact rfl) | exact rfl)); all_goals try (refine fun (hb : _ = _) => ?_; try simp only [Zu, ne_eq, reduceCtorEq] at hb)) | (apply rk_gd_u; · simp [evl])))
  have ht3 : ((l.length : Int) + 3).toNat = l.length + 3 := by omega
  obtain ⟨H1, hmk, hx1, hn1, hr1⟩ := mk_sl (H := H) (k := .i64) (k' := .i64) (n := (l.length : Int) + 3) (m := (l.length : Int) + 3) u32 b3 n3 z3 rfl hh (by omega) (by omega) (by omega) (by omega)
  apply rk_hn
  · (simp (disch := omega) only [evl, Nat.reduceEqDiff, Nat.reduceAdd, reduceIte, reduceCtorEq])
    exact hmk
  simp only [hOut_f]
  have hs1 := hs.hx hx1
  rw [show AV.cells (.int .i64 0) = [.int .i64 0] from rfl, rep_one] at hr1
  (repeat' (first | refine Z ?_ | refine Zq ?_ | refine rn_blk_x (by decide) ?_ | ((first | refine' Y ?_ ?_ | refine' X ?_ ?_ ?_); rotate_left; (· (first | (simp (disch := omega) only [evl, Nat.reduceEqDiff, Nat.reduceAdd, reduceIte, reduceCtorEq, hlen, ht3] <;> exact rfl) | exact rfl)); all_goals try (refine fun (hb : _ = _) => ?_; try simp only [Zu, ne_eq, reduceCtorEq] at hb)) | (apply rk_gd_u; · simp [evl])))
  obtain ⟨new, hnew, hnl⟩ := hs1.src
  have hone : new.one = true := one_of_l (by rw [hnl]; simp [AV.oneCell])
  have hm : minN l.length (l.length + 3) = l.length := by unfold minN; rw [Nat.ble_eq_true_of_le (by omega)]
  have hm0 : minN l.length l.length = l.length := by unfold minN; rw [Nat.ble_eq_true_of_le (by omega)]
  have hhide1 : H1.hide = [] := hx1.hide.trans hh
  have hlo1 : H1.lo ≤ H.next := by rw [hx1.lo]; exact hlo
  have hnlen : new.l.length = l.length := by rw [hnl]; simp
  obtain ⟨H2, hcp, hr2, hp2, hn2⟩ := cp_row (ts := []) (t' := 32) (i := H.next) (o := 0) (n := l.length + 3) (c := l.length + 3) (op := false) u32 z3 hs1.is.lenOf (by rw [hm]; exact hnew) hr1 hhide1 hlo1 hone (by rw [hnlen]; simp [ht3])
  apply rk_hn
  · (simp (disch := omega) only [evl, Nat.reduceEqDiff, Nat.reduceAdd, reduceIte, reduceCtorEq, ht3])
    exact hcp
  simp only [hOut_f]
  have hx2 : HX H H2 := ((hx1.hp fun _ => True).trans hp2 (r := fun _ => True) (fun i hi _ => ⟨trivial, by omega⟩)).hx fun _ _ => trivial
  have hrow2 : Row H2 H.next false false 3 1 (lentCInts l l.length) := by
    refine (show lentCInts l l.length = _ from ?_) ▸ hr2
    refine List.ext_getElem? fun j => ?_
    rw [hnl]
    simp only [List.take_zero, List.nil_append, Nat.zero_add, List.length_map, List.length_range, List.drop_replicate, ht3]
    by_cases hj : j < l.length + 3
    · rw [lentCInts_get _ _ _ hj]
      by_cases hj2 : j < l.length
      · rw [if_pos hj2, List.getElem?_append_left (by simpa using hj2)]; simp [hj2]
      · rw [if_neg hj2, if_neg hj2, List.getElem?_append_right (by simp; omega)]
        rw [List.getElem?_replicate, if_pos (by simp; omega)]
    · rw [List.getElem?_eq_none (by rw [lentCInts_len]; omega), List.getElem?_eq_none (by simp; omega)]
  clear hr2 hcp hnew hs1 hr1
  (repeat' (first | refine Z ?_ | refine Zq ?_ | refine rn_blk_x (by decide) ?_ | ((first | refine' Y ?_ ?_ | refine' X ?_ ?_ ?_); rotate_left; (· (first | (simp (disch := omega) only [evl, Nat.reduceEqDiff, Nat.reduceAdd, reduceIte, reduceCtorEq, hlen, ht3] <;> exact rfl) | exact rfl)); all_goals try (refine fun (hb : _ = _) => ?_; try simp only [Zu, ne_eq, reduceCtorEq] at hb)) | (apply rk_gd_u; · simp [evl])))
  refine rc_loop (R := fun ex T' H' => ex = .exit 0 ∧ HX H H' ∧ H'.next = H.next + 1 ∧ Row H' H.next false false 3 1 (lentCInts l (l.length + 3)) ∧ gT T' 3 = .sl H.next 0 (l.length + 3) (l.length + 3) false ∧ gT T' 0 = v) ?_ ?_
  · refine lp_ind f24l0_eq (fun k T H' => ∃ i : Nat, k = l.length + 3 - i ∧ l.length ≤ i ∧ i ≤ l.length + 3 ∧ gT T 0 = v ∧ gT T 3 = .sl H.next 0 (l.length + 3) (l.length + 3) false ∧ gT T 4 = .int .i64 i ∧ HX H H' ∧ H'.next = H.next + 1 ∧ Row H' H.next false false 3 1 (lentCInts l i)) _ ?_ 3 _ _ ?_
    · intro k T H' hI
      obtain ⟨i, hk, hi0, hi, h0, h3, h4, hxx, hnx, hrow⟩ := hI
      unfold f24l0
      have his := hrow.isSl (o := 0) (n := l.length + 3) (c := l.length + 3) (op' := false) (by omega) (by omega)
      have hlen2 := fun H'' => len_el (H' := H'') u32 his
      have hix := @ix_el _ _ _ his
      by_cases hlt : i < l.length + 3
      · (repeat' (first | refine Z ?_ | refine Zq ?_ | refine rn_blk_x (by decide) ?_ | ((first | refine' Y ?_ ?_ | refine' X ?_ ?_ ?_); rotate_left; (· (first | (simp (disch := omega) only [evl, Nat.reduceEqDiff, Nat.reduceAdd, reduceIte, reduceCtorEq, h0, h3, h4, hlen2, hix] <;> exact rfl) | exact rfl)); all_goals try (refine fun (hb : _ = _) => ?_; try simp only [Zu, ne_eq, reduceCtorEq] at hb)) | (apply rk_gd_u; · simp [evl])))
        obtain ⟨H3, hst, hr3, hp3, hn3⟩ := hrow.st1 (k := i) (L := look) (t := 3) (v := (fun k : Nat => (.int .i64 (-77 - (k : Int)) : AV)) i) (hxx.hide.trans hh) (by rw [hxx.lo]; omega) z3 rfl (by rw [lentCInts_len]; omega)
        apply rk_st
        · (simp (disch := omega) only [evl, Nat.reduceEqDiff, Nat.reduceAdd, reduceIte, reduceCtorEq, hix, h3, h4])
          skip
          exact hst
        simp only [hOut_f]
        rw [lentCInts_set l i hi0 hlt] at hr3
        have hx3 : HX H H3 := ((hxx.hp fun _ => True).trans hp3 (r := fun _ => True) (fun j hj _ => ⟨trivial, by omega⟩)).hx fun _ _ => trivial
        (repeat' (first | refine Z ?_ | refine Zq ?_ | refine rn_blk_x (by decide) ?_ | ((first | refine' Y ?_ ?_ | refine' X ?_ ?_ ?_); rotate_left; (· (first | (simp (disch := omega) only [evl, Nat.reduceEqDiff, Nat.reduceAdd, reduceIte, reduceCtorEq, h0, h3, h4, hlen2, hix] <;> exact rfl) | exact rfl)); all_goals try (refine fun (hb : _ = _) => ?_; try simp only [Zu, ne_eq, reduceCtorEq] at hb)) | (apply rk_gd_u; · simp [evl])))
        refine rn_nil ?_; refine lpq_n (l.length + 3 - (i + 1)) (by omega) ?_
        exact ⟨i + 1, rfl, by omega, by omega, (by (first | (simp (disch := omega) only [evl, Nat.reduceEqDiff, Nat.reduceAdd, reduceIte, reduceCtorEq, h0] <;> exact rfl) | exact rfl)), (by (first | (simp (disch := omega) only [evl, Nat.reduceEqDiff, Nat.reduceAdd, reduceIte, reduceCtorEq, h3] <;> exact rfl) | exact rfl)), (by (first | (simp (disch := omega) only [evl, Nat.reduceEqDiff, Nat.reduceAdd, reduceIte, reduceCtorEq] <;> exact rfl) | exact rfl)), hx3, by omega, hr3⟩
      · (repeat' (first | refine Z ?_ | refine Zq ?_ | refine rn_blk_x (by decide) ?_ | ((first | refine' Y ?_ ?_ | refine' X ?_ ?_ ?_); rotate_left; (· (first | (simp (disch := omega) only [evl, Nat.reduceEqDiff, Nat.reduceAdd, reduceIte, reduceCtorEq, h0, h3, h4, hlen2, hix] <;> exact rfl) | exact rfl)); all_goals try (refine fun (hb : _ = _) => ?_; try simp only [Zu, ne_eq, reduceCtorEq] at hb)) | (apply rk_gd_u; · simp [evl])))
        refine rn_nil ?_; refine lpq_e ?_
        obtain rfl : i = l.length + 3 := by omega
        exact ⟨rfl, hxx, hnx, hrow, (by (first | (simp (disch := omega) only [evl, Nat.reduceEqDiff, Nat.reduceAdd, reduceIte, reduceCtorEq, h3] <;> exact rfl) | exact rfl)), (by (first | (simp (disch := omega) only [evl, Nat.reduceEqDiff, Nat.reduceAdd, reduceIte, reduceCtorEq, h0] <;> exact rfl) | exact rfl))⟩
    · exact ⟨l.length, by omega, by omega, by omega, (by (first | (simp (disch := omega) only [evl, Nat.reduceEqDiff, Nat.reduceAdd, reduceIte, reduceCtorEq] <;> exact rfl) | exact rfl)), (by (first | (simp (disch := omega) only [evl, Nat.reduceEqDiff, Nat.reduceAdd, reduceIte, reduceCtorEq] <;> exact rfl) | exact rfl)), (by (first | (simp (disch := omega) only [evl, Nat.reduceEqDiff, Nat.reduceAdd, reduceIte, reduceCtorEq] <;> exact rfl) | exact rfl)), hx2, by omega, hrow2⟩
  · rintro ex T' H' ⟨rfl, hx', hn', hr', h3, h0⟩
    (repeat' (first | refine Z ?_ | refine Zq ?_ | refine rn_blk_x (by decide) ?_ | ((first | refine' Y ?_ ?_ | refine' X ?_ ?_ ?_); rotate_left; (· (first | (simp (disch := omega) only [evl, Nat.reduceEqDiff, Nat.reduceAdd, reduceIte, reduceCtorEq, h3, h0, hlen] <;> exact rfl) | exact rfl)); all_goals try (refine fun (hb : _ = _) => ?_; try simp only [Zu, ne_eq, reduceCtorEq] at hb)) | (apply rk_gd_u; · simp [evl])))
    apply rk_ls
    · (simp (disch := omega) only [evl, Nat.reduceEqDiff, Nat.reduceAdd, reduceIte, reduceCtorEq, h3, h0, hlen])
      exact sl_hi u32 z3 (by omega) (by omega)
    (repeat' (first | refine Z ?_ | refine Zq ?_ | refine rn_blk_x (by decide) ?_ | ((first | refine' Y ?_ ?_ | refine' X ?_ ?_ ?_); rotate_left; (· (first | (simp (disch := omega) only [evl, Nat.reduceEqDiff, Nat.reduceAdd, reduceIte, reduceCtorEq, h3, h0, hlen] <;> exact rfl) | exact rfl)); all_goals try (refine fun (hb : _ = _) => ?_; try simp only [Zu, ne_eq, reduceCtorEq] at hb)) | (apply rk_gd_u; · simp [evl])))
    refine rn_nil ?_
    refine fq_ret (resV_1 _ _) ⟨?_, hx', hn', hr'⟩
    (simp (disch := omega) only [evl, Nat.reduceEqDiff, Nat.reduceAdd, reduceIte, reduceCtorEq])

theorem sameInts_ok (H : AH) (v w : AV) (l m : List Int) (hs : SlI H v l) (hw : SlI H w m) (hl : l.length ≤ 1000000) (hm : m.length ≤ 1000000) :
    FnE look 29 [v, w] H fun r H' => r = .bool (decide (l = m)) ∧ H' = H := by
  refine fn_intro f29_eq (noext rfl) rfl ?_
  unfold f29c
  have hlen := fun H' => len_el (H' := H') u32 hs.is
  have hlenw := fun H' => len_el (H' := H') u32 hw.is
  by_cases hlm : l.length = m.length
  · (repeat' (first | refine Z ?_ | refine Zq ?_ | refine rn_blk_x (by decide) ?_ | ((first | refine' Y ?_ ?_ | refine' X ?_ ?_ ?_); rotate_left; (· (first | (simp (disch := omega) only [evl, Nat.reduceEqDiff, Nat.reduceAdd, reduceIte, reduceCtorEq, hlen, hlenw] <;> exact rfl) | exact rfl)); all_goals try (refine fun (hb : _ = _) => ?_; try simp only [Zu, ne_eq, reduceCtorEq] at hb)) | (apply rk_gd_u; · simp [evl])))
    refine rc_loop (R := fun ex T' H' => H' = H ∧ ((ex = .exit 0 ∧ l = m) ∨ (ex = .ret ∧ gT T' 4 = .bool false ∧ l ≠ m))) ?_ ?_
    · refine lp_ind f29l0_eq (fun k T H' => ∃ i : Nat, k = l.length - i ∧ i ≤ l.length ∧ gT T 0 = v ∧ gT T 1 = w ∧ gT T 5 = .int .i64 i ∧ (∀ j, j < i → l.getD j 0 = m.getD j 0) ∧ H' = H) _ ?_ l.length _ _ ?_
      · intro k T H' hI
        obtain ⟨i, hk, hi, h0, h1, h5, hall, rfl⟩ := hI
        unfold f29l0
        by_cases hlt : i < l.length
        · have hel := hs.el i hlt
          have helw := hw.el i (by omega)
          have hix := @ix_el _ _ _ hs.is
          have hixw := @ix_el _ _ _ hw.is
          (repeat' (first | refine Z ?_ | refine Zq ?_ | refine rn_blk_x (by decide) ?_ | ((first | refine' Y ?_ ?_ | refine' X ?_ ?_ ?_); rotate_left; (· (first | (simp (disch := omega) only [evl, Nat.reduceEqDiff, Nat.reduceAdd, reduceIte, reduceCtorEq, h0, h1, h5, hlen, hix, hel, hixw, helw] <;> exact rfl) | exact rfl)); all_goals try (refine fun (hb : _ = _) => ?_; try simp only [Zu, ne_eq, reduceCtorEq] at hb)) | (apply rk_gd_u; · simp [evl])))
          · refine rn_nil ?_; refine lpq_r ?_; exact ⟨rfl, .inr ⟨rfl, (by (first | (simp (disch := omega) only [evl, Nat.reduceEqDiff, Nat.reduceAdd, reduceIte, reduceCtorEq] <;> exact rfl) | exact rfl)), fun h => hb (by rw [h])⟩⟩
          · refine rn_nil ?_; refine lpq_n (l.length - (i + 1)) (by omega) ?_; refine ⟨i + 1, rfl, by omega, (by (first | (simp (disch := omega) only [evl, Nat.reduceEqDiff, Nat.reduceAdd, reduceIte, reduceCtorEq, h0] <;> exact rfl) | exact rfl)), (by (first | (simp (disch := omega) only [evl, Nat.reduceEqDiff, Nat.reduceAdd, reduceIte, reduceCtorEq, h1] <;> exact rfl) | exact rfl)), (by (first | (simp (disch := omega) only [evl, Nat.reduceEqDiff, Nat.reduceAdd, reduceIte, reduceCtorEq] <;> exact rfl) | exact rfl)), fun j hj => ?_, rfl⟩
            rcases Nat.lt_succ_iff_lt_or_eq.1 hj with h | rfl
            · exact hall j h
            · exact hb
        · (repeat' (first | refine Z ?_ | refine Zq ?_ | refine rn_blk_x (by decide) ?_ | ((first | refine' Y ?_ ?_ | refine' X ?_ ?_ ?_); rotate_left; (· (first | (simp (disch := omega) only [evl, Nat.reduceEqDiff, Nat.reduceAdd, reduceIte, reduceCtorEq, h0, h1, h5, hlen] <;> exact rfl) | exact rfl)); all_goals try (refine fun (hb : _ = _) => ?_; try simp only [Zu, ne_eq, reduceCtorEq] at hb)) | (apply rk_gd_u; · simp [evl])))
          refine rn_nil ?_; refine lpq_e ?_
          refine ⟨rfl, .inl ⟨rfl, ?_⟩⟩
          refine List.ext_getElem hlm fun j h1 h2 => ?_
          have := hall j (by omega)
          simpa [List.getD_eq_getElem?_getD, h1, h2] using this
      · exact ⟨0, by omega, by omega, (by (first | (simp (disch := omega) only [evl, Nat.reduceEqDiff, Nat.reduceAdd, reduceIte, reduceCtorEq] <;> exact rfl) | exact rfl)), (by (first | (simp (disch := omega) only [evl, Nat.reduceEqDiff, Nat.reduceAdd, reduceIte, reduceCtorEq] <;> exact rfl) | exact rfl)), (by (first | (simp (disch := omega) only [evl, Nat.reduceEqDiff, Nat.reduceAdd, reduceIte, reduceCtorEq] <;> exact rfl) | exact rfl)), fun j hj => by omega, rfl⟩
    · rintro ex T' H' ⟨rfl, h⟩
      rcases h with ⟨rfl, h⟩ | ⟨rfl, h4, h⟩
      · (repeat' (first | refine Z ?_ | refine Zq ?_ | refine rn_blk_x (by decide) ?_ | ((first | refine' Y ?_ ?_ | refine' X ?_ ?_ ?_); rotate_left; (· (first | (simp (disch := omega) only [evl, Nat.reduceEqDiff, Nat.reduceAdd, reduceIte, reduceCtorEq] <;> exact rfl) | exact rfl)); all_goals try (refine fun (hb : _ = _) => ?_; try simp only [Zu, ne_eq, reduceCtorEq] at hb)) | (apply rk_gd_u; · simp [evl])))
        refine rn_nil ?_
        refine fq_ret (resV_1 _ _) ⟨?_, rfl⟩
        (simp (disch := omega) only [evl, Nat.reduceEqDiff, Nat.reduceAdd, reduceIte, reduceCtorEq]) <;> simp [h]
      · (repeat' (first | refine Z ?_ | refine Zq ?_ | refine rn_blk_x (by decide) ?_ | ((first | refine' Y ?_ ?_ | refine' X ?_ ?_ ?_); rotate_left; (· (first | (simp (disch := omega) only [evl, Nat.reduceEqDiff, Nat.reduceAdd, reduceIte, reduceCtorEq] <;> exact rfl) | exact rfl)); all_goals try (refine fun (hb : _ = _) => ?_; try simp only [Zu, ne_eq, reduceCtorEq] at hb)) | (apply rk_gd_u; · simp [evl])))
        refine rn_nil ?_
        refine fq_ret (resV_1 _ _) ⟨?_, rfl⟩
        rw [h4]; simp [h]
  · (repeat' (first | refine Z ?_ | refine Zq ?_ | refine rn_blk_x (by decide) ?_ | ((first | refine' Y ?_ ?_ | refine' X ?_ ?_ ?_); rotate_left; (· (first | (simp (disch := omega) only [evl, Nat.reduceEqDiff, Nat.reduceAdd, reduceIte, reduceCtorEq, hlen, hlenw] <;> exact rfl) | exact rfl)); all_goals try (refine fun (hb : _ = _) => ?_; try simp only [Zu, ne_eq, reduceCtorEq] at hb)) | (apply rk_gd_u; · simp [evl])))
    refine rn_nil ?_
    refine fq_ret (resV_1 _ _) ⟨?_, rfl⟩
    (simp (disch := omega) only [evl, Nat.reduceEqDiff, Nat.reduceAdd, reduceIte, reduceCtorEq])
    simp only [show ¬ l = m from fun h => hlm (by rw [h]), decide_false]

def lentLInts (l : List Int) : List Int := (List.range (l.length + 3)).map fun k => if k < l.length then l.getD k 0 else -77 - (k : Int)
theorem lentLInts_get (l : List Int) (k : Nat) (hk : k < l.length + 3) : (if k < l.length then ints l k else if k < l.length + 3 then .int .i64 (-77 - (k : Int)) else .int .i64 0) = ints (lentLInts l) k := by
  show _ = AV.int .i64 ((lentLInts l).getD k 0)
  rw [List.getD_eq_getElem?_getD]
  unfold lentLInts
  rw [List.getElem?_map, List.getElem?_range hk]
  by_cases h : k < l.length <;> simp [h, hk]
/-- What was lent is as it was. -/
theorem keptInts_ok (H : AH) (v : AV) (i : Nat) (l : List Int) (hs : SlI H v l) (hr : Row H i false false 3 1 (lentCInts l (l.length + 3))) (hi : i < H.next) (hh : H.hide = []) (hlo : H.lo ≤ H.next) (hl : l.length ≤ 900000) :
    FnE look 32 [.sl i 0 l.length (l.length + 3) false, v] H fun r H' => r = .bool true ∧ HX H H' := by
  refine fn_intro f32_eq (noext rfl) rfl ?_
  unfold f32c
  have his := hr.isSl (o := 0) (n := l.length) (c := l.length + 3) (op' := false) hi (by omega)
  have hlen := fun H' => len_el (H' := H') u32 hs.is
  have hlen2 := fun H' => len_el (H' := H') u32 his
  have hcap := fun H' => cap_sl (L := look) (t := 32) (e := 3) (H := H') (i := i) (o := 0) (n := l.length) (c := l.length + 3) u32
  have hhi := sl_hi (L := look) (t := 32) (e := 3) (z := 1) (i := i) (o := 0) (n := l.length) (c := l.length + 3) (k := .i64) (m := ((l.length + 3 : Nat) : Int)) u32 z3 (by omega) (by omega)
  (repeat' (first | refine Z ?_ | refine Zq ?_ | refine rn_blk_x (by decide) ?_ | ((first | refine' Y ?_ ?_ | refine' X ?_ ?_ ?_); rotate_left; (· (first | (simp (disch := omega) only [evl, Nat.reduceEqDiff, Nat.reduceAdd, reduceIte, reduceCtorEq, hlen, hlen2, hcap, hhi] <;> exact rfl) | exact rfl)); all_goals try (refine fun (hb : _ = _) => ?_; try simp only [Zu, ne_eq, reduceCtorEq] at hb)) | (apply rk_gd_u; · simp [evl])))
  refine rk_cl (by (simp (disch := omega) only [evl, Nat.reduceEqDiff, Nat.reduceAdd, reduceIte, reduceCtorEq]); exact lentInts_ok H v l hs hh hlo (by omega)) ?_
  rintro r H1 ⟨rfl, hx1, hn1, hr1⟩
  simp only [hOut_f]
  have hhi2 := sl_hi (L := look) (t := 32) (e := 3) (z := 1) (i := H.next) (o := 0) (n := l.length) (c := l.length + 3) (k := .i64) (m := (l.length : Int) + 3) u32 z3 (by omega) (by omega)
  have ht3 : ((l.length : Int) + 3).toNat = l.length + 3 := by omega
  (repeat' (first | refine Z ?_ | refine Zq ?_ | refine rn_blk_x (by decide) ?_ | ((first | refine' Y ?_ ?_ | refine' X ?_ ?_ ?_); rotate_left; (· (first | (simp (disch := omega) only [evl, Nat.reduceEqDiff, Nat.reduceAdd, reduceIte, reduceCtorEq, hlen, hlen2, hcap, hhi2, ht3] <;> exact rfl) | exact rfl)); all_goals try (refine fun (hb : _ = _) => ?_; try simp only [Zu, ne_eq, reduceCtorEq] at hb)) | (apply rk_gd_u; · simp [evl])))
  have hrA := hr.hx hx1 hi
  have hsA : SlR H1 (.sl i 0 (l.length + 3) (l.length + 3) false) (l.length + 3) (ints (lentLInts l)) := hrA.slR (by omega) (by omega) (fun k hk => by rw [Nat.zero_add, lentCInts_get _ _ _ hk]; exact congrArg some (lentLInts_get l k hk))
  have hsB : SlR H1 (.sl H.next 0 (l.length + 3) (l.length + 3) false) (l.length + 3) (ints (lentLInts l)) := hr1.slR (by omega) (by omega) (fun k hk => by rw [Nat.zero_add, lentCInts_get _ _ _ hk]; exact congrArg some (lentLInts_get l k hk))
  have hml : (lentLInts l).length = l.length + 3 := by simp [lentLInts]
  rw [← hml] at hsA hsB
  refine rk_cl (by (simp (disch := omega) only [evl, Nat.reduceEqDiff, Nat.reduceAdd, reduceIte, reduceCtorEq, hml, ht3]); exact sameInts_ok H1 _ _ (lentLInts l) (lentLInts l) (hml ▸ hsA) (hml ▸ hsB) (by omega) (by omega)) ?_
  rintro r H2 ⟨rfl, rfl⟩
  simp only [hOut_f]
  (repeat' (first | refine Z ?_ | refine Zq ?_ | refine rn_blk_x (by decide) ?_ | ((first | refine' Y ?_ ?_ | refine' X ?_ ?_ ?_); rotate_left; (· (first | (simp (disch := omega) only [evl, Nat.reduceEqDiff, Nat.reduceAdd, reduceIte, reduceCtorEq] <;> exact rfl) | exact rfl)); all_goals try (refine fun (hb : _ = _) => ?_; try simp only [Zu, ne_eq, reduceCtorEq] at hb)) | (apply rk_gd_u; · simp [evl])))
  refine rn_nil ?_
  refine fq_ret (resV_1 _ _) ⟨?_, hx1⟩
  (simp (disch := omega) only [evl, Nat.reduceEqDiff, Nat.reduceAdd, reduceIte, reduceCtorEq]) <;> simp

end PQ
end Go.Proofs.Ytnkomaedmblemaa

set_option linter.unusedSimpArgs false
set_option linter.unusedVariables false
set_option maxRecDepth 100000
namespace Go.Proofs.Ytnkomaedmblemaa
open Go.Ev Exl
open Ra Rb Rc Rd Re Rf Rg Rh Ri Rj Rk Rl Rm Rn Ro Rp Rq Rr
namespace PQ

/-- One number put behind. -/
theorem app_one {H : AH} {s : AV} {acc : List Int} {N : Nat} (x : Int) (hap : Ap H s acc.length (iC acc) 3 1 N) (hh : H.hide = []) (hlo : H.lo ≤ N) (hN : N ≤ H.next) (hl : acc.length ≤ 1000000) :
    ∃ H1 s' H2, bsF 1 1 (.int .i64 0) 3 (zipF [0] [.int .i64 x]) H = some (.sl H.next 0 1 1 false, H1) ∧ appX 3 1 8 [s, .sl H.next 0 1 1 false] H1 = some (s', H2) ∧ Ap H2 s' (acc ++ [x]).length (iC (acc ++ [x])) 3 1 N ∧ HP (blkNe s) H H2 ∧ ∀ j, j < H.next → blkNe s' j := by
  obtain ⟨H1, hb1, hx1, hn1, hr1⟩ := bs_one (s := 1) (e := 3) (z := .int .i64 0) (v := .int .i64 x) (H := H) hh rfl rfl
  obtain ⟨new, hsrc, hnl⟩ := srcRow (z := 1) (n := 1) (c := 1) (op := false) hr1 rfl
  obtain ⟨s', H2, happ, hap2, hp2, hn2, hne2⟩ := (hap.hx hx1).app (b := 8) (x := .sl H.next 0 1 1 false) (m := 1) rfl hsrc (one_of_l (by rw [hnl]; rfl)) (by rw [hnl]; rfl) (Nat.le_refl _) (by omega) (by omega) (hx1.hide.trans hh) (by rw [hx1.lo]; exact hlo) (by omega)
  refine ⟨H1, s', H2, hb1, happ, ?_, (hx1.hp fun _ => True).trans hp2 fun j hj h => ⟨trivial, h⟩, fun j hj => hne2 j (by omega)⟩
  rw [hnl, show AV.cells (.int .i64 x) = iC [x] from rfl, show iC acc ++ iC [x] = iC (acc ++ [x]) from by simp [iC]] at hap2
  simpa using hap2
def ListP (H : AH) (l : List P) (r : AV) (H' : AH) : Prop :=
  HX H H' ∧ ((¬ Ok 0 l ∧ r = .tup [.nilSl, .int .i64 2]) ∨ (Ok 0 l ∧ ∃ o, r = .tup [o, .int .i64 0] ∧ Ap H' o (secs l).length (iC (secs l)) 3 1 H.next))
theorem secs_step (l : List P) {i : Nat} (h : i < l.length) : secs (l.take (i + 1)) = secs (l.take i) ++ sec (exG l i).1 (exG l i).2.toNat := by
  rw [take_snoc l h, secs_snoc]

set_option maxHeartbeats 8000000 in
theorem list_ok (H : AH) (v : AV) (l : List P) (hs : SlX H v l) (hh : H.hide = []) (hlo : H.lo ≤ H.next) (hl : l.length ≤ 1000000) :
    FnE look 25 [v] H (ListP H l) := by
  refine fn_intro f25_eq (noext rfl) rfl ?_
  unfold f25c
  have hlen := fun H' => len_el (H' := H') u22 hs.is
  (repeat' (first | refine Z ?_ | refine Zq ?_ | refine rn_blk_x (by decide) ?_ | ((first | refine' Y ?_ ?_ | refine' X ?_ ?_ ?_); rotate_left; (· (first | (simp (disch := omega) only [evl, Nat.reduceEqDiff, Nat.reduceAdd, reduceIte, reduceCtorEq] <;> exact rfl) | exact rfl)); all_goals try (refine fun (hb : _ = _) => ?_; try simp only [Zu, ne_eq, reduceCtorEq] at hb)) | (apply rk_gd_u; · simp [evl])))
  refine rk_cl (by (simp (disch := omega) only [evl, Nat.reduceEqDiff, Nat.reduceAdd, reduceIte, reduceCtorEq]); exact check_ok H v l hs hh hlo hl) ?_
  rintro r H1 ⟨hx1, ⟨hok, rfl⟩ | ⟨hok, rfl⟩⟩
  rotate_left
  · simp only [hOut_f]
    (repeat' (first | refine Z ?_ | refine Zq ?_ | refine rn_blk_x (by decide) ?_ | ((first | refine' Y ?_ ?_ | refine' X ?_ ?_ ?_); rotate_left; (· (first | (simp (disch := omega) only [evl, Nat.reduceEqDiff, Nat.reduceAdd, reduceIte, reduceCtorEq] <;> exact rfl) | exact rfl)); all_goals try (refine fun (hb : _ = _) => ?_; try simp only [Zu, ne_eq, reduceCtorEq] at hb)) | (apply rk_gd_u; · simp [evl])))
    refine rn_nil ?_; refine fq_ret (resV_2 _ _ _) ⟨hx1, .inl ⟨hok, ?_⟩⟩
    (simp (disch := omega) only [evl, Nat.reduceEqDiff, Nat.reduceAdd, reduceIte, reduceCtorEq])
  simp only [hOut_f]
  have hn1 := hx1.next
  have hh1 : H1.hide = [] := hx1.hide.trans hh
  have hlo1 : H1.lo ≤ H.next := by rw [hx1.lo]; exact hlo
  have hs1 : SlX H1 v l := hs.hx hx1
  have hvl : ∀ i o n c op, v = .sl i o n c op → i < H.next := fun i o n c op hv => SlZ.lt hs hv
  (repeat' (first | refine Z ?_ | refine Zq ?_ | refine rn_blk_x (by decide) ?_ | ((first | refine' Y ?_ ?_ | refine' X ?_ ?_ ?_); rotate_left; (· (first | (simp (disch := omega) only [evl, Nat.reduceEqDiff, Nat.reduceAdd, reduceIte, reduceCtorEq, hlen] <;> exact rfl) | exact rfl)); all_goals try (refine fun (hb : _ = _) => ?_; try simp only [Zu, ne_eq, reduceCtorEq] at hb)) | (apply rk_gd_u; · simp [evl])))
  refine rc_loop (R := fun ex T' H' => ex = .exit 0 ∧ ∃ o, gT T' 5 = o ∧ HX H1 H' ∧ Ap H' o (secs l).length (iC (secs l)) 3 1 H1.next) ?_ ?_
  · refine lp_ind f25l0_eq (fun k T H' => ∃ (i : Nat) (o : AV), k = l.length - i ∧ i ≤ l.length ∧ gT T 5 = o ∧ gT T 14 = v ∧ gT T 15 = .int .i64 l.length ∧ gT T 16 = .int .i64 i ∧ HX H1 H' ∧ Ap H' o (secs (l.take i)).length (iC (secs (l.take i))) 3 1 H1.next) _ ?_ l.length _ _ ?_
    · intro k T H2 hI
      obtain ⟨i, o, hk, hi, h5, h14, h15, h16, hx2, hap⟩ := hI
      unfold f25l0
      have htk := Ok.take i hok
      have hsl := secs_len htk.pos
      have htt := Ok.tot (by omega) htk
      by_cases hlt : i < l.length
      · have hsx : SlX H2 v l := hs1.hx hx2
        have hix := @ix_el _ _ _ hsx.is
        have hrd := SlX.rdN hsx hlt
        have hat := Ok.at hok hlt (Int.le_refl _)
        have hn2 := hx2.next
        have Hst := Hd.mk (secs_step l hlt)
        (repeat' (first | refine Z ?_ | refine Zq ?_ | refine rn_blk_x (by decide) ?_ | ((first | refine' Y ?_ ?_ | refine' X ?_ ?_ ?_); rotate_left; (· (first | (simp (disch := omega) only [evl, Nat.reduceEqDiff, Nat.reduceAdd, reduceIte, reduceCtorEq, h14, h15, h16, hix, hrd] <;> exact rfl) | exact rfl)); all_goals try (refine fun (hb : _ = _) => ?_; try simp only [Zu, ne_eq, reduceCtorEq] at hb)) | (apply rk_gd_u; · simp [evl])))
        obtain ⟨H3, H4, hal, hst, hx4, hn4, hr4⟩ := boxN look (e := 43) (s := 2) (z := AV.toC (.agg [.int .i64 0, .int .i64 0])) (v := exV (exG l i)) (hx2.hide.trans hh1) (by rw [hx2.lo]; omega) (by rw [toC_l]; rfl) rfl rfl
        apply rk_al
        · (simp (disch := omega) only [evl, Nat.reduceEqDiff, Nat.reduceAdd, reduceIte, reduceCtorEq])
          exact hal
        simp only [hOut_f]
        apply rk_st
        · (simp (disch := omega) only [evl, Nat.reduceEqDiff, Nat.reduceAdd, reduceIte, reduceCtorEq])
          exact hst
        simp only [hOut_f]
        have hB := hr4.rd (k := 1) rfl
        have hap4 := hap.hx hx4
        have hx24 := hx2.trans hx4
        generalize hae : (exG l i).1 = a at *
        generalize hbe : (exG l i).2 = b at *
        have hr4' : Row H4 H2.next false false 43 2 [.int .i64 a, .int .i64 b] := by rw [← hae, ← hbe]; exact hr4
        clear hae hbe hr4 hal hst hrd
        have hne0 : blkNe o H2.next := by
          obtain ⟨_, ⟨rfl, _⟩ | ⟨i', rfl, _, _, hi'⟩⟩ := hap
          · exact blkNe_nil _
          · exact blkNe_sl (by omega)
        (repeat' (first | refine Z ?_ | refine Zq ?_ | refine rn_blk_x (by decide) ?_ | ((first | refine' Y ?_ ?_ | refine' X ?_ ?_ ?_); rotate_left; (· (first | (simp (disch := omega) only [evl, Nat.reduceEqDiff, Nat.reduceAdd, reduceIte, reduceCtorEq, h5, hB] <;> exact rfl) | exact rfl)); all_goals try (refine fun (hb : _ = _) => ?_; try simp only [Zu, ne_eq, reduceCtorEq] at hb)) | (apply rk_gd_u; · simp [evl])))
        refine rc_loop (R := fun ex T' H' => ex = .exit 2 ∧ gT T' 14 = v ∧ gT T' 15 = .int .i64 l.length ∧ gT T' 16 = .int .i64 i ∧ HX H1 H' ∧ ∃ o', gT T' 5 = o' ∧ Ap H' o' (secs (l.take (i + 1))).length (iC (secs (l.take (i + 1)))) 3 1 H1.next) ?_ ?_
        · refine lp_ind f25l1_eq (fun k T H' => ∃ (j : Nat) (o : AV), k = b.toNat - j ∧ j ≤ b.toNat ∧ gT T 5 = o ∧ gT T 7 = .ptr H2.next 0 ∧ gT T 14 = v ∧ gT T 15 = .int .i64 l.length ∧ gT T 16 = .int .i64 i ∧ gT T 21 = .int .i64 b ∧ gT T 22 = .int .i64 j ∧ HX H1 H' ∧ H2.next < H'.next ∧ Row H' H2.next false false 43 2 [.int .i64 a, .int .i64 b] ∧ blkNe o H2.next ∧ Ap H' o (secs (l.take i) ++ sec a j).length (iC (secs (l.take i) ++ sec a j)) 3 1 H1.next) _ ?_ b.toNat _ _ ?_
          · intro k T H5 hI
            obtain ⟨j, o, hk, hj, h5, h7, h14, h15, h16, h21, h22, hx5, hnx5, hr5, hne5, hap5⟩ := hI
            unfold f25l1
            by_cases hjb : (j : Int) < b
            · have hA := hr5.rd (k := 0) rfl
              have hn5 := hx5.next
              have hll : (secs (l.take i) ++ sec a j).length ≤ 1000000 := by
                rw [List.length_append, sec_len]; omega
              obtain ⟨H6, s', H7, hb6, happ, hap7, hp7, hne7⟩ := app_one (a + j) hap5 (hx5.hide.trans hh1) (by rw [hx5.lo]; omega) (by omega) hll
              (repeat' (first | refine Z ?_ | refine Zq ?_ | refine rn_blk_x (by decide) ?_ | ((first | refine' Y ?_ ?_ | refine' X ?_ ?_ ?_); rotate_left; (· (first | (simp (disch := omega) only [evl, Nat.reduceEqDiff, Nat.reduceAdd, reduceIte, reduceCtorEq, h5, h7, h21, h22, hA] <;> exact rfl) | exact rfl)); all_goals try (refine fun (hb : _ = _) => ?_; try simp only [Zu, ne_eq, reduceCtorEq] at hb)) | (apply rk_gd_u; · simp [evl])))
              apply rk_hn
              · (simp (disch := omega) only [evl, Nat.reduceEqDiff, Nat.reduceAdd, reduceIte, reduceCtorEq])
                exact hb6
              simp only [hOut_f]
              (repeat' (first | refine Z ?_ | refine Zq ?_ | refine rn_blk_x (by decide) ?_ | ((first | refine' Y ?_ ?_ | refine' X ?_ ?_ ?_); rotate_left; (· (first | (simp (disch := omega) only [evl, Nat.reduceEqDiff, Nat.reduceAdd, reduceIte, reduceCtorEq, h5] <;> exact rfl) | exact rfl)); all_goals try (refine fun (hb : _ = _) => ?_; try simp only [Zu, ne_eq, reduceCtorEq] at hb)) | (apply rk_gd_u; · simp [evl])))
              apply rk_hn
              · (simp (disch := omega) only [evl, Nat.reduceEqDiff, Nat.reduceAdd, reduceIte, reduceCtorEq, h5])
                exact happ
              simp only [hOut_f]
              (repeat' (first | refine Z ?_ | refine Zq ?_ | refine rn_blk_x (by decide) ?_ | ((first | refine' Y ?_ ?_ | refine' X ?_ ?_ ?_); rotate_left; (· (first | (simp (disch := omega) only [evl, Nat.reduceEqDiff, Nat.reduceAdd, reduceIte, reduceCtorEq, h22] <;> exact rfl) | exact rfl)); all_goals try (refine fun (hb : _ = _) => ?_; try simp only [Zu, ne_eq, reduceCtorEq] at hb)) | (apply rk_gd_u; · simp [evl])))
              refine rn_nil ?_; refine lpq_n (b.toNat - (j + 1)) (by omega) ?_
              refine ⟨j + 1, s', rfl, by omega, (by (first | (simp (disch := omega) only [evl, Nat.reduceEqDiff, Nat.reduceAdd, reduceIte, reduceCtorEq] <;> exact rfl) | exact rfl)), (by (first | (simp (disch := omega) only [evl, Nat.reduceEqDiff, Nat.reduceAdd, reduceIte, reduceCtorEq, h7] <;> exact rfl) | exact rfl)), (by (first | (simp (disch := omega) only [evl, Nat.reduceEqDiff, Nat.reduceAdd, reduceIte, reduceCtorEq, h14] <;> exact rfl) | exact rfl)), (by (first | (simp (disch := omega) only [evl, Nat.reduceEqDiff, Nat.reduceAdd, reduceIte, reduceCtorEq, h15] <;> exact rfl) | exact rfl)), (by (first | (simp (disch := omega) only [evl, Nat.reduceEqDiff, Nat.reduceAdd, reduceIte, reduceCtorEq, h16] <;> exact rfl) | exact rfl)), (by (first | (simp (disch := omega) only [evl, Nat.reduceEqDiff, Nat.reduceAdd, reduceIte, reduceCtorEq, h21] <;> exact rfl) | exact rfl)), (by (first | (simp (disch := omega) only [evl, Nat.reduceEqDiff, Nat.reduceAdd, reduceIte, reduceCtorEq, h22] <;> exact rfl) | exact rfl)), ?_, by have := hp7.next; omega, hr5.hp hp7 hnx5 hne5, hne7 _ hnx5, ?_⟩
              · refine ((hx5.hp fun _ => True).trans hp7 (r := fun _ => True) fun q hq _ => ⟨trivial, ?_⟩).hx fun _ _ => trivial
                exact Ap.blk hap5 (by omega)
              · rw [sec, ← List.append_assoc]; exact hap7
            · (repeat' (first | refine Z ?_ | refine Zq ?_ | refine rn_blk_x (by decide) ?_ | ((first | refine' Y ?_ ?_ | refine' X ?_ ?_ ?_); rotate_left; (· (first | (simp (disch := omega) only [evl, Nat.reduceEqDiff, Nat.reduceAdd, reduceIte, reduceCtorEq, h21, h22] <;> exact rfl) | exact rfl)); all_goals try (refine fun (hb : _ = _) => ?_; try simp only [Zu, ne_eq, reduceCtorEq] at hb)) | (apply rk_gd_u; · simp [evl])))
              refine rn_nil ?_; refine lpq_e ?_
              obtain rfl : j = b.toNat := by omega
              refine ⟨rfl, (by (first | (simp (disch := omega) only [evl, Nat.reduceEqDiff, Nat.reduceAdd, reduceIte, reduceCtorEq, h14] <;> exact rfl) | exact rfl)), (by (first | (simp (disch := omega) only [evl, Nat.reduceEqDiff, Nat.reduceAdd, reduceIte, reduceCtorEq, h15] <;> exact rfl) | exact rfl)), (by (first | (simp (disch := omega) only [evl, Nat.reduceEqDiff, Nat.reduceAdd, reduceIte, reduceCtorEq, h16] <;> exact rfl) | exact rfl)), hx5, o, (by (first | (simp (disch := omega) only [evl, Nat.reduceEqDiff, Nat.reduceAdd, reduceIte, reduceCtorEq, h5] <;> exact rfl) | exact rfl)), ?_⟩
              rw [Hst.out]; exact hap5
          · refine ⟨0, o, by omega, Nat.zero_le _, (by (first | (simp (disch := omega) only [evl, Nat.reduceEqDiff, Nat.reduceAdd, reduceIte, reduceCtorEq, h5] <;> exact rfl) | exact rfl)), (by (first | (simp (disch := omega) only [evl, Nat.reduceEqDiff, Nat.reduceAdd, reduceIte, reduceCtorEq] <;> exact rfl) | exact rfl)), (by (first | (simp (disch := omega) only [evl, Nat.reduceEqDiff, Nat.reduceAdd, reduceIte, reduceCtorEq, h14] <;> exact rfl) | exact rfl)), (by (first | (simp (disch := omega) only [evl, Nat.reduceEqDiff, Nat.reduceAdd, reduceIte, reduceCtorEq, h15] <;> exact rfl) | exact rfl)), (by (first | (simp (disch := omega) only [evl, Nat.reduceEqDiff, Nat.reduceAdd, reduceIte, reduceCtorEq, h16] <;> exact rfl) | exact rfl)), (by (first | (simp (disch := omega) only [evl, Nat.reduceEqDiff, Nat.reduceAdd, reduceIte, reduceCtorEq] <;> exact rfl) | exact rfl)), (by (first | (simp (disch := omega) only [evl, Nat.reduceEqDiff, Nat.reduceAdd, reduceIte, reduceCtorEq] <;> exact rfl) | exact rfl)), hx24, by omega, hr4', hne0, ?_⟩
            rw [sec, List.append_nil]; exact hap4
        · rintro ex T' H5 ⟨rfl, h14, h15, h16, hx5, o', h5, hap5⟩
          (repeat' (first | refine Z ?_ | refine Zq ?_ | refine rn_blk_x (by decide) ?_ | ((first | refine' Y ?_ ?_ | refine' X ?_ ?_ ?_); rotate_left; (· (first | (simp (disch := omega) only [evl, Nat.reduceEqDiff, Nat.reduceAdd, reduceIte, reduceCtorEq, h16] <;> exact rfl) | exact rfl)); all_goals try (refine fun (hb : _ = _) => ?_; try simp only [Zu, ne_eq, reduceCtorEq] at hb)) | (apply rk_gd_u; · simp [evl])))
          refine rn_nil ?_; refine lpq_n (l.length - (i + 1)) (by omega) ?_
          exact ⟨i + 1, o', rfl, by omega, (by (first | (simp (disch := omega) only [evl, Nat.reduceEqDiff, Nat.reduceAdd, reduceIte, reduceCtorEq, h5] <;> exact rfl) | exact rfl)), (by (first | (simp (disch := omega) only [evl, Nat.reduceEqDiff, Nat.reduceAdd, reduceIte, reduceCtorEq, h14] <;> exact rfl) | exact rfl)), (by (first | (simp (disch := omega) only [evl, Nat.reduceEqDiff, Nat.reduceAdd, reduceIte, reduceCtorEq, h15] <;> exact rfl) | exact rfl)), (by (first | (simp (disch := omega) only [evl, Nat.reduceEqDiff, Nat.reduceAdd, reduceIte, reduceCtorEq] <;> exact rfl) | exact rfl)), hx5, hap5⟩
      · (repeat' (first | refine Z ?_ | refine Zq ?_ | refine rn_blk_x (by decide) ?_ | ((first | refine' Y ?_ ?_ | refine' X ?_ ?_ ?_); rotate_left; (· (first | (simp (disch := omega) only [evl, Nat.reduceEqDiff, Nat.reduceAdd, reduceIte, reduceCtorEq, h15, h16] <;> exact rfl) | exact rfl)); all_goals try (refine fun (hb : _ = _) => ?_; try simp only [Zu, ne_eq, reduceCtorEq] at hb)) | (apply rk_gd_u; · simp [evl])))
        refine rn_nil ?_; refine lpq_e ?_
        obtain rfl : i = l.length := by omega
        rw [List.take_length] at hap
        exact ⟨rfl, o, (by (first | (simp (disch := omega) only [evl, Nat.reduceEqDiff, Nat.reduceAdd, reduceIte, reduceCtorEq, h5] <;> exact rfl) | exact rfl)), hx2, hap⟩
    · exact ⟨0, .nilSl, by omega, Nat.zero_le _, (by (first | (simp (disch := omega) only [evl, Nat.reduceEqDiff, Nat.reduceAdd, reduceIte, reduceCtorEq] <;> exact rfl) | exact rfl)), (by (first | (simp (disch := omega) only [evl, Nat.reduceEqDiff, Nat.reduceAdd, reduceIte, reduceCtorEq] <;> exact rfl) | exact rfl)), (by (first | (simp (disch := omega) only [evl, Nat.reduceEqDiff, Nat.reduceAdd, reduceIte, reduceCtorEq, hlen] <;> exact rfl) | exact rfl)), (by (first | (simp (disch := omega) only [evl, Nat.reduceEqDiff, Nat.reduceAdd, reduceIte, reduceCtorEq] <;> exact rfl) | exact rfl)), HX.refl _, Ap.nil _ _ _ _⟩
  · rintro ex T' H2 ⟨rfl, o, h5, hx2, hap⟩
    (repeat' (first | refine Z ?_ | refine Zq ?_ | refine rn_blk_x (by decide) ?_ | ((first | refine' Y ?_ ?_ | refine' X ?_ ?_ ?_); rotate_left; (· (first | (simp (disch := omega) only [evl, Nat.reduceEqDiff, Nat.reduceAdd, reduceIte, reduceCtorEq, h5] <;> exact rfl) | exact rfl)); all_goals try (refine fun (hb : _ = _) => ?_; try simp only [Zu, ne_eq, reduceCtorEq] at hb)) | (apply rk_gd_u; · simp [evl])))
    refine rn_nil ?_; refine fq_ret (resV_2 _ _ _) ⟨hx1.trans hx2, .inr ⟨hok, o, ?_, Ap.le hap hn1⟩⟩
    (simp (disch := omega) only [evl, Nat.reduceEqDiff, Nat.reduceAdd, reduceIte, reduceCtorEq, h5])
theorem countX_ok (H : AH) (v : AV) (l : List P) (hs : SlX H v l) (hh : H.hide = []) (hlo : H.lo ≤ H.next) (hl : l.length ≤ 1000000) :
    FnE look 23 [v] H fun r H' => HX H H' ∧ ((¬ Ok 0 l ∧ r = .int .i64 0) ∨ (Ok 0 l ∧ r = .int .i64 (tot l))) := by
  refine fn_intro f23_eq (noext rfl) rfl ?_
  unfold f23c
  (repeat' (first | refine Z ?_ | refine Zq ?_ | refine rn_blk_x (by decide) ?_ | ((first | refine' Y ?_ ?_ | refine' X ?_ ?_ ?_); rotate_left; (· (first | (simp (disch := omega) only [evl, Nat.reduceEqDiff, Nat.reduceAdd, reduceIte, reduceCtorEq] <;> exact rfl) | exact rfl)); all_goals try (refine fun (hb : _ = _) => ?_; try simp only [Zu, ne_eq, reduceCtorEq] at hb)) | (apply rk_gd_u; · simp [evl])))
  refine rk_cl (by (simp (disch := omega) only [evl, Nat.reduceEqDiff, Nat.reduceAdd, reduceIte, reduceCtorEq]); exact check_ok H v l hs hh hlo hl) ?_
  rintro r H1 ⟨hx1, ⟨hok, rfl⟩ | ⟨hok, rfl⟩⟩
  rotate_left
  · simp only [hOut_f]
    (repeat' (first | refine Z ?_ | refine Zq ?_ | refine rn_blk_x (by decide) ?_ | ((first | refine' Y ?_ ?_ | refine' X ?_ ?_ ?_); rotate_left; (· (first | (simp (disch := omega) only [evl, Nat.reduceEqDiff, Nat.reduceAdd, reduceIte, reduceCtorEq] <;> exact rfl) | exact rfl)); all_goals try (refine fun (hb : _ = _) => ?_; try simp only [Zu, ne_eq, reduceCtorEq] at hb)) | (apply rk_gd_u; · simp [evl])))
    refine rn_nil ?_; refine fq_ret (resV_1 _ _) ⟨hx1, .inl ⟨hok, ?_⟩⟩
    (simp (disch := omega) only [evl, Nat.reduceEqDiff, Nat.reduceAdd, reduceIte, reduceCtorEq])
  simp only [hOut_f]
  (repeat' (first | refine Z ?_ | refine Zq ?_ | refine rn_blk_x (by decide) ?_ | ((first | refine' Y ?_ ?_ | refine' X ?_ ?_ ?_); rotate_left; (· (first | (simp (disch := omega) only [evl, Nat.reduceEqDiff, Nat.reduceAdd, reduceIte, reduceCtorEq] <;> exact rfl) | exact rfl)); all_goals try (refine fun (hb : _ = _) => ?_; try simp only [Zu, ne_eq, reduceCtorEq] at hb)) | (apply rk_gd_u; · simp [evl])))
  refine rk_cl (by (simp (disch := omega) only [evl, Nat.reduceEqDiff, Nat.reduceAdd, reduceIte, reduceCtorEq]); exact sum_ok H1 v l (hs.hx hx1) (hx1.hide.trans hh) (by rw [hx1.lo]; have := hx1.next; omega) hl hok) ?_
  rintro r H2 ⟨hx2, rfl⟩
  simp only [hOut_f]
  (repeat' (first | refine Z ?_ | refine Zq ?_ | refine rn_blk_x (by decide) ?_ | ((first | refine' Y ?_ ?_ | refine' X ?_ ?_ ?_); rotate_left; (· (first | (simp (disch := omega) only [evl, Nat.reduceEqDiff, Nat.reduceAdd, reduceIte, reduceCtorEq] <;> exact rfl) | exact rfl)); all_goals try (refine fun (hb : _ = _) => ?_; try simp only [Zu, ne_eq, reduceCtorEq] at hb)) | (apply rk_gd_u; · simp [evl])))
  refine rn_nil ?_; refine fq_ret (resV_1 _ _) ⟨hx1.trans hx2, .inr ⟨hok, ?_⟩⟩
  (simp (disch := omega) only [evl, Nat.reduceEqDiff, Nat.reduceAdd, reduceIte, reduceCtorEq])
/-- caulkerref06.Count -/
theorem refCount_ok (H : AH) (v : AV) (l : List P) (hs : SlX H v l) (hh : H.hide = []) (hlo : H.lo ≤ H.next) (hl : l.length ≤ 1000000) :
    FnE look 31 [v] H fun r H' => HX H H' ∧ ((¬ Ok 0 l ∧ r = .int .i64 0) ∨ (Ok 0 l ∧ r = .int .i64 (tot l))) := by
  refine fn_intro f31_eq (noext rfl) rfl ?_
  unfold f31c
  (repeat' (first | refine Z ?_ | refine Zq ?_ | refine rn_blk_x (by decide) ?_ | ((first | refine' Y ?_ ?_ | refine' X ?_ ?_ ?_); rotate_left; (· (first | (simp (disch := omega) only [evl, Nat.reduceEqDiff, Nat.reduceAdd, reduceIte, reduceCtorEq] <;> exact rfl) | exact rfl)); all_goals try (refine fun (hb : _ = _) => ?_; try simp only [Zu, ne_eq, reduceCtorEq] at hb)) | (apply rk_gd_u; · simp [evl])))
  refine rk_cl (by (simp (disch := omega) only [evl, Nat.reduceEqDiff, Nat.reduceAdd, reduceIte, reduceCtorEq]); exact refList_ok H v l hs hh hlo hl) ?_
  rintro r H1 ⟨hx1, ⟨hok, rfl⟩ | ⟨hok, s, o, hm, rfl, hap, _⟩⟩
  · simp only [hOut_f]
    have hl0 : ∀ H', fstO (builtinF .len look [32] [.nilSl] H') = some (.int .i64 0) := fun H' => len_el (n := 0) u32 (.inl ⟨rfl, rfl⟩ : IsSl H .nilSl 0)
    (repeat' (first | refine Z ?_ | refine Zq ?_ | refine rn_blk_x (by decide) ?_ | ((first | refine' Y ?_ ?_ | refine' X ?_ ?_ ?_); rotate_left; (· (first | (simp (disch := omega) only [evl, Nat.reduceEqDiff, Nat.reduceAdd, reduceIte, reduceCtorEq, hl0] <;> exact rfl) | exact rfl)); all_goals try (refine fun (hb : _ = _) => ?_; try simp only [Zu, ne_eq, reduceCtorEq] at hb)) | (apply rk_gd_u; · simp [evl])))
    refine rn_nil ?_; refine fq_ret (resV_1 _ _) ⟨hx1, .inl ⟨hok, ?_⟩⟩
    (simp (disch := omega) only [evl, Nat.reduceEqDiff, Nat.reduceAdd, reduceIte, reduceCtorEq, hl0])
  · simp only [hOut_f]
    have hl0 : ∀ H', fstO (builtinF .len look [32] [o] H') = some (.int .i64 (listTo s 4096).length) := fun H' => len_el u32 hap.isSl
    rw [list_eq hok hm.2, secs_len hok.pos] at hl0
    (repeat' (first | refine Z ?_ | refine Zq ?_ | refine rn_blk_x (by decide) ?_ | ((first | refine' Y ?_ ?_ | refine' X ?_ ?_ ?_); rotate_left; (· (first | (simp (disch := omega) only [evl, Nat.reduceEqDiff, Nat.reduceAdd, reduceIte, reduceCtorEq, hl0] <;> exact rfl) | exact rfl)); all_goals try (refine fun (hb : _ = _) => ?_; try simp only [Zu, ne_eq, reduceCtorEq] at hb)) | (apply rk_gd_u; · simp [evl])))
    refine rn_nil ?_; refine fq_ret (resV_1 _ _) ⟨hx1, .inr ⟨hok, ?_⟩⟩
    (simp (disch := omega) only [evl, Nat.reduceEqDiff, Nat.reduceAdd, reduceIte, reduceCtorEq, hl0])
end PQ
end Go.Proofs.Ytnkomaedmblemaa
