import Derived.Test.YtnkomaedmblemaaPqA
set_option linter.unusedSimpArgs false
set_option linter.unusedVariables false
set_option maxRecDepth 100000
namespace Go.Proofs.Ytnkomaedmblemaa
open Go.Ev Exl
open Ra Rb Rc Rd Re Rf Rg Rh Ri Rj Rk Rl Rm Rn Ro Rp Rq Rr
namespace PQ

/-! ### The partitions -/
structure Pa (T : Tr AV) (i n c a b : Nat) (op : Bool) : Prop where
  t0 : gT T 0 = .sl i 0 n c op
  t1 : gT T 1 = .int .i64 a
  t2 : gT T 2 = .int .i64 b

set_option maxHeartbeats 4000000 in
theorem scan71_0 (T : Tr AV) (H : AH) (xs : List Int) (i c a b i0 j : Nat) (op op' : Bool) (v : Int) (hv : g xs a = v) (hT : Pa T i xs.length c a b op) (hij : i0 ≤ j + 1) (hjb : j < b) (ha : a ≤ i0) (hti : gT T 10 = .int .i64 i0) (htj : gT T 11 = .int .i64 j)
    (hr : Row H i false op' 3 1 (iC xs)) (hb' : b ≤ xs.length) (hl : xs.length ≤ 1000000) :
    LpE look f71b0 T H fun ex T' H' => ex = .exit 0 ∧ H' = H ∧ Pa T' i xs.length c a b op ∧ ∃ u : Nat, i0 ≤ u ∧ u ≤ j + 1 ∧ gT T' 10 = .int .i64 u ∧ gT T' 11 = .int .i64 j ∧ al (fun x => x < v) xs i0 u ∧ (u = j + 1 ∨ ¬ (g xs u < v)) := by
  refine lp_ind f71l0_eq (fun k T H' => ∃ u : Nat, k = j + 1 - u ∧ i0 ≤ u ∧ u ≤ j + 1 ∧ Pa T i xs.length c a b op ∧ gT T 10 = .int .i64 u ∧ gT T 11 = .int .i64 j ∧ H' = H ∧ al (fun x => x < v) xs i0 u) _ ?_ (j + 1 - i0) _ _ ?_
  · intro k T H1 hI
    obtain ⟨u, hk, g1, g2, ⟨h0, h1, h2⟩, hi', hj, rfl, hal⟩ := hI
    unfold f71l0
    by_cases hlt : u ≤ j
    · have hixA := ixn (i := i) (n := xs.length) (c := c) (op := op) (k := u) (by omega)
      have hixB := ixn (i := i) (n := xs.length) (c := c) (op := op) (k := a) (by omega)
      have hrdA := rd hr (k := u) (by omega)
      have hrdB := rd hr (k := a) (by omega)
      (repeat' (first | refine Z ?_ | refine Zq ?_ | refine rn_blk_x (by decide) ?_ | ((first | refine' Y ?_ ?_ | refine' X ?_ ?_ ?_); rotate_left; (· (first | (simp (disch := omega) only [evl, Nat.reduceEqDiff, Nat.reduceAdd, reduceIte, reduceCtorEq, h0, h1, hi', hj, hixA, hixB, hrdA, hrdB] <;> exact rfl) | exact rfl)); all_goals try (refine fun (hb : _ = _) => ?_; try simp only [Zu, ne_eq, reduceCtorEq] at hb)) | (apply rk_gd_u; · simp [evl])))
      refine rk_cl (by (simp (disch := omega) only [evl, Nat.reduceEqDiff, Nat.reduceAdd, reduceIte, reduceCtorEq]); exact less_ok H1 (g xs u) (g xs a)) ?_
      rintro rr H2 ⟨rfl, hH2⟩
      cases hH2
      simp only [hOut_f]
      by_cases hc : g xs u < g xs a
      · (repeat' (first | refine Z ?_ | refine Zq ?_ | refine rn_blk_x (by decide) ?_ | ((first | refine' Y ?_ ?_ | refine' X ?_ ?_ ?_); rotate_left; (· (first | (simp (disch := omega) only [evl, Nat.reduceEqDiff, Nat.reduceAdd, reduceIte, reduceCtorEq, h0, h1, hi', hj] <;> exact rfl) | exact rfl)); all_goals try (refine fun (hb : _ = _) => ?_; try simp only [Zu, ne_eq, reduceCtorEq] at hb)) | (apply rk_gd_u; · simp [evl])))
        refine rn_nil ?_
        · refine lpq_n (j + 1 - (u + 1)) (by omega) ?_
          refine ⟨u + 1, rfl, by omega, by omega, ⟨(by (first | (simp (disch := omega) only [evl, Nat.reduceEqDiff, Nat.reduceAdd, reduceIte, reduceCtorEq, h0] <;> exact rfl) | exact rfl)), (by (first | (simp (disch := omega) only [evl, Nat.reduceEqDiff, Nat.reduceAdd, reduceIte, reduceCtorEq, h1] <;> exact rfl) | exact rfl)), (by (first | (simp (disch := omega) only [evl, Nat.reduceEqDiff, Nat.reduceAdd, reduceIte, reduceCtorEq, h2] <;> exact rfl) | exact rfl))⟩, (by (first | (simp (disch := omega) only [evl, Nat.reduceEqDiff, Nat.reduceAdd, reduceIte, reduceCtorEq] <;> exact rfl) | exact rfl)), (by (first | (simp (disch := omega) only [evl, Nat.reduceEqDiff, Nat.reduceAdd, reduceIte, reduceCtorEq, hj] <;> exact rfl) | exact rfl)), rfl, fun s g1 g2 => ?_⟩
          by_cases hs : s = u
          · subst hs; show g xs s < v; rw [← hv]; omega
          · exact hal s g1 (by omega)
      · (repeat' (first | refine Z ?_ | refine Zq ?_ | refine rn_blk_x (by decide) ?_ | ((first | refine' Y ?_ ?_ | refine' X ?_ ?_ ?_); rotate_left; (· (first | (simp (disch := omega) only [evl, Nat.reduceEqDiff, Nat.reduceAdd, reduceIte, reduceCtorEq, h0, h1, hi', hj] <;> exact rfl) | exact rfl)); all_goals try (refine fun (hb : _ = _) => ?_; try simp only [Zu, ne_eq, reduceCtorEq] at hb)) | (apply rk_gd_u; · simp [evl])))
        refine rn_nil ?_
        · refine lpq_e ?_
          exact ⟨rfl, rfl, ⟨(by (first | (simp (disch := omega) only [evl, Nat.reduceEqDiff, Nat.reduceAdd, reduceIte, reduceCtorEq, h0] <;> exact rfl) | exact rfl)), (by (first | (simp (disch := omega) only [evl, Nat.reduceEqDiff, Nat.reduceAdd, reduceIte, reduceCtorEq, h1] <;> exact rfl) | exact rfl)), (by (first | (simp (disch := omega) only [evl, Nat.reduceEqDiff, Nat.reduceAdd, reduceIte, reduceCtorEq, h2] <;> exact rfl) | exact rfl))⟩, u, g1, g2, (by (first | (simp (disch := omega) only [evl, Nat.reduceEqDiff, Nat.reduceAdd, reduceIte, reduceCtorEq, hi'] <;> exact rfl) | exact rfl)), (by (first | (simp (disch := omega) only [evl, Nat.reduceEqDiff, Nat.reduceAdd, reduceIte, reduceCtorEq, hj] <;> exact rfl) | exact rfl)), hal, .inr (by rw [← hv]; omega)⟩
    · (repeat' (first | refine Z ?_ | refine Zq ?_ | refine rn_blk_x (by decide) ?_ | ((first | refine' Y ?_ ?_ | refine' X ?_ ?_ ?_); rotate_left; (· (first | (simp (disch := omega) only [evl, Nat.reduceEqDiff, Nat.reduceAdd, reduceIte, reduceCtorEq, h0, h1, hi', hj] <;> exact rfl) | exact rfl)); all_goals try (refine fun (hb : _ = _) => ?_; try simp only [Zu, ne_eq, reduceCtorEq] at hb)) | (apply rk_gd_u; · simp [evl])))
      refine rn_nil ?_
      refine lpq_e ?_
      exact ⟨rfl, rfl, ⟨(by (first | (simp (disch := omega) only [evl, Nat.reduceEqDiff, Nat.reduceAdd, reduceIte, reduceCtorEq, h0] <;> exact rfl) | exact rfl)), (by (first | (simp (disch := omega) only [evl, Nat.reduceEqDiff, Nat.reduceAdd, reduceIte, reduceCtorEq, h1] <;> exact rfl) | exact rfl)), (by (first | (simp (disch := omega) only [evl, Nat.reduceEqDiff, Nat.reduceAdd, reduceIte, reduceCtorEq, h2] <;> exact rfl) | exact rfl))⟩, u, g1, g2, (by (first | (simp (disch := omega) only [evl, Nat.reduceEqDiff, Nat.reduceAdd, reduceIte, reduceCtorEq, hi'] <;> exact rfl) | exact rfl)), (by (first | (simp (disch := omega) only [evl, Nat.reduceEqDiff, Nat.reduceAdd, reduceIte, reduceCtorEq, hj] <;> exact rfl) | exact rfl)), hal, .inl (by omega)⟩
  · exact ⟨i0, rfl, Nat.le_refl _, hij, hT, hti, htj, rfl, fun s g1 g2 => by omega⟩

set_option maxHeartbeats 4000000 in
theorem scan71_1 (T : Tr AV) (H : AH) (xs : List Int) (i c a b i0 j : Nat) (op op' : Bool) (v : Int) (hv : g xs a = v) (hT : Pa T i xs.length c a b op) (hij : i0 ≤ j + 1) (hjb : j < b) (ha : a < i0) (hti : gT T 10 = .int .i64 i0) (htj : gT T 11 = .int .i64 j)
    (hr : Row H i false op' 3 1 (iC xs)) (hb' : b ≤ xs.length) (hl : xs.length ≤ 1000000) :
    LpE look f71b1 T H fun ex T' H' => ex = .exit 2 ∧ H' = H ∧ Pa T' i xs.length c a b op ∧ ∃ w : Nat, i0 ≤ w + 1 ∧ w ≤ j ∧ gT T' 10 = .int .i64 i0 ∧ gT T' 11 = .int .i64 w ∧ al (fun x => v ≤ x) xs (w + 1) (j + 1) ∧ (i0 = w + 1 ∨ ¬ (v ≤ g xs w)) := by
  refine lp_ind f71l1_eq (fun k T H' => ∃ w : Nat, k = w + 1 - i0 ∧ i0 ≤ w + 1 ∧ w ≤ j ∧ Pa T i xs.length c a b op ∧ gT T 10 = .int .i64 i0 ∧ gT T 11 = .int .i64 w ∧ H' = H ∧ al (fun x => v ≤ x) xs (w + 1) (j + 1)) _ ?_ (j + 1 - i0) _ _ ?_
  · intro k T H1 hI
    obtain ⟨w, hk, g1, g2, ⟨h0, h1, h2⟩, hi', hj, rfl, hal⟩ := hI
    unfold f71l1
    by_cases hlt : i0 ≤ w
    · have hixA := ixn (i := i) (n := xs.length) (c := c) (op := op) (k := w) (by omega)
      have hixB := ixn (i := i) (n := xs.length) (c := c) (op := op) (k := a) (by omega)
      have hrdA := rd hr (k := w) (by omega)
      have hrdB := rd hr (k := a) (by omega)
      (repeat' (first | refine Z ?_ | refine Zq ?_ | refine rn_blk_x (by decide) ?_ | ((first | refine' Y ?_ ?_ | refine' X ?_ ?_ ?_); rotate_left; (· (first | (simp (disch := omega) only [evl, Nat.reduceEqDiff, Nat.reduceAdd, reduceIte, reduceCtorEq, h0, h1, hi', hj, hixA, hixB, hrdA, hrdB] <;> exact rfl) | exact rfl)); all_goals try (refine fun (hb : _ = _) => ?_; try simp only [Zu, ne_eq, reduceCtorEq] at hb)) | (apply rk_gd_u; · simp [evl])))
      refine rk_cl (by (simp (disch := omega) only [evl, Nat.reduceEqDiff, Nat.reduceAdd, reduceIte, reduceCtorEq]); exact less_ok H1 (g xs w) (g xs a)) ?_
      rintro rr H2 ⟨rfl, hH2⟩
      cases hH2
      simp only [hOut_f]
      by_cases hc : g xs w < g xs a
      · (repeat' (first | refine Z ?_ | refine Zq ?_ | refine rn_blk_x (by decide) ?_ | ((first | refine' Y ?_ ?_ | refine' X ?_ ?_ ?_); rotate_left; (· (first | (simp (disch := omega) only [evl, Nat.reduceEqDiff, Nat.reduceAdd, reduceIte, reduceCtorEq, h0, h1, hi', hj] <;> exact rfl) | exact rfl)); all_goals try (refine fun (hb : _ = _) => ?_; try simp only [Zu, ne_eq, reduceCtorEq] at hb)) | (apply rk_gd_u; · simp [evl])))
        refine rn_nil ?_
        · refine lpq_e ?_
          exact ⟨rfl, rfl, ⟨(by (first | (simp (disch := omega) only [evl, Nat.reduceEqDiff, Nat.reduceAdd, reduceIte, reduceCtorEq, h0] <;> exact rfl) | exact rfl)), (by (first | (simp (disch := omega) only [evl, Nat.reduceEqDiff, Nat.reduceAdd, reduceIte, reduceCtorEq, h1] <;> exact rfl) | exact rfl)), (by (first | (simp (disch := omega) only [evl, Nat.reduceEqDiff, Nat.reduceAdd, reduceIte, reduceCtorEq, h2] <;> exact rfl) | exact rfl))⟩, w, g1, g2, (by (first | (simp (disch := omega) only [evl, Nat.reduceEqDiff, Nat.reduceAdd, reduceIte, reduceCtorEq, hi'] <;> exact rfl) | exact rfl)), (by (first | (simp (disch := omega) only [evl, Nat.reduceEqDiff, Nat.reduceAdd, reduceIte, reduceCtorEq, hj] <;> exact rfl) | exact rfl)), hal, .inr (by rw [← hv]; omega)⟩
      · (repeat' (first | refine Z ?_ | refine Zq ?_ | refine rn_blk_x (by decide) ?_ | ((first | refine' Y ?_ ?_ | refine' X ?_ ?_ ?_); rotate_left; (· (first | (simp (disch := omega) only [evl, Nat.reduceEqDiff, Nat.reduceAdd, reduceIte, reduceCtorEq, h0, h1, hi', hj] <;> exact rfl) | exact rfl)); all_goals try (refine fun (hb : _ = _) => ?_; try simp only [Zu, ne_eq, reduceCtorEq] at hb)) | (apply rk_gd_u; · simp [evl])))
        refine rn_nil ?_
        · refine lpq_n (w - 1 + 1 - i0) (by omega) ?_
          refine ⟨w - 1, rfl, by omega, by omega, ⟨(by (first | (simp (disch := omega) only [evl, Nat.reduceEqDiff, Nat.reduceAdd, reduceIte, reduceCtorEq, h0] <;> exact rfl) | exact rfl)), (by (first | (simp (disch := omega) only [evl, Nat.reduceEqDiff, Nat.reduceAdd, reduceIte, reduceCtorEq, h1] <;> exact rfl) | exact rfl)), (by (first | (simp (disch := omega) only [evl, Nat.reduceEqDiff, Nat.reduceAdd, reduceIte, reduceCtorEq, h2] <;> exact rfl) | exact rfl))⟩, (by (first | (simp (disch := omega) only [evl, Nat.reduceEqDiff, Nat.reduceAdd, reduceIte, reduceCtorEq, hi'] <;> exact rfl) | exact rfl)), ?_, rfl, fun s g1 g2 => ?_⟩
          · (simp (disch := omega) only [evl, Nat.reduceEqDiff, Nat.reduceAdd, reduceIte, reduceCtorEq, hj])
            rw [show (w : Int) - 1 = ((w - 1 : Nat) : Int) from by omega]
          by_cases hs : s = w
          · subst hs; show v ≤ g xs s; rw [← hv]; omega
          · exact hal s (by omega) g2
    · (repeat' (first | refine Z ?_ | refine Zq ?_ | refine rn_blk_x (by decide) ?_ | ((first | refine' Y ?_ ?_ | refine' X ?_ ?_ ?_); rotate_left; (· (first | (simp (disch := omega) only [evl, Nat.reduceEqDiff, Nat.reduceAdd, reduceIte, reduceCtorEq, h0, h1, hi', hj] <;> exact rfl) | exact rfl)); all_goals try (refine fun (hb : _ = _) => ?_; try simp only [Zu, ne_eq, reduceCtorEq] at hb)) | (apply rk_gd_u; · simp [evl])))
      refine rn_nil ?_
      refine lpq_e ?_
      exact ⟨rfl, rfl, ⟨(by (first | (simp (disch := omega) only [evl, Nat.reduceEqDiff, Nat.reduceAdd, reduceIte, reduceCtorEq, h0] <;> exact rfl) | exact rfl)), (by (first | (simp (disch := omega) only [evl, Nat.reduceEqDiff, Nat.reduceAdd, reduceIte, reduceCtorEq, h1] <;> exact rfl) | exact rfl)), (by (first | (simp (disch := omega) only [evl, Nat.reduceEqDiff, Nat.reduceAdd, reduceIte, reduceCtorEq, h2] <;> exact rfl) | exact rfl))⟩, w, g1, g2, (by (first | (simp (disch := omega) only [evl, Nat.reduceEqDiff, Nat.reduceAdd, reduceIte, reduceCtorEq, hi'] <;> exact rfl) | exact rfl)), (by (first | (simp (disch := omega) only [evl, Nat.reduceEqDiff, Nat.reduceAdd, reduceIte, reduceCtorEq, hj] <;> exact rfl) | exact rfl)), hal, .inl (by omega)⟩
  · exact ⟨j, rfl, hij, Nat.le_refl _, hT, hti, htj, rfl, fun s g1 g2 => by omega⟩

set_option maxHeartbeats 4000000 in
theorem scan71_3 (T : Tr AV) (H : AH) (xs : List Int) (i c a b i0 j : Nat) (op op' : Bool) (v : Int) (hv : g xs a = v) (hT : Pa T i xs.length c a b op) (hij : i0 ≤ j + 1) (hjb : j < b) (ha : a ≤ i0) (hti : gT T 10 = .int .i64 i0) (htj : gT T 11 = .int .i64 j)
    (hr : Row H i false op' 3 1 (iC xs)) (hb' : b ≤ xs.length) (hl : xs.length ≤ 1000000) :
    LpE look f71b3 T H fun ex T' H' => ex = .exit 6 ∧ H' = H ∧ Pa T' i xs.length c a b op ∧ ∃ u : Nat, i0 ≤ u ∧ u ≤ j + 1 ∧ gT T' 10 = .int .i64 u ∧ gT T' 11 = .int .i64 j ∧ al (fun x => x < v) xs i0 u ∧ (u = j + 1 ∨ ¬ (g xs u < v)) := by
  refine lp_ind f71l3_eq (fun k T H' => ∃ u : Nat, k = j + 1 - u ∧ i0 ≤ u ∧ u ≤ j + 1 ∧ Pa T i xs.length c a b op ∧ gT T 10 = .int .i64 u ∧ gT T 11 = .int .i64 j ∧ H' = H ∧ al (fun x => x < v) xs i0 u) _ ?_ (j + 1 - i0) _ _ ?_
  · intro k T H1 hI
    obtain ⟨u, hk, g1, g2, ⟨h0, h1, h2⟩, hi', hj, rfl, hal⟩ := hI
    unfold f71l3
    by_cases hlt : u ≤ j
    · have hixA := ixn (i := i) (n := xs.length) (c := c) (op := op) (k := u) (by omega)
      have hixB := ixn (i := i) (n := xs.length) (c := c) (op := op) (k := a) (by omega)
      have hrdA := rd hr (k := u) (by omega)
      have hrdB := rd hr (k := a) (by omega)
      (repeat' (first | refine Z ?_ | refine Zq ?_ | refine rn_blk_x (by decide) ?_ | ((first | refine' Y ?_ ?_ | refine' X ?_ ?_ ?_); rotate_left; (· (first | (simp (disch := omega) only [evl, Nat.reduceEqDiff, Nat.reduceAdd, reduceIte, reduceCtorEq, h0, h1, hi', hj, hixA, hixB, hrdA, hrdB] <;> exact rfl) | exact rfl)); all_goals try (refine fun (hb : _ = _) => ?_; try simp only [Zu, ne_eq, reduceCtorEq] at hb)) | (apply rk_gd_u; · simp [evl])))
      refine rk_cl (by (simp (disch := omega) only [evl, Nat.reduceEqDiff, Nat.reduceAdd, reduceIte, reduceCtorEq]); exact less_ok H1 (g xs u) (g xs a)) ?_
      rintro rr H2 ⟨rfl, hH2⟩
      cases hH2
      simp only [hOut_f]
      by_cases hc : g xs u < g xs a
      · (repeat' (first | refine Z ?_ | refine Zq ?_ | refine rn_blk_x (by decide) ?_ | ((first | refine' Y ?_ ?_ | refine' X ?_ ?_ ?_); rotate_left; (· (first | (simp (disch := omega) only [evl, Nat.reduceEqDiff, Nat.reduceAdd, reduceIte, reduceCtorEq, h0, h1, hi', hj] <;> exact rfl) | exact rfl)); all_goals try (refine fun (hb : _ = _) => ?_; try simp only [Zu, ne_eq, reduceCtorEq] at hb)) | (apply rk_gd_u; · simp [evl])))
        refine rn_nil ?_
        · refine lpq_n (j + 1 - (u + 1)) (by omega) ?_
          refine ⟨u + 1, rfl, by omega, by omega, ⟨(by (first | (simp (disch := omega) only [evl, Nat.reduceEqDiff, Nat.reduceAdd, reduceIte, reduceCtorEq, h0] <;> exact rfl) | exact rfl)), (by (first | (simp (disch := omega) only [evl, Nat.reduceEqDiff, Nat.reduceAdd, reduceIte, reduceCtorEq, h1] <;> exact rfl) | exact rfl)), (by (first | (simp (disch := omega) only [evl, Nat.reduceEqDiff, Nat.reduceAdd, reduceIte, reduceCtorEq, h2] <;> exact rfl) | exact rfl))⟩, (by (first | (simp (disch := omega) only [evl, Nat.reduceEqDiff, Nat.reduceAdd, reduceIte, reduceCtorEq] <;> exact rfl) | exact rfl)), (by (first | (simp (disch := omega) only [evl, Nat.reduceEqDiff, Nat.reduceAdd, reduceIte, reduceCtorEq, hj] <;> exact rfl) | exact rfl)), rfl, fun s g1 g2 => ?_⟩
          by_cases hs : s = u
          · subst hs; show g xs s < v; rw [← hv]; omega
          · exact hal s g1 (by omega)
      · (repeat' (first | refine Z ?_ | refine Zq ?_ | refine rn_blk_x (by decide) ?_ | ((first | refine' Y ?_ ?_ | refine' X ?_ ?_ ?_); rotate_left; (· (first | (simp (disch := omega) only [evl, Nat.reduceEqDiff, Nat.reduceAdd, reduceIte, reduceCtorEq, h0, h1, hi', hj] <;> exact rfl) | exact rfl)); all_goals try (refine fun (hb : _ = _) => ?_; try simp only [Zu, ne_eq, reduceCtorEq] at hb)) | (apply rk_gd_u; · simp [evl])))
        refine rn_nil ?_
        · refine lpq_e ?_
          exact ⟨rfl, rfl, ⟨(by (first | (simp (disch := omega) only [evl, Nat.reduceEqDiff, Nat.reduceAdd, reduceIte, reduceCtorEq, h0] <;> exact rfl) | exact rfl)), (by (first | (simp (disch := omega) only [evl, Nat.reduceEqDiff, Nat.reduceAdd, reduceIte, reduceCtorEq, h1] <;> exact rfl) | exact rfl)), (by (first | (simp (disch := omega) only [evl, Nat.reduceEqDiff, Nat.reduceAdd, reduceIte, reduceCtorEq, h2] <;> exact rfl) | exact rfl))⟩, u, g1, g2, (by (first | (simp (disch := omega) only [evl, Nat.reduceEqDiff, Nat.reduceAdd, reduceIte, reduceCtorEq, hi'] <;> exact rfl) | exact rfl)), (by (first | (simp (disch := omega) only [evl, Nat.reduceEqDiff, Nat.reduceAdd, reduceIte, reduceCtorEq, hj] <;> exact rfl) | exact rfl)), hal, .inr (by rw [← hv]; omega)⟩
    · (repeat' (first | refine Z ?_ | refine Zq ?_ | refine rn_blk_x (by decide) ?_ | ((first | refine' Y ?_ ?_ | refine' X ?_ ?_ ?_); rotate_left; (· (first | (simp (disch := omega) only [evl, Nat.reduceEqDiff, Nat.reduceAdd, reduceIte, reduceCtorEq, h0, h1, hi', hj] <;> exact rfl) | exact rfl)); all_goals try (refine fun (hb : _ = _) => ?_; try simp only [Zu, ne_eq, reduceCtorEq] at hb)) | (apply rk_gd_u; · simp [evl])))
      refine rn_nil ?_
      refine lpq_e ?_
      exact ⟨rfl, rfl, ⟨(by (first | (simp (disch := omega) only [evl, Nat.reduceEqDiff, Nat.reduceAdd, reduceIte, reduceCtorEq, h0] <;> exact rfl) | exact rfl)), (by (first | (simp (disch := omega) only [evl, Nat.reduceEqDiff, Nat.reduceAdd, reduceIte, reduceCtorEq, h1] <;> exact rfl) | exact rfl)), (by (first | (simp (disch := omega) only [evl, Nat.reduceEqDiff, Nat.reduceAdd, reduceIte, reduceCtorEq, h2] <;> exact rfl) | exact rfl))⟩, u, g1, g2, (by (first | (simp (disch := omega) only [evl, Nat.reduceEqDiff, Nat.reduceAdd, reduceIte, reduceCtorEq, hi'] <;> exact rfl) | exact rfl)), (by (first | (simp (disch := omega) only [evl, Nat.reduceEqDiff, Nat.reduceAdd, reduceIte, reduceCtorEq, hj] <;> exact rfl) | exact rfl)), hal, .inl (by omega)⟩
  · exact ⟨i0, rfl, Nat.le_refl _, hij, hT, hti, htj, rfl, fun s g1 g2 => by omega⟩

set_option maxHeartbeats 4000000 in
theorem scan71_4 (T : Tr AV) (H : AH) (xs : List Int) (i c a b i0 j : Nat) (op op' : Bool) (v : Int) (hv : g xs a = v) (hT : Pa T i xs.length c a b op) (hij : i0 ≤ j + 1) (hjb : j < b) (ha : a < i0) (hti : gT T 10 = .int .i64 i0) (htj : gT T 11 = .int .i64 j)
    (hr : Row H i false op' 3 1 (iC xs)) (hb' : b ≤ xs.length) (hl : xs.length ≤ 1000000) :
    LpE look f71b4 T H fun ex T' H' => ex = .exit 8 ∧ H' = H ∧ Pa T' i xs.length c a b op ∧ ∃ w : Nat, i0 ≤ w + 1 ∧ w ≤ j ∧ gT T' 10 = .int .i64 i0 ∧ gT T' 11 = .int .i64 w ∧ al (fun x => v ≤ x) xs (w + 1) (j + 1) ∧ (i0 = w + 1 ∨ ¬ (v ≤ g xs w)) := by
  refine lp_ind f71l4_eq (fun k T H' => ∃ w : Nat, k = w + 1 - i0 ∧ i0 ≤ w + 1 ∧ w ≤ j ∧ Pa T i xs.length c a b op ∧ gT T 10 = .int .i64 i0 ∧ gT T 11 = .int .i64 w ∧ H' = H ∧ al (fun x => v ≤ x) xs (w + 1) (j + 1)) _ ?_ (j + 1 - i0) _ _ ?_
  · intro k T H1 hI
    obtain ⟨w, hk, g1, g2, ⟨h0, h1, h2⟩, hi', hj, rfl, hal⟩ := hI
    unfold f71l4
    by_cases hlt : i0 ≤ w
    · have hixA := ixn (i := i) (n := xs.length) (c := c) (op := op) (k := w) (by omega)
      have hixB := ixn (i := i) (n := xs.length) (c := c) (op := op) (k := a) (by omega)
      have hrdA := rd hr (k := w) (by omega)
      have hrdB := rd hr (k := a) (by omega)
      (repeat' (first | refine Z ?_ | refine Zq ?_ | refine rn_blk_x (by decide) ?_ | ((first | refine' Y ?_ ?_ | refine' X ?_ ?_ ?_); rotate_left; (· (first | (simp (disch := omega) only [evl, Nat.reduceEqDiff, Nat.reduceAdd, reduceIte, reduceCtorEq, h0, h1, hi', hj, hixA, hixB, hrdA, hrdB] <;> exact rfl) | exact rfl)); all_goals try (refine fun (hb : _ = _) => ?_; try simp only [Zu, ne_eq, reduceCtorEq] at hb)) | (apply rk_gd_u; · simp [evl])))
      refine rk_cl (by (simp (disch := omega) only [evl, Nat.reduceEqDiff, Nat.reduceAdd, reduceIte, reduceCtorEq]); exact less_ok H1 (g xs w) (g xs a)) ?_
      rintro rr H2 ⟨rfl, hH2⟩
      cases hH2
      simp only [hOut_f]
      by_cases hc : g xs w < g xs a
      · (repeat' (first | refine Z ?_ | refine Zq ?_ | refine rn_blk_x (by decide) ?_ | ((first | refine' Y ?_ ?_ | refine' X ?_ ?_ ?_); rotate_left; (· (first | (simp (disch := omega) only [evl, Nat.reduceEqDiff, Nat.reduceAdd, reduceIte, reduceCtorEq, h0, h1, hi', hj] <;> exact rfl) | exact rfl)); all_goals try (refine fun (hb : _ = _) => ?_; try simp only [Zu, ne_eq, reduceCtorEq] at hb)) | (apply rk_gd_u; · simp [evl])))
        refine rn_nil ?_
        · refine lpq_e ?_
          exact ⟨rfl, rfl, ⟨(by (first | (simp (disch := omega) only [evl, Nat.reduceEqDiff, Nat.reduceAdd, reduceIte, reduceCtorEq, h0] <;> exact rfl) | exact rfl)), (by (first | (simp (disch := omega) only [evl, Nat.reduceEqDiff, Nat.reduceAdd, reduceIte, reduceCtorEq, h1] <;> exact rfl) | exact rfl)), (by (first | (simp (disch := omega) only [evl, Nat.reduceEqDiff, Nat.reduceAdd, reduceIte, reduceCtorEq, h2] <;> exact rfl) | exact rfl))⟩, w, g1, g2, (by (first | (simp (disch := omega) only [evl, Nat.reduceEqDiff, Nat.reduceAdd, reduceIte, reduceCtorEq, hi'] <;> exact rfl) | exact rfl)), (by (first | (simp (disch := omega) only [evl, Nat.reduceEqDiff, Nat.reduceAdd, reduceIte, reduceCtorEq, hj] <;> exact rfl) | exact rfl)), hal, .inr (by rw [← hv]; omega)⟩
      · (repeat' (first | refine Z ?_ | refine Zq ?_ | refine rn_blk_x (by decide) ?_ | ((first | refine' Y ?_ ?_ | refine' X ?_ ?_ ?_); rotate_left; (· (first | (simp (disch := omega) only [evl, Nat.reduceEqDiff, Nat.reduceAdd, reduceIte, reduceCtorEq, h0, h1, hi', hj] <;> exact rfl) | exact rfl)); all_goals try (refine fun (hb : _ = _) => ?_; try simp only [Zu, ne_eq, reduceCtorEq] at hb)) | (apply rk_gd_u; · simp [evl])))
        refine rn_nil ?_
        · refine lpq_n (w - 1 + 1 - i0) (by omega) ?_
          refine ⟨w - 1, rfl, by omega, by omega, ⟨(by (first | (simp (disch := omega) only [evl, Nat.reduceEqDiff, Nat.reduceAdd, reduceIte, reduceCtorEq, h0] <;> exact rfl) | exact rfl)), (by (first | (simp (disch := omega) only [evl, Nat.reduceEqDiff, Nat.reduceAdd, reduceIte, reduceCtorEq, h1] <;> exact rfl) | exact rfl)), (by (first | (simp (disch := omega) only [evl, Nat.reduceEqDiff, Nat.reduceAdd, reduceIte, reduceCtorEq, h2] <;> exact rfl) | exact rfl))⟩, (by (first | (simp (disch := omega) only [evl, Nat.reduceEqDiff, Nat.reduceAdd, reduceIte, reduceCtorEq, hi'] <;> exact rfl) | exact rfl)), ?_, rfl, fun s g1 g2 => ?_⟩
          · (simp (disch := omega) only [evl, Nat.reduceEqDiff, Nat.reduceAdd, reduceIte, reduceCtorEq, hj])
            rw [show (w : Int) - 1 = ((w - 1 : Nat) : Int) from by omega]
          by_cases hs : s = w
          · subst hs; show v ≤ g xs s; rw [← hv]; omega
          · exact hal s (by omega) g2
    · (repeat' (first | refine Z ?_ | refine Zq ?_ | refine rn_blk_x (by decide) ?_ | ((first | refine' Y ?_ ?_ | refine' X ?_ ?_ ?_); rotate_left; (· (first | (simp (disch := omega) only [evl, Nat.reduceEqDiff, Nat.reduceAdd, reduceIte, reduceCtorEq, h0, h1, hi', hj] <;> exact rfl) | exact rfl)); all_goals try (refine fun (hb : _ = _) => ?_; try simp only [Zu, ne_eq, reduceCtorEq] at hb)) | (apply rk_gd_u; · simp [evl])))
      refine rn_nil ?_
      refine lpq_e ?_
      exact ⟨rfl, rfl, ⟨(by (first | (simp (disch := omega) only [evl, Nat.reduceEqDiff, Nat.reduceAdd, reduceIte, reduceCtorEq, h0] <;> exact rfl) | exact rfl)), (by (first | (simp (disch := omega) only [evl, Nat.reduceEqDiff, Nat.reduceAdd, reduceIte, reduceCtorEq, h1] <;> exact rfl) | exact rfl)), (by (first | (simp (disch := omega) only [evl, Nat.reduceEqDiff, Nat.reduceAdd, reduceIte, reduceCtorEq, h2] <;> exact rfl) | exact rfl))⟩, w, g1, g2, (by (first | (simp (disch := omega) only [evl, Nat.reduceEqDiff, Nat.reduceAdd, reduceIte, reduceCtorEq, hi'] <;> exact rfl) | exact rfl)), (by (first | (simp (disch := omega) only [evl, Nat.reduceEqDiff, Nat.reduceAdd, reduceIte, reduceCtorEq, hj] <;> exact rfl) | exact rfl)), hal, .inl (by omega)⟩
  · exact ⟨j, rfl, hij, Nat.le_refl _, hT, hti, htj, rfl, fun s g1 g2 => by omega⟩

set_option maxHeartbeats 4000000 in
theorem scan70_1 (T : Tr AV) (H : AH) (xs : List Int) (i c a b i0 j : Nat) (op op' : Bool) (v : Int) (hv : g xs a = v) (hT : Pa T i xs.length c a b op) (hij : i0 ≤ j + 1) (hjb : j < b) (ha : a ≤ i0) (hti : gT T 9 = .int .i64 i0) (htj : gT T 10 = .int .i64 j)
    (hr : Row H i false op' 3 1 (iC xs)) (hb' : b ≤ xs.length) (hl : xs.length ≤ 1000000) :
    LpE look f70b1 T H fun ex T' H' => ex = .exit 2 ∧ H' = H ∧ Pa T' i xs.length c a b op ∧ ∃ u : Nat, i0 ≤ u ∧ u ≤ j + 1 ∧ gT T' 9 = .int .i64 u ∧ gT T' 10 = .int .i64 j ∧ al (fun x => x ≤ v) xs i0 u ∧ (u = j + 1 ∨ ¬ (g xs u ≤ v)) := by
  refine lp_ind f70l1_eq (fun k T H' => ∃ u : Nat, k = j + 1 - u ∧ i0 ≤ u ∧ u ≤ j + 1 ∧ Pa T i xs.length c a b op ∧ gT T 9 = .int .i64 u ∧ gT T 10 = .int .i64 j ∧ H' = H ∧ al (fun x => x ≤ v) xs i0 u) _ ?_ (j + 1 - i0) _ _ ?_
  · intro k T H1 hI
    obtain ⟨u, hk, g1, g2, ⟨h0, h1, h2⟩, hi', hj, rfl, hal⟩ := hI
    unfold f70l1
    by_cases hlt : u ≤ j
    · have hixA := ixn (i := i) (n := xs.length) (c := c) (op := op) (k := u) (by omega)
      have hixB := ixn (i := i) (n := xs.length) (c := c) (op := op) (k := a) (by omega)
      have hrdA := rd hr (k := u) (by omega)
      have hrdB := rd hr (k := a) (by omega)
      (repeat' (first | refine Z ?_ | refine Zq ?_ | refine rn_blk_x (by decide) ?_ | ((first | refine' Y ?_ ?_ | refine' X ?_ ?_ ?_); rotate_left; (· (first | (simp (disch := omega) only [evl, Nat.reduceEqDiff, Nat.reduceAdd, reduceIte, reduceCtorEq, h0, h1, hi', hj, hixA, hixB, hrdA, hrdB] <;> exact rfl) | exact rfl)); all_goals try (refine fun (hb : _ = _) => ?_; try simp only [Zu, ne_eq, reduceCtorEq] at hb)) | (apply rk_gd_u; · simp [evl])))
      refine rk_cl (by (simp (disch := omega) only [evl, Nat.reduceEqDiff, Nat.reduceAdd, reduceIte, reduceCtorEq]); exact less_ok H1 (g xs a) (g xs u)) ?_
      rintro rr H2 ⟨rfl, hH2⟩
      cases hH2
      simp only [hOut_f]
      by_cases hc : g xs a < g xs u
      · (repeat' (first | refine Z ?_ | refine Zq ?_ | refine rn_blk_x (by decide) ?_ | ((first | refine' Y ?_ ?_ | refine' X ?_ ?_ ?_); rotate_left; (· (first | (simp (disch := omega) only [evl, Nat.reduceEqDiff, Nat.reduceAdd, reduceIte, reduceCtorEq, h0, h1, hi', hj] <;> exact rfl) | exact rfl)); all_goals try (refine fun (hb : _ = _) => ?_; try simp only [Zu, ne_eq, reduceCtorEq] at hb)) | (apply rk_gd_u; · simp [evl])))
        refine rn_nil ?_
        · refine lpq_e ?_
          exact ⟨rfl, rfl, ⟨(by (first | (simp (disch := omega) only [evl, Nat.reduceEqDiff, Nat.reduceAdd, reduceIte, reduceCtorEq, h0] <;> exact rfl) | exact rfl)), (by (first | (simp (disch := omega) only [evl, Nat.reduceEqDiff, Nat.reduceAdd, reduceIte, reduceCtorEq, h1] <;> exact rfl) | exact rfl)), (by (first | (simp (disch := omega) only [evl, Nat.reduceEqDiff, Nat.reduceAdd, reduceIte, reduceCtorEq, h2] <;> exact rfl) | exact rfl))⟩, u, g1, g2, (by (first | (simp (disch := omega) only [evl, Nat.reduceEqDiff, Nat.reduceAdd, reduceIte, reduceCtorEq, hi'] <;> exact rfl) | exact rfl)), (by (first | (simp (disch := omega) only [evl, Nat.reduceEqDiff, Nat.reduceAdd, reduceIte, reduceCtorEq, hj] <;> exact rfl) | exact rfl)), hal, .inr (by rw [← hv]; omega)⟩
      · (repeat' (first | refine Z ?_ | refine Zq ?_ | refine rn_blk_x (by decide) ?_ | ((first | refine' Y ?_ ?_ | refine' X ?_ ?_ ?_); rotate_left; (· (first | (simp (disch := omega) only [evl, Nat.reduceEqDiff, Nat.reduceAdd, reduceIte, reduceCtorEq, h0, h1, hi', hj] <;> exact rfl) | exact rfl)); all_goals try (refine fun (hb : _ = _) => ?_; try simp only [Zu, ne_eq, reduceCtorEq] at hb)) | (apply rk_gd_u; · simp [evl])))
        refine rn_nil ?_
        · refine lpq_n (j + 1 - (u + 1)) (by omega) ?_
          refine ⟨u + 1, rfl, by omega, by omega, ⟨(by (first | (simp (disch := omega) only [evl, Nat.reduceEqDiff, Nat.reduceAdd, reduceIte, reduceCtorEq, h0] <;> exact rfl) | exact rfl)), (by (first | (simp (disch := omega) only [evl, Nat.reduceEqDiff, Nat.reduceAdd, reduceIte, reduceCtorEq, h1] <;> exact rfl) | exact rfl)), (by (first | (simp (disch := omega) only [evl, Nat.reduceEqDiff, Nat.reduceAdd, reduceIte, reduceCtorEq, h2] <;> exact rfl) | exact rfl))⟩, (by (first | (simp (disch := omega) only [evl, Nat.reduceEqDiff, Nat.reduceAdd, reduceIte, reduceCtorEq] <;> exact rfl) | exact rfl)), (by (first | (simp (disch := omega) only [evl, Nat.reduceEqDiff, Nat.reduceAdd, reduceIte, reduceCtorEq, hj] <;> exact rfl) | exact rfl)), rfl, fun s g1 g2 => ?_⟩
          by_cases hs : s = u
          · subst hs; show g xs s ≤ v; rw [← hv]; omega
          · exact hal s g1 (by omega)
    · (repeat' (first | refine Z ?_ | refine Zq ?_ | refine rn_blk_x (by decide) ?_ | ((first | refine' Y ?_ ?_ | refine' X ?_ ?_ ?_); rotate_left; (· (first | (simp (disch := omega) only [evl, Nat.reduceEqDiff, Nat.reduceAdd, reduceIte, reduceCtorEq, h0, h1, hi', hj] <;> exact rfl) | exact rfl)); all_goals try (refine fun (hb : _ = _) => ?_; try simp only [Zu, ne_eq, reduceCtorEq] at hb)) | (apply rk_gd_u; · simp [evl])))
      refine rn_nil ?_
      refine lpq_e ?_
      exact ⟨rfl, rfl, ⟨(by (first | (simp (disch := omega) only [evl, Nat.reduceEqDiff, Nat.reduceAdd, reduceIte, reduceCtorEq, h0] <;> exact rfl) | exact rfl)), (by (first | (simp (disch := omega) only [evl, Nat.reduceEqDiff, Nat.reduceAdd, reduceIte, reduceCtorEq, h1] <;> exact rfl) | exact rfl)), (by (first | (simp (disch := omega) only [evl, Nat.reduceEqDiff, Nat.reduceAdd, reduceIte, reduceCtorEq, h2] <;> exact rfl) | exact rfl))⟩, u, g1, g2, (by (first | (simp (disch := omega) only [evl, Nat.reduceEqDiff, Nat.reduceAdd, reduceIte, reduceCtorEq, hi'] <;> exact rfl) | exact rfl)), (by (first | (simp (disch := omega) only [evl, Nat.reduceEqDiff, Nat.reduceAdd, reduceIte, reduceCtorEq, hj] <;> exact rfl) | exact rfl)), hal, .inl (by omega)⟩
  · exact ⟨i0, rfl, Nat.le_refl _, hij, hT, hti, htj, rfl, fun s g1 g2 => by omega⟩

set_option maxHeartbeats 4000000 in
theorem scan70_2 (T : Tr AV) (H : AH) (xs : List Int) (i c a b i0 j : Nat) (op op' : Bool) (v : Int) (hv : g xs a = v) (hT : Pa T i xs.length c a b op) (hij : i0 ≤ j + 1) (hjb : j < b) (ha : a < i0) (hti : gT T 9 = .int .i64 i0) (htj : gT T 10 = .int .i64 j)
    (hr : Row H i false op' 3 1 (iC xs)) (hb' : b ≤ xs.length) (hl : xs.length ≤ 1000000) :
    LpE look f70b2 T H fun ex T' H' => ex = .exit 4 ∧ H' = H ∧ Pa T' i xs.length c a b op ∧ ∃ w : Nat, i0 ≤ w + 1 ∧ w ≤ j ∧ gT T' 9 = .int .i64 i0 ∧ gT T' 10 = .int .i64 w ∧ al (fun x => v < x) xs (w + 1) (j + 1) ∧ (i0 = w + 1 ∨ ¬ (v < g xs w)) := by
  refine lp_ind f70l2_eq (fun k T H' => ∃ w : Nat, k = w + 1 - i0 ∧ i0 ≤ w + 1 ∧ w ≤ j ∧ Pa T i xs.length c a b op ∧ gT T 9 = .int .i64 i0 ∧ gT T 10 = .int .i64 w ∧ H' = H ∧ al (fun x => v < x) xs (w + 1) (j + 1)) _ ?_ (j + 1 - i0) _ _ ?_
  · intro k T H1 hI
    obtain ⟨w, hk, g1, g2, ⟨h0, h1, h2⟩, hi', hj, rfl, hal⟩ := hI
    unfold f70l2
    by_cases hlt : i0 ≤ w
    · have hixA := ixn (i := i) (n := xs.length) (c := c) (op := op) (k := w) (by omega)
      have hixB := ixn (i := i) (n := xs.length) (c := c) (op := op) (k := a) (by omega)
      have hrdA := rd hr (k := w) (by omega)
      have hrdB := rd hr (k := a) (by omega)
      (repeat' (first | refine Z ?_ | refine Zq ?_ | refine rn_blk_x (by decide) ?_ | ((first | refine' Y ?_ ?_ | refine' X ?_ ?_ ?_); rotate_left; (· (first | (simp (disch := omega) only [evl, Nat.reduceEqDiff, Nat.reduceAdd, reduceIte, reduceCtorEq, h0, h1, hi', hj, hixA, hixB, hrdA, hrdB] <;> exact rfl) | exact rfl)); all_goals try (refine fun (hb : _ = _) => ?_; try simp only [Zu, ne_eq, reduceCtorEq] at hb)) | (apply rk_gd_u; · simp [evl])))
      refine rk_cl (by (simp (disch := omega) only [evl, Nat.reduceEqDiff, Nat.reduceAdd, reduceIte, reduceCtorEq]); exact less_ok H1 (g xs a) (g xs w)) ?_
      rintro rr H2 ⟨rfl, hH2⟩
      cases hH2
      simp only [hOut_f]
      by_cases hc : g xs a < g xs w
      · (repeat' (first | refine Z ?_ | refine Zq ?_ | refine rn_blk_x (by decide) ?_ | ((first | refine' Y ?_ ?_ | refine' X ?_ ?_ ?_); rotate_left; (· (first | (simp (disch := omega) only [evl, Nat.reduceEqDiff, Nat.reduceAdd, reduceIte, reduceCtorEq, h0, h1, hi', hj] <;> exact rfl) | exact rfl)); all_goals try (refine fun (hb : _ = _) => ?_; try simp only [Zu, ne_eq, reduceCtorEq] at hb)) | (apply rk_gd_u; · simp [evl])))
        refine rn_nil ?_
        · refine lpq_n (w - 1 + 1 - i0) (by omega) ?_
          refine ⟨w - 1, rfl, by omega, by omega, ⟨(by (first | (simp (disch := omega) only [evl, Nat.reduceEqDiff, Nat.reduceAdd, reduceIte, reduceCtorEq, h0] <;> exact rfl) | exact rfl)), (by (first | (simp (disch := omega) only [evl, Nat.reduceEqDiff, Nat.reduceAdd, reduceIte, reduceCtorEq, h1] <;> exact rfl) | exact rfl)), (by (first | (simp (disch := omega) only [evl, Nat.reduceEqDiff, Nat.reduceAdd, reduceIte, reduceCtorEq, h2] <;> exact rfl) | exact rfl))⟩, (by (first | (simp (disch := omega) only [evl, Nat.reduceEqDiff, Nat.reduceAdd, reduceIte, reduceCtorEq, hi'] <;> exact rfl) | exact rfl)), ?_, rfl, fun s g1 g2 => ?_⟩
          · (simp (disch := omega) only [evl, Nat.reduceEqDiff, Nat.reduceAdd, reduceIte, reduceCtorEq, hj])
            rw [show (w : Int) - 1 = ((w - 1 : Nat) : Int) from by omega]
          by_cases hs : s = w
          · subst hs; show v < g xs s; rw [← hv]; omega
          · exact hal s (by omega) g2
      · (repeat' (first | refine Z ?_ | refine Zq ?_ | refine rn_blk_x (by decide) ?_ | ((first | refine' Y ?_ ?_ | refine' X ?_ ?_ ?_); rotate_left; (· (first | (simp (disch := omega) only [evl, Nat.reduceEqDiff, Nat.reduceAdd, reduceIte, reduceCtorEq, h0, h1, hi', hj] <;> exact rfl) | exact rfl)); all_goals try (refine fun (hb : _ = _) => ?_; try simp only [Zu, ne_eq, reduceCtorEq] at hb)) | (apply rk_gd_u; · simp [evl])))
        refine rn_nil ?_
        · refine lpq_e ?_
          exact ⟨rfl, rfl, ⟨(by (first | (simp (disch := omega) only [evl, Nat.reduceEqDiff, Nat.reduceAdd, reduceIte, reduceCtorEq, h0] <;> exact rfl) | exact rfl)), (by (first | (simp (disch := omega) only [evl, Nat.reduceEqDiff, Nat.reduceAdd, reduceIte, reduceCtorEq, h1] <;> exact rfl) | exact rfl)), (by (first | (simp (disch := omega) only [evl, Nat.reduceEqDiff, Nat.reduceAdd, reduceIte, reduceCtorEq, h2] <;> exact rfl) | exact rfl))⟩, w, g1, g2, (by (first | (simp (disch := omega) only [evl, Nat.reduceEqDiff, Nat.reduceAdd, reduceIte, reduceCtorEq, hi'] <;> exact rfl) | exact rfl)), (by (first | (simp (disch := omega) only [evl, Nat.reduceEqDiff, Nat.reduceAdd, reduceIte, reduceCtorEq, hj] <;> exact rfl) | exact rfl)), hal, .inr (by rw [← hv]; omega)⟩
    · (repeat' (first | refine Z ?_ | refine Zq ?_ | refine rn_blk_x (by decide) ?_ | ((first | refine' Y ?_ ?_ | refine' X ?_ ?_ ?_); rotate_left; (· (first | (simp (disch := omega) only [evl, Nat.reduceEqDiff, Nat.reduceAdd, reduceIte, reduceCtorEq, h0, h1, hi', hj] <;> exact rfl) | exact rfl)); all_goals try (refine fun (hb : _ = _) => ?_; try simp only [Zu, ne_eq, reduceCtorEq] at hb)) | (apply rk_gd_u; · simp [evl])))
      refine rn_nil ?_
      refine lpq_e ?_
      exact ⟨rfl, rfl, ⟨(by (first | (simp (disch := omega) only [evl, Nat.reduceEqDiff, Nat.reduceAdd, reduceIte, reduceCtorEq, h0] <;> exact rfl) | exact rfl)), (by (first | (simp (disch := omega) only [evl, Nat.reduceEqDiff, Nat.reduceAdd, reduceIte, reduceCtorEq, h1] <;> exact rfl) | exact rfl)), (by (first | (simp (disch := omega) only [evl, Nat.reduceEqDiff, Nat.reduceAdd, reduceIte, reduceCtorEq, h2] <;> exact rfl) | exact rfl))⟩, w, g1, g2, (by (first | (simp (disch := omega) only [evl, Nat.reduceEqDiff, Nat.reduceAdd, reduceIte, reduceCtorEq, hi'] <;> exact rfl) | exact rfl)), (by (first | (simp (disch := omega) only [evl, Nat.reduceEqDiff, Nat.reduceAdd, reduceIte, reduceCtorEq, hj] <;> exact rfl) | exact rfl)), hal, .inl (by omega)⟩
  · exact ⟨j, rfl, hij, Nat.le_refl _, hT, hti, htj, rfl, fun s g1 g2 => by omega⟩

end PQ
end Go.Proofs.Ytnkomaedmblemaa

set_option linter.unusedSimpArgs false
set_option linter.unusedVariables false
set_option maxRecDepth 100000
namespace Go.Proofs.Ytnkomaedmblemaa
open Go.Ev Exl
open Ra Rb Rc Rd Re Rf Rg Rh Ri Rj Rk Rl Rm Rn Ro Rp Rq Rr
namespace PQ

def Parted (xs : List Int) (a b p : Nat) (ys : List Int) (m : Nat) : Prop := a ≤ m ∧ m < b ∧ al (fun x => x < g xs p) ys a m ∧ g ys m = g xs p ∧ al (fun x => g xs p ≤ x) ys (m + 1) b
/-- The last swap. -/
theorem part_fin {ys : List Int} {a b j : Nat} {v : Int} (ha : a ≤ j) (hj : j < b) (hb : b ≤ ys.length) (hv : g ys a = v) (h1 : al (fun x => x < v) ys (a + 1) (j + 1)) (h2 : al (fun x => v ≤ x) ys (j + 1) b) :
    al (fun x => x < v) (sw ys j a) a j ∧ g (sw ys j a) j = v ∧ al (fun x => v ≤ x) (sw ys j a) (j + 1) b := by
  have hk := fun s => sw_key (xs := ys) (a := j) (b := a) (by omega) (by omega) s
  refine ⟨fun s g1 g2 => ?_, ?_, fun s g1 g2 => ?_⟩
  · show g (sw ys j a) s < v
    rw [hk]
    by_cases e : s = a
    · rw [if_pos e]; exact h1 j (by omega) (by omega)
    · rw [if_neg e, if_neg (by omega)]; exact h1 s (by omega) (by omega)
  · rw [hk]
    by_cases e : j = a
    · rw [if_pos e, e]; exact hv
    · rw [if_neg e, if_pos rfl]; exact hv
  · show v ≤ g (sw ys j a) s
    rw [hk, if_neg (by omega), if_neg (by omega)]; exact h2 s g1 g2

set_option maxHeartbeats 8000000 in
theorem part_ok (H : AH) (xs : List Int) (i c a b p : Nat) (op op' : Bool) (hr : Row H i false op' 3 1 (iC xs)) (hi : i < H.next) (hlo : H.lo ≤ i) (hh : H.hide = [])
    (hap : a ≤ p) (hpb : p < b) (hb' : b ≤ xs.length) (hl : xs.length ≤ 1000000) :
    FnE look 71 [.sl i 0 xs.length c op, .int .i64 a, .int .i64 b, .int .i64 p] H fun r H' => ∃ (m : Nat) (q : Bool), r = .tup [.int .i64 m, .bool q] ∧ Done xs i a b op' H H' fun ys => Parted xs a b p ys m := by
  refine fn_intro f71_eq (noext rfl) rfl ?_
  unfold f71c
  have hixA := ixn (i := i) (n := xs.length) (c := c) (op := op) (k := a) (by omega)
  have hixP := ixn (i := i) (n := xs.length) (c := c) (op := op) (k := p) (by omega)
  have hrdA := rd hr (k := a) (by omega)
  have hrdP := rd hr (k := p) (by omega)
  obtain ⟨H1, H2, hs1, hs2, hr2, hp2, hn2⟩ := swap hr (a := a) (b := p) hh hlo (by omega) (by omega)
  have hsw := sw_kp (xs := xs) (a := a) (b := p) (lo := a) (hi := b) (by omega) (by omega) (by omega) (by omega) (by omega) (by omega)
  have hv0 : g (sw xs a p) a = g xs p := by
    rw [sw_key (by omega) (by omega)]
    by_cases e : a = p
    · rw [if_pos e, e]
    · rw [if_neg e, if_pos rfl]
  obtain ⟨v, hv⟩ : ∃ v, v = g xs p := ⟨_, rfl⟩
  have e1 : (a : Int) + 1 = ((a + 1 : Nat) : Int) := by omega
  have e2 : (b : Int) - 1 = ((b - 1 : Nat) : Int) := by omega
  (repeat' (first | refine Z ?_ | refine Zq ?_ | refine rn_blk_x (by decide) ?_ | ((first | refine' Y ?_ ?_ | refine' X ?_ ?_ ?_); rotate_left; (· (first | (simp (disch := omega) only [evl, Nat.reduceEqDiff, Nat.reduceAdd, reduceIte, reduceCtorEq, hixA, hixP, hrdA, hrdP] <;> exact rfl) | exact rfl)); all_goals try (refine fun (hb : _ = _) => ?_; try simp only [Zu, ne_eq, reduceCtorEq] at hb)) | (apply rk_gd_u; · simp [evl])))
  apply rk_st
  · (simp (disch := omega) only [evl, Nat.reduceEqDiff, Nat.reduceAdd, reduceIte, reduceCtorEq])
    exact hs1
  simp only [hOut_f]
  (repeat' (first | refine Z ?_ | refine Zq ?_ | refine rn_blk_x (by decide) ?_ | ((first | refine' Y ?_ ?_ | refine' X ?_ ?_ ?_); rotate_left; (· (first | (simp (disch := omega) only [evl, Nat.reduceEqDiff, Nat.reduceAdd, reduceIte, reduceCtorEq, hixP] <;> exact rfl) | exact rfl)); all_goals try (refine fun (hb : _ = _) => ?_; try simp only [Zu, ne_eq, reduceCtorEq] at hb)) | (apply rk_gd_u; · simp [evl])))
  apply rk_st
  · (simp (disch := omega) only [evl, Nat.reduceEqDiff, Nat.reduceAdd, reduceIte, reduceCtorEq])
    exact hs2
  simp only [hOut_f]
  -- what is handed on
  have ret : ∀ (T : Tr AV) (H3 : AH) (ys : List Int) (j : Nat) (q : Bool), gT T 8 = .int .i64 j → gT T 9 = .bool q → HP (· ≠ i) H H3 → Row H3 i false op' 3 1 (iC ys) → Kp xs ys a b → Parted xs a b p ys j → FnQ look [.tmp 8, .tmp 9] (fun r H' => ∃ (m : Nat) (q : Bool), r = .tup [.int .i64 m, .bool q] ∧ Done xs i a b op' H H' fun ys => Parted xs a b p ys m) .ret T H3 := by
    intro T H3 ys j q h8 h9 hp hrow hkp hpt
    exact fq_ret (resV_2 _ _ _) ⟨j, q, by rw [h8, h9], hp, ys, hrow, hkp, hpt⟩
  -- the last swap of data[j] and data[a], before region r8 / r21
  (repeat' (first | refine Z ?_ | refine Zq ?_ | refine rn_blk_x (by decide) ?_ | ((first | refine' Y ?_ ?_ | refine' X ?_ ?_ ?_); rotate_left; (· (first | (simp (disch := omega) only [evl, Nat.reduceEqDiff, Nat.reduceAdd, reduceIte, reduceCtorEq, e1, e2] <;> exact rfl) | exact rfl)); all_goals try (refine fun (hb : _ = _) => ?_; try simp only [Zu, ne_eq, reduceCtorEq] at hb)) | (apply rk_gd_u; · simp [evl])))
  have hxl := sw_len xs a p
  generalize hxs : sw xs a p = x0 at *
  refine rc_loop (scan71_0 _ H2 x0 i c a b (a + 1) (b - 1) op op' v (by rw [hv0, hv]) (by rw [hxl]; exact ⟨(by (first | (simp (disch := omega) only [evl, Nat.reduceEqDiff, Nat.reduceAdd, reduceIte, reduceCtorEq] <;> exact rfl) | exact rfl)), (by (first | (simp (disch := omega) only [evl, Nat.reduceEqDiff, Nat.reduceAdd, reduceIte, reduceCtorEq] <;> exact rfl) | exact rfl)), (by (first | (simp (disch := omega) only [evl, Nat.reduceEqDiff, Nat.reduceAdd, reduceIte, reduceCtorEq] <;> exact rfl) | exact rfl))⟩) (by omega) (by omega) (by omega) (by (first | (simp (disch := omega) only [evl, Nat.reduceEqDiff, Nat.reduceAdd, reduceIte, reduceCtorEq, e1] <;> exact rfl) | exact rfl)) (by (first | (simp (disch := omega) only [evl, Nat.reduceEqDiff, Nat.reduceAdd, reduceIte, reduceCtorEq, e2] <;> exact rfl) | exact rfl)) hr2 (by omega) (by omega)) ?_
  rintro ex T1 H3 ⟨rfl, hH3, ⟨h0, h1, h2⟩, u, g1, g2, h10, h11, hal1, hst1⟩
  cases hH3
  rw [hxl] at h0
  (repeat' (first | refine Z ?_ | refine Zq ?_ | refine rn_blk_x (by decide) ?_ | ((first | refine' Y ?_ ?_ | refine' X ?_ ?_ ?_); rotate_left; (· (first | (simp (disch := omega) only [evl, Nat.reduceEqDiff, Nat.reduceAdd, reduceIte, reduceCtorEq] <;> exact rfl) | exact rfl)); all_goals try (refine fun (hb : _ = _) => ?_; try simp only [Zu, ne_eq, reduceCtorEq] at hb)) | (apply rk_gd_u; · simp [evl])))
  refine rc_loop (scan71_1 _ H2 x0 i c a b u (b - 1) op op' v (by rw [hv0, hv]) (by rw [hxl]; exact ⟨(by (first | (simp (disch := omega) only [evl, Nat.reduceEqDiff, Nat.reduceAdd, reduceIte, reduceCtorEq, h0] <;> exact rfl) | exact rfl)), (by (first | (simp (disch := omega) only [evl, Nat.reduceEqDiff, Nat.reduceAdd, reduceIte, reduceCtorEq, h1] <;> exact rfl) | exact rfl)), (by (first | (simp (disch := omega) only [evl, Nat.reduceEqDiff, Nat.reduceAdd, reduceIte, reduceCtorEq, h2] <;> exact rfl) | exact rfl))⟩) (by omega) (by omega) (by omega) (by (first | (simp (disch := omega) only [evl, Nat.reduceEqDiff, Nat.reduceAdd, reduceIte, reduceCtorEq, h10] <;> exact rfl) | exact rfl)) (by (first | (simp (disch := omega) only [evl, Nat.reduceEqDiff, Nat.reduceAdd, reduceIte, reduceCtorEq, h11] <;> exact rfl) | exact rfl)) hr2 (by omega) (by omega)) ?_
  rintro ex T2 H3 ⟨rfl, hH3, ⟨h0, h1, h2⟩, w, g3, g4, h10, h11, hal2, hst2⟩
  cases hH3
  rw [hxl] at h0
  have hixW := ixn (i := i) (n := xs.length) (c := c) (op := op) (k := w) (by omega)
  have hixA := ixn (i := i) (n := xs.length) (c := c) (op := op) (k := a) (by omega)
  have hrdW := rd hr2 (k := w) (by omega)
  have hrdA := rd hr2 (k := a) (by omega)
  by_cases hcross : w < u
  · obtain rfl : u = w + 1 := by omega
    obtain ⟨H4, H5, hs4, hs5, hr5, hp5, hn5⟩ := swap hr2 (a := w) (b := a) (hp2.hide.trans hh) (by rw [hp2.lo]; exact hlo) (by omega) (by omega)
    have hsw5 := sw_kp (xs := x0) (a := w) (b := a) (lo := a) (hi := b) (by omega) (by omega) (by omega) (by omega) (by omega) (by omega)
    (repeat' (first | refine Z ?_ | refine Zq ?_ | refine rn_blk_x (by decide) ?_ | ((first | refine' Y ?_ ?_ | refine' X ?_ ?_ ?_); rotate_left; (· (first | (simp (disch := omega) only [evl, Nat.reduceEqDiff, Nat.reduceAdd, reduceIte, reduceCtorEq, h0, h1, h10, h11, hixW, hixA, hrdW, hrdA] <;> exact rfl) | exact rfl)); all_goals try (refine fun (hb : _ = _) => ?_; try simp only [Zu, ne_eq, reduceCtorEq] at hb)) | (apply rk_gd_u; · simp [evl])))
    apply rk_st
    · (simp (disch := omega) only [evl, Nat.reduceEqDiff, Nat.reduceAdd, reduceIte, reduceCtorEq])
      exact hs4
    simp only [hOut_f]
    (repeat' (first | refine Z ?_ | refine Zq ?_ | refine rn_blk_x (by decide) ?_ | ((first | refine' Y ?_ ?_ | refine' X ?_ ?_ ?_); rotate_left; (· (first | (simp (disch := omega) only [evl, Nat.reduceEqDiff, Nat.reduceAdd, reduceIte, reduceCtorEq, hixA] <;> exact rfl) | exact rfl)); all_goals try (refine fun (hb : _ = _) => ?_; try simp only [Zu, ne_eq, reduceCtorEq] at hb)) | (apply rk_gd_u; · simp [evl])))
    apply rk_st
    · (simp (disch := omega) only [evl, Nat.reduceEqDiff, Nat.reduceAdd, reduceIte, reduceCtorEq])
      exact hs5
    simp only [hOut_f]
    (repeat' (first | refine Z ?_ | refine Zq ?_ | refine rn_blk_x (by decide) ?_ | ((first | refine' Y ?_ ?_ | refine' X ?_ ?_ ?_); rotate_left; (· (first | (simp (disch := omega) only [evl, Nat.reduceEqDiff, Nat.reduceAdd, reduceIte, reduceCtorEq, h11] <;> exact rfl) | exact rfl)); all_goals try (refine fun (hb : _ = _) => ?_; try simp only [Zu, ne_eq, reduceCtorEq] at hb)) | (apply rk_gd_u; · simp [evl])))
    refine rn_nil ?_
    refine ret _ H5 _ w true (by (first | (simp (disch := omega) only [evl, Nat.reduceEqDiff, Nat.reduceAdd, reduceIte, reduceCtorEq, h11] <;> exact rfl) | exact rfl)) (by (first | (simp (disch := omega) only [evl, Nat.reduceEqDiff, Nat.reduceAdd, reduceIte, reduceCtorEq] <;> exact rfl) | exact rfl)) (hp2.trans hp5 (r := (· ≠ i)) fun i hi h => ⟨h, h⟩) hr5 (hsw.trans hsw5 (Nat.le_refl _) (Nat.le_refl _) (Nat.le_refl _) (Nat.le_refl _)) ?_
    have := part_fin (ys := x0) (a := a) (b := b) (j := w) (v := v) (by omega) (by omega) (by omega) (by rw [hv0, hv]) hal1 (by rw [show b - 1 + 1 = b from by omega] at hal2; exact hal2)
    rw [hv] at this
    exact ⟨by omega, by omega, this⟩
  · have hne : u ≠ w := fun h => by
      subst h
      rcases hst1 with h | h
      · omega
      · rcases hst2 with h' | h'
        · omega
        · omega
    have hixU := ixn (i := i) (n := xs.length) (c := c) (op := op) (k := u) (by omega)
    have hrdU := rd hr2 (k := u) (by omega)
    obtain ⟨H4, H5, hs4, hs5, hr5, hp5, hn5⟩ := swap hr2 (a := u) (b := w) (hp2.hide.trans hh) (by rw [hp2.lo]; exact hlo) (by omega) (by omega)
    have hsw5 := sw_kp (xs := x0) (a := u) (b := w) (lo := a) (hi := b) (by omega) (by omega) (by omega) (by omega) (by omega) (by omega)
    have hsk5 := fun s => sw_key (xs := x0) (a := u) (b := w) (by omega) (by omega) s
    have hgu : ¬ g x0 u < v := by rcases hst1 with h | h; omega; exact h
    have hgw : ¬ v ≤ g x0 w := by rcases hst2 with h | h; omega; exact h
    have eu : (u : Int) + 1 = ((u + 1 : Nat) : Int) := by omega
    have ew : (w : Int) - 1 = ((w - 1 : Nat) : Int) := by omega
    (repeat' (first | refine Z ?_ | refine Zq ?_ | refine rn_blk_x (by decide) ?_ | ((first | refine' Y ?_ ?_ | refine' X ?_ ?_ ?_); rotate_left; (· (first | (simp (disch := omega) only [evl, Nat.reduceEqDiff, Nat.reduceAdd, reduceIte, reduceCtorEq, h0, h1, h10, h11, hixW, hixU, hrdW, hrdU] <;> exact rfl) | exact rfl)); all_goals try (refine fun (hb : _ = _) => ?_; try simp only [Zu, ne_eq, reduceCtorEq] at hb)) | (apply rk_gd_u; · simp [evl])))
    apply rk_st
    · (simp (disch := omega) only [evl, Nat.reduceEqDiff, Nat.reduceAdd, reduceIte, reduceCtorEq])
      exact hs4
    simp only [hOut_f]
    (repeat' (first | refine Z ?_ | refine Zq ?_ | refine rn_blk_x (by decide) ?_ | ((first | refine' Y ?_ ?_ | refine' X ?_ ?_ ?_); rotate_left; (· (first | (simp (disch := omega) only [evl, Nat.reduceEqDiff, Nat.reduceAdd, reduceIte, reduceCtorEq, hixW] <;> exact rfl) | exact rfl)); all_goals try (refine fun (hb : _ = _) => ?_; try simp only [Zu, ne_eq, reduceCtorEq] at hb)) | (apply rk_gd_u; · simp [evl])))
    apply rk_st
    · (simp (disch := omega) only [evl, Nat.reduceEqDiff, Nat.reduceAdd, reduceIte, reduceCtorEq])
      exact hs5
    simp only [hOut_f]
    (repeat' (first | refine Z ?_ | refine Zq ?_ | refine rn_blk_x (by decide) ?_ | ((first | refine' Y ?_ ?_ | refine' X ?_ ?_ ?_); rotate_left; (· (first | (simp (disch := omega) only [evl, Nat.reduceEqDiff, Nat.reduceAdd, reduceIte, reduceCtorEq, h10, h11, eu, ew] <;> exact rfl) | exact rfl)); all_goals try (refine fun (hb : _ = _) => ?_; try simp only [Zu, ne_eq, reduceCtorEq] at hb)) | (apply rk_gd_u; · simp [evl])))
    have hxl5 := sw_len x0 u w
    have hv5 : g (sw x0 u w) a = v := by rw [hsk5, if_neg (by omega), if_neg (by omega), hv0, hv]
    have hl5 : al (fun x => x < v) (sw x0 u w) (a + 1) (u + 1) := fun s q1 q2 => by
      show g (sw x0 u w) s < v
      rw [hsk5, if_neg (by omega)]
      by_cases e : s = u
      · rw [if_pos e]; omega
      · rw [if_neg e]; exact hal1 s q1 (by omega)
    have hu5 : al (fun x => v ≤ x) (sw x0 u w) w b := fun s q1 q2 => by
      show v ≤ g (sw x0 u w) s
      rw [hsk5]
      by_cases e : s = w
      · rw [if_pos e]; omega
      · rw [if_neg e, if_neg (by omega)]; exact hal2 s (by omega) (by omega)
    have hpA := hp2.trans hp5 (r := (· ≠ i)) fun i hi h => ⟨h, h⟩
    have hkA := hsw.trans hsw5 (a := a) (b := b) (Nat.le_refl _) (Nat.le_refl _) (Nat.le_refl _) (Nat.le_refl _)
    generalize sw x0 u w = x5 at *
    refine rc_loop (R := fun ex T' H' => ex = .exit 4 ∧ ∃ (j : Nat) (ys : List Int), Pa T' i xs.length c a b op ∧ gT T' 11 = .int .i64 j ∧ a ≤ j ∧ j < b ∧ HP (· ≠ i) H H' ∧ Row H' i false op' 3 1 (iC ys) ∧ Kp xs ys a b ∧ g ys a = v ∧ al (fun x => x < v) ys (a + 1) (j + 1) ∧ al (fun x => v ≤ x) ys (j + 1) b) ?_ ?_
    · refine lp_ind f71l2_eq (fun k T H' => ∃ (u w : Nat) (ys : List Int), k = w + 1 - u ∧ a + 1 ≤ u ∧ u ≤ w + 1 ∧ w < b ∧ Pa T i xs.length c a b op ∧ gT T 10 = .int .i64 u ∧ gT T 11 = .int .i64 w ∧ HP (· ≠ i) H H' ∧ Row H' i false op' 3 1 (iC ys) ∧ Kp xs ys a b ∧ g ys a = v ∧ al (fun x => x < v) ys (a + 1) u ∧ al (fun x => v ≤ x) ys (w + 1) b) _ ?_ (w - 1 + 1 - (u + 1)) _ _ ?_
      · intro k T H6 hI
        obtain ⟨u, w, ys, hk, q1, q2, q3, ⟨h0, h1, h2⟩, h10, h11, hp, hrow, hkp, hva, hA, hB⟩ := hI
        have hyl := hkp.len
        unfold f71l2
        (repeat' (first | refine Z ?_ | refine Zq ?_ | refine rn_blk_x (by decide) ?_ | ((first | refine' Y ?_ ?_ | refine' X ?_ ?_ ?_); rotate_left; (· (first | (simp (disch := omega) only [evl, Nat.reduceEqDiff, Nat.reduceAdd, reduceIte, reduceCtorEq] <;> exact rfl) | exact rfl)); all_goals try (refine fun (hb : _ = _) => ?_; try simp only [Zu, ne_eq, reduceCtorEq] at hb)) | (apply rk_gd_u; · simp [evl])))
        refine rc_loop (scan71_3 _ H6 ys i c a b u w op op' v hva (by rw [hyl]; exact ⟨(by (first | (simp (disch := omega) only [evl, Nat.reduceEqDiff, Nat.reduceAdd, reduceIte, reduceCtorEq, h0] <;> exact rfl) | exact rfl)), (by (first | (simp (disch := omega) only [evl, Nat.reduceEqDiff, Nat.reduceAdd, reduceIte, reduceCtorEq, h1] <;> exact rfl) | exact rfl)), (by (first | (simp (disch := omega) only [evl, Nat.reduceEqDiff, Nat.reduceAdd, reduceIte, reduceCtorEq, h2] <;> exact rfl) | exact rfl))⟩) (by omega) (by omega) (by omega) (by (first | (simp (disch := omega) only [evl, Nat.reduceEqDiff, Nat.reduceAdd, reduceIte, reduceCtorEq, h10] <;> exact rfl) | exact rfl)) (by (first | (simp (disch := omega) only [evl, Nat.reduceEqDiff, Nat.reduceAdd, reduceIte, reduceCtorEq, h11] <;> exact rfl) | exact rfl)) hrow (by omega) (by omega)) ?_
        rintro ex T3 H7 ⟨rfl, hH7, ⟨h0, h1, h2⟩, u2, g1, g2, h10, h11, hal1, hst1⟩
        cases hH7
        rw [hyl] at h0
        (repeat' (first | refine Z ?_ | refine Zq ?_ | refine rn_blk_x (by decide) ?_ | ((first | refine' Y ?_ ?_ | refine' X ?_ ?_ ?_); rotate_left; (· (first | (simp (disch := omega) only [evl, Nat.reduceEqDiff, Nat.reduceAdd, reduceIte, reduceCtorEq] <;> exact rfl) | exact rfl)); all_goals try (refine fun (hb : _ = _) => ?_; try simp only [Zu, ne_eq, reduceCtorEq] at hb)) | (apply rk_gd_u; · simp [evl])))
        refine rc_loop (scan71_4 _ H6 ys i c a b u2 w op op' v hva (by rw [hyl]; exact ⟨(by (first | (simp (disch := omega) only [evl, Nat.reduceEqDiff, Nat.reduceAdd, reduceIte, reduceCtorEq, h0] <;> exact rfl) | exact rfl)), (by (first | (simp (disch := omega) only [evl, Nat.reduceEqDiff, Nat.reduceAdd, reduceIte, reduceCtorEq, h1] <;> exact rfl) | exact rfl)), (by (first | (simp (disch := omega) only [evl, Nat.reduceEqDiff, Nat.reduceAdd, reduceIte, reduceCtorEq, h2] <;> exact rfl) | exact rfl))⟩) (by omega) (by omega) (by omega) (by (first | (simp (disch := omega) only [evl, Nat.reduceEqDiff, Nat.reduceAdd, reduceIte, reduceCtorEq, h10] <;> exact rfl) | exact rfl)) (by (first | (simp (disch := omega) only [evl, Nat.reduceEqDiff, Nat.reduceAdd, reduceIte, reduceCtorEq, h11] <;> exact rfl) | exact rfl)) hrow (by omega) (by omega)) ?_
        rintro ex T4 H7 ⟨rfl, hH7, ⟨h0, h1, h2⟩, w2, g3, g4, h10, h11, hal2, hst2⟩
        cases hH7
        rw [hyl] at h0
        have hA2 : al (fun x => x < v) ys (a + 1) u2 := fun s r1 r2 => by
          by_cases e : s < u
          · exact hA s r1 e
          · exact hal1 s (by omega) r2
        have hB2 : al (fun x => v ≤ x) ys (w2 + 1) b := fun s r1 r2 => by
          by_cases e : s < w + 1
          · exact hal2 s r1 e
          · exact hB s (by omega) r2
        by_cases hcross : w2 < u2
        · obtain rfl : u2 = w2 + 1 := by omega
          (repeat' (first | refine Z ?_ | refine Zq ?_ | refine rn_blk_x (by decide) ?_ | ((first | refine' Y ?_ ?_ | refine' X ?_ ?_ ?_); rotate_left; (· (first | (simp (disch := omega) only [evl, Nat.reduceEqDiff, Nat.reduceAdd, reduceIte, reduceCtorEq, h10, h11] <;> exact rfl) | exact rfl)); all_goals try (refine fun (hb : _ = _) => ?_; try simp only [Zu, ne_eq, reduceCtorEq] at hb)) | (apply rk_gd_u; · simp [evl])))
          refine rn_nil ?_; refine lpq_e ?_
          exact ⟨rfl, w2, ys, ⟨(by (first | (simp (disch := omega) only [evl, Nat.reduceEqDiff, Nat.reduceAdd, reduceIte, reduceCtorEq, h0] <;> exact rfl) | exact rfl)), (by (first | (simp (disch := omega) only [evl, Nat.reduceEqDiff, Nat.reduceAdd, reduceIte, reduceCtorEq, h1] <;> exact rfl) | exact rfl)), (by (first | (simp (disch := omega) only [evl, Nat.reduceEqDiff, Nat.reduceAdd, reduceIte, reduceCtorEq, h2] <;> exact rfl) | exact rfl))⟩, (by (first | (simp (disch := omega) only [evl, Nat.reduceEqDiff, Nat.reduceAdd, reduceIte, reduceCtorEq, h11] <;> exact rfl) | exact rfl)), by omega, by omega, hp, hrow, hkp, hva, hA2, hB2⟩
        · have hne : u2 ≠ w2 := fun h => by
            subst h
            rcases hst1 with h | h
            · omega
            · rcases hst2 with h' | h'
              · omega
              · omega
          have hixU := ixn (i := i) (n := xs.length) (c := c) (op := op) (k := u2) (by omega)
          have hixW := ixn (i := i) (n := xs.length) (c := c) (op := op) (k := w2) (by omega)
          have hrdU := rd hrow (k := u2) (by omega)
          have hrdW := rd hrow (k := w2) (by omega)
          obtain ⟨H8, H9, hs8, hs9, hr9, hp9, hn9⟩ := swap hrow (a := u2) (b := w2) (hp.hide.trans hh) (by rw [hp.lo]; exact hlo) (by omega) (by omega)
          have hsw9 := sw_kp (xs := ys) (a := u2) (b := w2) (lo := a) (hi := b) (by omega) (by omega) (by omega) (by omega) (by omega) (by omega)
          have hsk9 := fun s => sw_key (xs := ys) (a := u2) (b := w2) (by omega) (by omega) s
          have hgu : ¬ g ys u2 < v := by rcases hst1 with h | h; omega; exact h
          have hgw : ¬ v ≤ g ys w2 := by rcases hst2 with h | h; omega; exact h
          have eu : (u2 : Int) + 1 = ((u2 + 1 : Nat) : Int) := by omega
          have ew : (w2 : Int) - 1 = ((w2 - 1 : Nat) : Int) := by omega
          (repeat' (first | refine Z ?_ | refine Zq ?_ | refine rn_blk_x (by decide) ?_ | ((first | refine' Y ?_ ?_ | refine' X ?_ ?_ ?_); rotate_left; (· (first | (simp (disch := omega) only [evl, Nat.reduceEqDiff, Nat.reduceAdd, reduceIte, reduceCtorEq, h0, h1, h10, h11, hixW, hixU, hrdW, hrdU] <;> exact rfl) | exact rfl)); all_goals try (refine fun (hb : _ = _) => ?_; try simp only [Zu, ne_eq, reduceCtorEq] at hb)) | (apply rk_gd_u; · simp [evl])))
          apply rk_st
          · (simp (disch := omega) only [evl, Nat.reduceEqDiff, Nat.reduceAdd, reduceIte, reduceCtorEq])
            exact hs8
          simp only [hOut_f]
          (repeat' (first | refine Z ?_ | refine Zq ?_ | refine rn_blk_x (by decide) ?_ | ((first | refine' Y ?_ ?_ | refine' X ?_ ?_ ?_); rotate_left; (· (first | (simp (disch := omega) only [evl, Nat.reduceEqDiff, Nat.reduceAdd, reduceIte, reduceCtorEq, hixW] <;> exact rfl) | exact rfl)); all_goals try (refine fun (hb : _ = _) => ?_; try simp only [Zu, ne_eq, reduceCtorEq] at hb)) | (apply rk_gd_u; · simp [evl])))
          apply rk_st
          · (simp (disch := omega) only [evl, Nat.reduceEqDiff, Nat.reduceAdd, reduceIte, reduceCtorEq])
            exact hs9
          simp only [hOut_f]
          (repeat' (first | refine Z ?_ | refine Zq ?_ | refine rn_blk_x (by decide) ?_ | ((first | refine' Y ?_ ?_ | refine' X ?_ ?_ ?_); rotate_left; (· (first | (simp (disch := omega) only [evl, Nat.reduceEqDiff, Nat.reduceAdd, reduceIte, reduceCtorEq, h10, h11, eu, ew] <;> exact rfl) | exact rfl)); all_goals try (refine fun (hb : _ = _) => ?_; try simp only [Zu, ne_eq, reduceCtorEq] at hb)) | (apply rk_gd_u; · simp [evl])))
          refine rn_nil ?_; refine lpq_n (w2 - 1 + 1 - (u2 + 1)) (by omega) ?_
          refine ⟨u2 + 1, w2 - 1, _, rfl, by omega, by omega, by omega, ⟨(by (first | (simp (disch := omega) only [evl, Nat.reduceEqDiff, Nat.reduceAdd, reduceIte, reduceCtorEq, h0] <;> exact rfl) | exact rfl)), (by (first | (simp (disch := omega) only [evl, Nat.reduceEqDiff, Nat.reduceAdd, reduceIte, reduceCtorEq, h1] <;> exact rfl) | exact rfl)), (by (first | (simp (disch := omega) only [evl, Nat.reduceEqDiff, Nat.reduceAdd, reduceIte, reduceCtorEq, h2] <;> exact rfl) | exact rfl))⟩, (by (first | (simp (disch := omega) only [evl, Nat.reduceEqDiff, Nat.reduceAdd, reduceIte, reduceCtorEq, eu] <;> exact rfl) | exact rfl)), (by (first | (simp (disch := omega) only [evl, Nat.reduceEqDiff, Nat.reduceAdd, reduceIte, reduceCtorEq, ew] <;> exact rfl) | exact rfl)), hp.trans hp9 (r := (· ≠ i)) fun i hi h => ⟨h, h⟩, hr9, hkp.trans hsw9 (Nat.le_refl _) (Nat.le_refl _) (Nat.le_refl _) (Nat.le_refl _), ?_, fun s r1 r2 => ?_, fun s r1 r2 => ?_⟩
          · rw [hsk9, if_neg (by omega), if_neg (by omega)]; exact hva
          · show g (sw ys u2 w2) s < v
            rw [hsk9, if_neg (by omega)]
            by_cases e : s = u2
            · rw [if_pos e]; omega
            · rw [if_neg e]; exact hA2 s r1 (by omega)
          · show v ≤ g (sw ys u2 w2) s
            rw [hsk9]
            by_cases e : s = w2
            · rw [if_pos e]; omega
            · rw [if_neg e, if_neg (by omega)]; exact hB2 s (by omega) r2
      · exact ⟨u + 1, w - 1, x5, rfl, by omega, by omega, by omega, ⟨(by (first | (simp (disch := omega) only [evl, Nat.reduceEqDiff, Nat.reduceAdd, reduceIte, reduceCtorEq, h0] <;> exact rfl) | exact rfl)), (by (first | (simp (disch := omega) only [evl, Nat.reduceEqDiff, Nat.reduceAdd, reduceIte, reduceCtorEq, h1] <;> exact rfl) | exact rfl)), (by (first | (simp (disch := omega) only [evl, Nat.reduceEqDiff, Nat.reduceAdd, reduceIte, reduceCtorEq, h2] <;> exact rfl) | exact rfl))⟩, (by (first | (simp (disch := omega) only [evl, Nat.reduceEqDiff, Nat.reduceAdd, reduceIte, reduceCtorEq, eu] <;> exact rfl) | exact rfl)), (by (first | (simp (disch := omega) only [evl, Nat.reduceEqDiff, Nat.reduceAdd, reduceIte, reduceCtorEq, ew] <;> exact rfl) | exact rfl)), hpA, hr5, hkA, hv5, hl5, by rw [show w - 1 + 1 = w from by omega]; exact hu5⟩
    · rintro ex T5 H6 ⟨rfl, j, ys, ⟨h0, h1, h2⟩, h11, hj1, hj2, hp, hrow, hkp, hva, hA, hB⟩
      have hyl := hkp.len
      have hixW := ixn (i := i) (n := xs.length) (c := c) (op := op) (k := j) (by omega)
      have hixA := ixn (i := i) (n := xs.length) (c := c) (op := op) (k := a) (by omega)
      have hrdW := rd hrow (k := j) (by omega)
      have hrdA := rd hrow (k := a) (by omega)
      obtain ⟨H8, H9, hs8, hs9, hr9, hp9, hn9⟩ := swap hrow (a := j) (b := a) (hp.hide.trans hh) (by rw [hp.lo]; exact hlo) (by omega) (by omega)
      have hsw9 := sw_kp (xs := ys) (a := j) (b := a) (lo := a) (hi := b) (by omega) (by omega) (by omega) (by omega) (by omega) (by omega)
      (repeat' (first | refine Z ?_ | refine Zq ?_ | refine rn_blk_x (by decide) ?_ | ((first | refine' Y ?_ ?_ | refine' X ?_ ?_ ?_); rotate_left; (· (first | (simp (disch := omega) only [evl, Nat.reduceEqDiff, Nat.reduceAdd, reduceIte, reduceCtorEq, h0, h1, h11, hixW, hixA, hrdW, hrdA] <;> exact rfl) | exact rfl)); all_goals try (refine fun (hb : _ = _) => ?_; try simp only [Zu, ne_eq, reduceCtorEq] at hb)) | (apply rk_gd_u; · simp [evl])))
      apply rk_st
      · (simp (disch := omega) only [evl, Nat.reduceEqDiff, Nat.reduceAdd, reduceIte, reduceCtorEq])
        exact hs8
      simp only [hOut_f]
      (repeat' (first | refine Z ?_ | refine Zq ?_ | refine rn_blk_x (by decide) ?_ | ((first | refine' Y ?_ ?_ | refine' X ?_ ?_ ?_); rotate_left; (· (first | (simp (disch := omega) only [evl, Nat.reduceEqDiff, Nat.reduceAdd, reduceIte, reduceCtorEq, hixA] <;> exact rfl) | exact rfl)); all_goals try (refine fun (hb : _ = _) => ?_; try simp only [Zu, ne_eq, reduceCtorEq] at hb)) | (apply rk_gd_u; · simp [evl])))
      apply rk_st
      · (simp (disch := omega) only [evl, Nat.reduceEqDiff, Nat.reduceAdd, reduceIte, reduceCtorEq])
        exact hs9
      simp only [hOut_f]
      (repeat' (first | refine Z ?_ | refine Zq ?_ | refine rn_blk_x (by decide) ?_ | ((first | refine' Y ?_ ?_ | refine' X ?_ ?_ ?_); rotate_left; (· (first | (simp (disch := omega) only [evl, Nat.reduceEqDiff, Nat.reduceAdd, reduceIte, reduceCtorEq, h11] <;> exact rfl) | exact rfl)); all_goals try (refine fun (hb : _ = _) => ?_; try simp only [Zu, ne_eq, reduceCtorEq] at hb)) | (apply rk_gd_u; · simp [evl])))
      refine rn_nil ?_
      refine ret _ H9 _ j false (by (first | (simp (disch := omega) only [evl, Nat.reduceEqDiff, Nat.reduceAdd, reduceIte, reduceCtorEq, h11] <;> exact rfl) | exact rfl)) (by (first | (simp (disch := omega) only [evl, Nat.reduceEqDiff, Nat.reduceAdd, reduceIte, reduceCtorEq] <;> exact rfl) | exact rfl)) (hp.trans hp9 (r := (· ≠ i)) fun i hi h => ⟨h, h⟩) hr9 (hkp.trans hsw9 (Nat.le_refl _) (Nat.le_refl _) (Nat.le_refl _) (Nat.le_refl _)) ?_
      have := part_fin (ys := ys) (a := a) (b := b) (j := j) (v := v) (by omega) (by omega) (by omega) hva hA hB
      rw [hv] at this
      exact ⟨by omega, by omega, this⟩
end PQ
end Go.Proofs.Ytnkomaedmblemaa

set_option linter.unusedSimpArgs false
set_option linter.unusedVariables false
set_option maxRecDepth 100000
namespace Go.Proofs.Ytnkomaedmblemaa
open Go.Ev Exl
open Ra Rb Rc Rd Re Rf Rg Rh Ri Rj Rk Rl Rm Rn Ro Rp Rq Rr
namespace PQ

set_option maxHeartbeats 8000000 in
theorem pequal_ok (H : AH) (xs : List Int) (i c a b p : Nat) (op op' : Bool) (hr : Row H i false op' 3 1 (iC xs)) (hi : i < H.next) (hlo : H.lo ≤ i) (hh : H.hide = [])
    (hap : a ≤ p) (hpb : p < b) (hb' : b ≤ xs.length) (hl : xs.length ≤ 1000000) :
    FnE look 70 [.sl i 0 xs.length c op, .int .i64 a, .int .i64 b, .int .i64 p] H fun r H' => ∃ m : Nat, r = .int .i64 m ∧ a + 1 ≤ m ∧ m ≤ b ∧ Done xs i a b op' H H' fun ys => al (fun x => x ≤ g xs p) ys a m ∧ al (fun x => g xs p < x) ys m b := by
  refine fn_intro f70_eq (noext rfl) rfl ?_
  unfold f70c
  have hixA := ixn (i := i) (n := xs.length) (c := c) (op := op) (k := a) (by omega)
  have hixP := ixn (i := i) (n := xs.length) (c := c) (op := op) (k := p) (by omega)
  have hrdA := rd hr (k := a) (by omega)
  have hrdP := rd hr (k := p) (by omega)
  obtain ⟨H1, H2, hs1, hs2, hr2, hp2, hn2⟩ := swap hr (a := a) (b := p) hh hlo (by omega) (by omega)
  have hsw := sw_kp (xs := xs) (a := a) (b := p) (lo := a) (hi := b) (by omega) (by omega) (by omega) (by omega) (by omega) (by omega)
  have hv0 : g (sw xs a p) a = g xs p := by
    rw [sw_key (by omega) (by omega)]
    by_cases e : a = p
    · rw [if_pos e, e]
    · rw [if_neg e, if_pos rfl]
  obtain ⟨v, hv⟩ : ∃ v, v = g xs p := ⟨_, rfl⟩
  have e1 : (a : Int) + 1 = ((a + 1 : Nat) : Int) := by omega
  have e2 : (b : Int) - 1 = ((b - 1 : Nat) : Int) := by omega
  (repeat' (first | refine Z ?_ | refine Zq ?_ | refine rn_blk_x (by decide) ?_ | ((first | refine' Y ?_ ?_ | refine' X ?_ ?_ ?_); rotate_left; (· (first | (simp (disch := omega) only [evl, Nat.reduceEqDiff, Nat.reduceAdd, reduceIte, reduceCtorEq, hixA, hixP, hrdA, hrdP] <;> exact rfl) | exact rfl)); all_goals try (refine fun (hb : _ = _) => ?_; try simp only [Zu, ne_eq, reduceCtorEq] at hb)) | (apply rk_gd_u; · simp [evl])))
  apply rk_st
  · (simp (disch := omega) only [evl, Nat.reduceEqDiff, Nat.reduceAdd, reduceIte, reduceCtorEq])
    exact hs1
  simp only [hOut_f]
  (repeat' (first | refine Z ?_ | refine Zq ?_ | refine rn_blk_x (by decide) ?_ | ((first | refine' Y ?_ ?_ | refine' X ?_ ?_ ?_); rotate_left; (· (first | (simp (disch := omega) only [evl, Nat.reduceEqDiff, Nat.reduceAdd, reduceIte, reduceCtorEq, hixP] <;> exact rfl) | exact rfl)); all_goals try (refine fun (hb : _ = _) => ?_; try simp only [Zu, ne_eq, reduceCtorEq] at hb)) | (apply rk_gd_u; · simp [evl])))
  apply rk_st
  · (simp (disch := omega) only [evl, Nat.reduceEqDiff, Nat.reduceAdd, reduceIte, reduceCtorEq])
    exact hs2
  simp only [hOut_f]
  (repeat' (first | refine Z ?_ | refine Zq ?_ | refine rn_blk_x (by decide) ?_ | ((first | refine' Y ?_ ?_ | refine' X ?_ ?_ ?_); rotate_left; (· (first | (simp (disch := omega) only [evl, Nat.reduceEqDiff, Nat.reduceAdd, reduceIte, reduceCtorEq, e1, e2] <;> exact rfl) | exact rfl)); all_goals try (refine fun (hb : _ = _) => ?_; try simp only [Zu, ne_eq, reduceCtorEq] at hb)) | (apply rk_gd_u; · simp [evl])))
  have hxl := sw_len xs a p
  generalize hxs : sw xs a p = x0 at *
  refine rc_loop (R := fun ex T' H' => ex = .exit 0 ∧ ∃ (u : Nat) (ys : List Int), gT T' 9 = .int .i64 u ∧ a + 1 ≤ u ∧ u ≤ b ∧ HP (· ≠ i) H H' ∧ Row H' i false op' 3 1 (iC ys) ∧ Kp xs ys a b ∧ g ys a = v ∧ al (fun x => x ≤ v) ys (a + 1) u ∧ al (fun x => v < x) ys u b) ?_ ?_
  · refine lp_ind f70l0_eq (fun k T H' => ∃ (u w : Nat) (ys : List Int), k = w + 1 - u ∧ a + 1 ≤ u ∧ u ≤ w + 1 ∧ w < b ∧ Pa T i xs.length c a b op ∧ gT T 9 = .int .i64 u ∧ gT T 10 = .int .i64 w ∧ HP (· ≠ i) H H' ∧ Row H' i false op' 3 1 (iC ys) ∧ Kp xs ys a b ∧ g ys a = v ∧ al (fun x => x ≤ v) ys (a + 1) u ∧ al (fun x => v < x) ys (w + 1) b) _ ?_ (b - 1 + 1 - (a + 1)) _ _ ?_
    · intro k T H6 hI
      obtain ⟨u, w, ys, hk, q1, q2, q3, ⟨h0, h1, h2⟩, h10, h11, hp, hrow, hkp, hva, hA, hB⟩ := hI
      have hyl := hkp.len
      unfold f70l0
      (repeat' (first | refine Z ?_ | refine Zq ?_ | refine rn_blk_x (by decide) ?_ | ((first | refine' Y ?_ ?_ | refine' X ?_ ?_ ?_); rotate_left; (· (first | (simp (disch := omega) only [evl, Nat.reduceEqDiff, Nat.reduceAdd, reduceIte, reduceCtorEq] <;> exact rfl) | exact rfl)); all_goals try (refine fun (hb : _ = _) => ?_; try simp only [Zu, ne_eq, reduceCtorEq] at hb)) | (apply rk_gd_u; · simp [evl])))
      refine rc_loop (scan70_1 _ H6 ys i c a b u w op op' v hva (by rw [hyl]; exact ⟨(by (first | (simp (disch := omega) only [evl, Nat.reduceEqDiff, Nat.reduceAdd, reduceIte, reduceCtorEq, h0] <;> exact rfl) | exact rfl)), (by (first | (simp (disch := omega) only [evl, Nat.reduceEqDiff, Nat.reduceAdd, reduceIte, reduceCtorEq, h1] <;> exact rfl) | exact rfl)), (by (first | (simp (disch := omega) only [evl, Nat.reduceEqDiff, Nat.reduceAdd, reduceIte, reduceCtorEq, h2] <;> exact rfl) | exact rfl))⟩) (by omega) (by omega) (by omega) (by (first | (simp (disch := omega) only [evl, Nat.reduceEqDiff, Nat.reduceAdd, reduceIte, reduceCtorEq, h10] <;> exact rfl) | exact rfl)) (by (first | (simp (disch := omega) only [evl, Nat.reduceEqDiff, Nat.reduceAdd, reduceIte, reduceCtorEq, h11] <;> exact rfl) | exact rfl)) hrow (by omega) (by omega)) ?_
      rintro ex T3 H7 ⟨rfl, hH7, ⟨h0, h1, h2⟩, u2, g1, g2, h10, h11, hal1, hst1⟩
      cases hH7
      rw [hyl] at h0
      (repeat' (first | refine Z ?_ | refine Zq ?_ | refine rn_blk_x (by decide) ?_ | ((first | refine' Y ?_ ?_ | refine' X ?_ ?_ ?_); rotate_left; (· (first | (simp (disch := omega) only [evl, Nat.reduceEqDiff, Nat.reduceAdd, reduceIte, reduceCtorEq] <;> exact rfl) | exact rfl)); all_goals try (refine fun (hb : _ = _) => ?_; try simp only [Zu, ne_eq, reduceCtorEq] at hb)) | (apply rk_gd_u; · simp [evl])))
      refine rc_loop (scan70_2 _ H6 ys i c a b u2 w op op' v hva (by rw [hyl]; exact ⟨(by (first | (simp (disch := omega) only [evl, Nat.reduceEqDiff, Nat.reduceAdd, reduceIte, reduceCtorEq, h0] <;> exact rfl) | exact rfl)), (by (first | (simp (disch := omega) only [evl, Nat.reduceEqDiff, Nat.reduceAdd, reduceIte, reduceCtorEq, h1] <;> exact rfl) | exact rfl)), (by (first | (simp (disch := omega) only [evl, Nat.reduceEqDiff, Nat.reduceAdd, reduceIte, reduceCtorEq, h2] <;> exact rfl) | exact rfl))⟩) (by omega) (by omega) (by omega) (by (first | (simp (disch := omega) only [evl, Nat.reduceEqDiff, Nat.reduceAdd, reduceIte, reduceCtorEq, h10] <;> exact rfl) | exact rfl)) (by (first | (simp (disch := omega) only [evl, Nat.reduceEqDiff, Nat.reduceAdd, reduceIte, reduceCtorEq, h11] <;> exact rfl) | exact rfl)) hrow (by omega) (by omega)) ?_
      rintro ex T4 H7 ⟨rfl, hH7, ⟨h0, h1, h2⟩, w2, g3, g4, h10, h11, hal2, hst2⟩
      cases hH7
      rw [hyl] at h0
      have hA2 : al (fun x => x ≤ v) ys (a + 1) u2 := fun s r1 r2 => by
        by_cases e : s < u
        · exact hA s r1 e
        · exact hal1 s (by omega) r2
      have hB2 : al (fun x => v < x) ys (w2 + 1) b := fun s r1 r2 => by
        by_cases e : s < w + 1
        · exact hal2 s r1 e
        · exact hB s (by omega) r2
      by_cases hcross : w2 < u2
      · obtain rfl : u2 = w2 + 1 := by omega
        (repeat' (first | refine Z ?_ | refine Zq ?_ | refine rn_blk_x (by decide) ?_ | ((first | refine' Y ?_ ?_ | refine' X ?_ ?_ ?_); rotate_left; (· (first | (simp (disch := omega) only [evl, Nat.reduceEqDiff, Nat.reduceAdd, reduceIte, reduceCtorEq, h10, h11] <;> exact rfl) | exact rfl)); all_goals try (refine fun (hb : _ = _) => ?_; try simp only [Zu, ne_eq, reduceCtorEq] at hb)) | (apply rk_gd_u; · simp [evl])))
        refine rn_nil ?_; refine lpq_e ?_
        exact ⟨rfl, w2 + 1, ys, (by (first | (simp (disch := omega) only [evl, Nat.reduceEqDiff, Nat.reduceAdd, reduceIte, reduceCtorEq, h10] <;> exact rfl) | exact rfl)), by omega, by omega, hp, hrow, hkp, hva, hA2, hB2⟩
      · have hne : u2 ≠ w2 := fun h => by
          subst h
          rcases hst1 with h | h
          · omega
          · rcases hst2 with h' | h'
            · omega
            · omega
        have hixU := ixn (i := i) (n := xs.length) (c := c) (op := op) (k := u2) (by omega)
        have hixW := ixn (i := i) (n := xs.length) (c := c) (op := op) (k := w2) (by omega)
        have hrdU := rd hrow (k := u2) (by omega)
        have hrdW := rd hrow (k := w2) (by omega)
        obtain ⟨H8, H9, hs8, hs9, hr9, hp9, hn9⟩ := swap hrow (a := u2) (b := w2) (hp.hide.trans hh) (by rw [hp.lo]; exact hlo) (by omega) (by omega)
        have hsw9 := sw_kp (xs := ys) (a := u2) (b := w2) (lo := a) (hi := b) (by omega) (by omega) (by omega) (by omega) (by omega) (by omega)
        have hsk9 := fun s => sw_key (xs := ys) (a := u2) (b := w2) (by omega) (by omega) s
        have hgu : ¬ g ys u2 ≤ v := by rcases hst1 with h | h; omega; exact h
        have hgw : ¬ v < g ys w2 := by rcases hst2 with h | h; omega; exact h
        have eu : (u2 : Int) + 1 = ((u2 + 1 : Nat) : Int) := by omega
        have ew : (w2 : Int) - 1 = ((w2 - 1 : Nat) : Int) := by omega
        (repeat' (first | refine Z ?_ | refine Zq ?_ | refine rn_blk_x (by decide) ?_ | ((first | refine' Y ?_ ?_ | refine' X ?_ ?_ ?_); rotate_left; (· (first | (simp (disch := omega) only [evl, Nat.reduceEqDiff, Nat.reduceAdd, reduceIte, reduceCtorEq, h0, h1, h10, h11, hixW, hixU, hrdW, hrdU] <;> exact rfl) | exact rfl)); all_goals try (refine fun (hb : _ = _) => ?_; try simp only [Zu, ne_eq, reduceCtorEq] at hb)) | (apply rk_gd_u; · simp [evl])))
        apply rk_st
        · (simp (disch := omega) only [evl, Nat.reduceEqDiff, Nat.reduceAdd, reduceIte, reduceCtorEq])
          exact hs8
        simp only [hOut_f]
        (repeat' (first | refine Z ?_ | refine Zq ?_ | refine rn_blk_x (by decide) ?_ | ((first | refine' Y ?_ ?_ | refine' X ?_ ?_ ?_); rotate_left; (· (first | (simp (disch := omega) only [evl, Nat.reduceEqDiff, Nat.reduceAdd, reduceIte, reduceCtorEq, hixW] <;> exact rfl) | exact rfl)); all_goals try (refine fun (hb : _ = _) => ?_; try simp only [Zu, ne_eq, reduceCtorEq] at hb)) | (apply rk_gd_u; · simp [evl])))
        apply rk_st
        · (simp (disch := omega) only [evl, Nat.reduceEqDiff, Nat.reduceAdd, reduceIte, reduceCtorEq])
          exact hs9
        simp only [hOut_f]
        (repeat' (first | refine Z ?_ | refine Zq ?_ | refine rn_blk_x (by decide) ?_ | ((first | refine' Y ?_ ?_ | refine' X ?_ ?_ ?_); rotate_left; (· (first | (simp (disch := omega) only [evl, Nat.reduceEqDiff, Nat.reduceAdd, reduceIte, reduceCtorEq, h10, h11, eu, ew] <;> exact rfl) | exact rfl)); all_goals try (refine fun (hb : _ = _) => ?_; try simp only [Zu, ne_eq, reduceCtorEq] at hb)) | (apply rk_gd_u; · simp [evl])))
        refine rn_nil ?_; refine lpq_n (w2 - 1 + 1 - (u2 + 1)) (by omega) ?_
        refine ⟨u2 + 1, w2 - 1, _, rfl, by omega, by omega, by omega, ⟨(by (first | (simp (disch := omega) only [evl, Nat.reduceEqDiff, Nat.reduceAdd, reduceIte, reduceCtorEq, h0] <;> exact rfl) | exact rfl)), (by (first | (simp (disch := omega) only [evl, Nat.reduceEqDiff, Nat.reduceAdd, reduceIte, reduceCtorEq, h1] <;> exact rfl) | exact rfl)), (by (first | (simp (disch := omega) only [evl, Nat.reduceEqDiff, Nat.reduceAdd, reduceIte, reduceCtorEq, h2] <;> exact rfl) | exact rfl))⟩, (by (first | (simp (disch := omega) only [evl, Nat.reduceEqDiff, Nat.reduceAdd, reduceIte, reduceCtorEq, eu] <;> exact rfl) | exact rfl)), (by (first | (simp (disch := omega) only [evl, Nat.reduceEqDiff, Nat.reduceAdd, reduceIte, reduceCtorEq, ew] <;> exact rfl) | exact rfl)), hp.trans hp9 (r := (· ≠ i)) fun i hi h => ⟨h, h⟩, hr9, hkp.trans hsw9 (Nat.le_refl _) (Nat.le_refl _) (Nat.le_refl _) (Nat.le_refl _), ?_, fun s r1 r2 => ?_, fun s r1 r2 => ?_⟩
        · rw [hsk9, if_neg (by omega), if_neg (by omega)]; exact hva
        · show g (sw ys u2 w2) s ≤ v
          rw [hsk9, if_neg (by omega)]
          by_cases e : s = u2
          · rw [if_pos e]; omega
          · rw [if_neg e]; exact hA2 s r1 (by omega)
        · show v < g (sw ys u2 w2) s
          rw [hsk9]
          by_cases e : s = w2
          · rw [if_pos e]; omega
          · rw [if_neg e, if_neg (by omega)]; exact hB2 s (by omega) r2
    · exact ⟨a + 1, b - 1, x0, rfl, by omega, by omega, by omega, ⟨(by (first | (simp (disch := omega) only [evl, Nat.reduceEqDiff, Nat.reduceAdd, reduceIte, reduceCtorEq] <;> exact rfl) | exact rfl)), (by (first | (simp (disch := omega) only [evl, Nat.reduceEqDiff, Nat.reduceAdd, reduceIte, reduceCtorEq] <;> exact rfl) | exact rfl)), (by (first | (simp (disch := omega) only [evl, Nat.reduceEqDiff, Nat.reduceAdd, reduceIte, reduceCtorEq] <;> exact rfl) | exact rfl))⟩, (by (first | (simp (disch := omega) only [evl, Nat.reduceEqDiff, Nat.reduceAdd, reduceIte, reduceCtorEq, e1] <;> exact rfl) | exact rfl)), (by (first | (simp (disch := omega) only [evl, Nat.reduceEqDiff, Nat.reduceAdd, reduceIte, reduceCtorEq, e2] <;> exact rfl) | exact rfl)), hp2, hr2, hsw, by rw [hv0, hv], fun s r1 r2 => by omega, fun s r1 r2 => by omega⟩
  · rintro ex T5 H6 ⟨rfl, u, ys, h9, hu1, hu2, hp, hrow, hkp, hva, hA, hB⟩
    (repeat' (first | refine Z ?_ | refine Zq ?_ | refine rn_blk_x (by decide) ?_ | ((first | refine' Y ?_ ?_ | refine' X ?_ ?_ ?_); rotate_left; (· (first | (simp (disch := omega) only [evl, Nat.reduceEqDiff, Nat.reduceAdd, reduceIte, reduceCtorEq, h9] <;> exact rfl) | exact rfl)); all_goals try (refine fun (hb : _ = _) => ?_; try simp only [Zu, ne_eq, reduceCtorEq] at hb)) | (apply rk_gd_u; · simp [evl])))
    refine rn_nil ?_; refine fq_ret (resV_1 _ _) ⟨u, ?_, hu1, hu2, hp, ys, hrow, hkp, fun s r1 r2 => ?_, fun s r1 r2 => ?_⟩
    · (simp (disch := omega) only [evl, Nat.reduceEqDiff, Nat.reduceAdd, reduceIte, reduceCtorEq, h9])
    · show g ys s ≤ g xs p
      rw [← hv]
      by_cases e : s = a
      · rw [e, hva]; exact Int.le_refl _
      · exact hA s (by omega) r2
    · show g xs p < g ys s
      rw [← hv]; exact hB s r1 r2

/-! ### The insertion sort that gives up -/
structure Pb (T : Tr AV) (i n c a b u st : Nat) (op : Bool) : Prop where
  t0 : gT T 0 = .sl i 0 n c op
  t1 : gT T 1 = .int .i64 a
  t2 : gT T 2 = .int .i64 b
  t7 : gT T 7 = .int .i64 u
  t8 : gT T 8 = .int .i64 st
set_option maxHeartbeats 4000000 in
theorem pi1_ok (T : Tr AV) (H : AH) (xs : List Int) (i c a b u0 st : Nat) (op op' : Bool) (hT : Pb T i xs.length c a b u0 st op) (hu0 : a + 1 ≤ u0) (hub : u0 ≤ b) (hr : Row H i false op' 3 1 (iC xs)) (hb' : b ≤ xs.length) (hl : xs.length ≤ 1000000) (hs : srt xs a u0) :
    LpE look f68b1 T H fun ex T' H' => ex = .exit 2 ∧ H' = H ∧ ∃ u, a + 1 ≤ u ∧ u ≤ b ∧ Pb T' i xs.length c a b u st op ∧ srt xs a u ∧ (u = b ∨ g xs u < g xs (u - 1)) := by
  refine lp_ind f68l1_eq (fun k T H' => ∃ u : Nat, k = b - u ∧ a + 1 ≤ u ∧ u ≤ b ∧ Pb T i xs.length c a b u st op ∧ H' = H ∧ srt xs a u) _ ?_ (b - u0) _ _ ?_
  · intro k T H1 hI
    obtain ⟨u, hk, g1, g2, ⟨h0, h1, h2, h7, h8⟩, rfl, hs⟩ := hI
    unfold f68l1
    by_cases hlt : u < b
    · have hixA := ixn (i := i) (n := xs.length) (c := c) (op := op) (k := u) (by omega)
      have hixB := ix (i := i) (n := xs.length) (c := c) (op := op) (e := (u : Int) - 1) (by omega) (by omega)
      rw [show ((u : Int) - 1).toNat = u - 1 from by omega] at hixB
      have hrdA := rd hr (k := u) (by omega)
      have hrdB := rd hr (k := u - 1) (by omega)
      (repeat' (first | refine Z ?_ | refine Zq ?_ | refine rn_blk_x (by decide) ?_ | ((first | refine' Y ?_ ?_ | refine' X ?_ ?_ ?_); rotate_left; (· (first | (simp (disch := omega) only [evl, Nat.reduceEqDiff, Nat.reduceAdd, reduceIte, reduceCtorEq, h0, h1, h2, h7, h8, hixA, hixB, hrdA, hrdB] <;> exact rfl) | exact rfl)); all_goals try (refine fun (hb : _ = _) => ?_; try simp only [Zu, ne_eq, reduceCtorEq] at hb)) | (apply rk_gd_u; · simp [evl])))
      refine rk_cl (by (simp (disch := omega) only [evl, Nat.reduceEqDiff, Nat.reduceAdd, reduceIte, reduceCtorEq]); exact less_ok H1 (g xs u) (g xs (u - 1))) ?_
      rintro rr H2 ⟨rfl, hH2⟩
      cases hH2
      simp only [hOut_f]
      by_cases hc : g xs u < g xs (u - 1)
      · (repeat' (first | refine Z ?_ | refine Zq ?_ | refine rn_blk_x (by decide) ?_ | ((first | refine' Y ?_ ?_ | refine' X ?_ ?_ ?_); rotate_left; (· (first | (simp (disch := omega) only [evl, Nat.reduceEqDiff, Nat.reduceAdd, reduceIte, reduceCtorEq] <;> exact rfl) | exact rfl)); all_goals try (refine fun (hb : _ = _) => ?_; try simp only [Zu, ne_eq, reduceCtorEq] at hb)) | (apply rk_gd_u; · simp [evl])))
        refine rn_nil ?_; refine lpq_e ?_
        exact ⟨rfl, rfl, u, g1, g2, ⟨(by (first | (simp (disch := omega) only [evl, Nat.reduceEqDiff, Nat.reduceAdd, reduceIte, reduceCtorEq, h0] <;> exact rfl) | exact rfl)), (by (first | (simp (disch := omega) only [evl, Nat.reduceEqDiff, Nat.reduceAdd, reduceIte, reduceCtorEq, h1] <;> exact rfl) | exact rfl)), (by (first | (simp (disch := omega) only [evl, Nat.reduceEqDiff, Nat.reduceAdd, reduceIte, reduceCtorEq, h2] <;> exact rfl) | exact rfl)), (by (first | (simp (disch := omega) only [evl, Nat.reduceEqDiff, Nat.reduceAdd, reduceIte, reduceCtorEq, h7] <;> exact rfl) | exact rfl)), (by (first | (simp (disch := omega) only [evl, Nat.reduceEqDiff, Nat.reduceAdd, reduceIte, reduceCtorEq, h8] <;> exact rfl) | exact rfl))⟩, hs, .inr hc⟩
      · (repeat' (first | refine Z ?_ | refine Zq ?_ | refine rn_blk_x (by decide) ?_ | ((first | refine' Y ?_ ?_ | refine' X ?_ ?_ ?_); rotate_left; (· (first | (simp (disch := omega) only [evl, Nat.reduceEqDiff, Nat.reduceAdd, reduceIte, reduceCtorEq, h7] <;> exact rfl) | exact rfl)); all_goals try (refine fun (hb : _ = _) => ?_; try simp only [Zu, ne_eq, reduceCtorEq] at hb)) | (apply rk_gd_u; · simp [evl])))
        refine rn_nil ?_; refine lpq_n (b - (u + 1)) (by omega) ?_
        refine ⟨u + 1, rfl, by omega, by omega, ⟨(by (first | (simp (disch := omega) only [evl, Nat.reduceEqDiff, Nat.reduceAdd, reduceIte, reduceCtorEq, h0] <;> exact rfl) | exact rfl)), (by (first | (simp (disch := omega) only [evl, Nat.reduceEqDiff, Nat.reduceAdd, reduceIte, reduceCtorEq, h1] <;> exact rfl) | exact rfl)), (by (first | (simp (disch := omega) only [evl, Nat.reduceEqDiff, Nat.reduceAdd, reduceIte, reduceCtorEq, h2] <;> exact rfl) | exact rfl)), (by (first | (simp (disch := omega) only [evl, Nat.reduceEqDiff, Nat.reduceAdd, reduceIte, reduceCtorEq, h7] <;> exact rfl) | exact rfl)), (by (first | (simp (disch := omega) only [evl, Nat.reduceEqDiff, Nat.reduceAdd, reduceIte, reduceCtorEq, h8] <;> exact rfl) | exact rfl))⟩, rfl, fun s t r1 r2 r3 => ?_⟩
        by_cases e : t = u
        · subst e
          by_cases e2 : s = t - 1
          · subst e2; omega
          · have := hs s (t - 1) r1 (by omega) (by omega); omega
        · exact hs s t r1 r2 (by omega)
    · (repeat' (first | refine Z ?_ | refine Zq ?_ | refine rn_blk_x (by decide) ?_ | ((first | refine' Y ?_ ?_ | refine' X ?_ ?_ ?_); rotate_left; (· (first | (simp (disch := omega) only [evl, Nat.reduceEqDiff, Nat.reduceAdd, reduceIte, reduceCtorEq, h2, h7] <;> exact rfl) | exact rfl)); all_goals try (refine fun (hb : _ = _) => ?_; try simp only [Zu, ne_eq, reduceCtorEq] at hb)) | (apply rk_gd_u; · simp [evl])))
      refine rn_nil ?_; refine lpq_e ?_
      exact ⟨rfl, rfl, u, g1, g2, ⟨(by (first | (simp (disch := omega) only [evl, Nat.reduceEqDiff, Nat.reduceAdd, reduceIte, reduceCtorEq, h0] <;> exact rfl) | exact rfl)), (by (first | (simp (disch := omega) only [evl, Nat.reduceEqDiff, Nat.reduceAdd, reduceIte, reduceCtorEq, h1] <;> exact rfl) | exact rfl)), (by (first | (simp (disch := omega) only [evl, Nat.reduceEqDiff, Nat.reduceAdd, reduceIte, reduceCtorEq, h2] <;> exact rfl) | exact rfl)), (by (first | (simp (disch := omega) only [evl, Nat.reduceEqDiff, Nat.reduceAdd, reduceIte, reduceCtorEq, h7] <;> exact rfl) | exact rfl)), (by (first | (simp (disch := omega) only [evl, Nat.reduceEqDiff, Nat.reduceAdd, reduceIte, reduceCtorEq, h8] <;> exact rfl) | exact rfl))⟩, hs, .inl (by omega)⟩
  · exact ⟨u0, rfl, hu0, hub, hT, rfl, hs⟩
set_option maxHeartbeats 8000000 in
theorem pi2_ok (T : Tr AV) (H : AH) (xs : List Int) (i c a b u st : Nat) (op op' : Bool) (hT : Pb T i xs.length c a b u st op) (h9 : gT T 9 = .int .i64 (u - 1 : Nat)) (hu1 : a + 2 ≤ u) (hub : u < b) (hr : Row H i false op' 3 1 (iC xs)) (hi : i < H.next) (hlo : H.lo ≤ i) (hh : H.hide = []) (hb' : b ≤ xs.length) (hl : xs.length ≤ 1000000) (hs : srt xs a (u - 1)) (hpre : a = 0 ∨ al (fun x => g xs (a - 1) ≤ x) xs a b) :
    LpE look f68b2 T H fun ex T' H' => ex = .exit 4 ∧ Pb T' i xs.length c a b u st op ∧ Done xs i a b op' H H' fun ys => srt ys a u := by
  refine lp_ind f68l2_eq (fun k T H' => ∃ (j : Nat) (ys : List Int), k = j ∧ a ≤ j ∧ j ≤ u - 1 ∧ Pb T i xs.length c a b u st op ∧ gT T 9 = .int .i64 j ∧ HP (· ≠ i) H H' ∧ Row H' i false op' 3 1 (iC ys) ∧ Kp xs ys a b ∧ ∀ s t, a ≤ s → s < t → t < u → t ≠ j → g ys s ≤ g ys t) _ ?_ (u - 1) _ _ ?_
  · intro k T H1 hI
    obtain ⟨j, ys, hk, g1, g2, ⟨h0, h1, h2, h7, h8⟩, h9, hp, hrow, hkp, hst⟩ := hI
    unfold f68l2
    have hyl := hkp.len
    have Hst := Hd.mk hst
    clear hst
    by_cases hj1 : 1 ≤ j
    · have hixA := ixn (i := i) (n := xs.length) (c := c) (op := op) (k := j) (by omega)
      have hixB := ix (i := i) (n := xs.length) (c := c) (op := op) (e := (j : Int) - 1) (by omega) (by omega)
      rw [show ((j : Int) - 1).toNat = j - 1 from by omega] at hixB
      have hrdA := rd hrow (k := j) (by omega)
      have hrdB := rd hrow (k := j - 1) (by omega)
      (repeat' (first | refine Z ?_ | refine Zq ?_ | refine rn_blk_x (by decide) ?_ | ((first | refine' Y ?_ ?_ | refine' X ?_ ?_ ?_); rotate_left; (· (first | (simp (disch := omega) only [evl, Nat.reduceEqDiff, Nat.reduceAdd, reduceIte, reduceCtorEq, h0, h9, hixA, hixB, hrdA, hrdB] <;> exact rfl) | exact rfl)); all_goals try (refine fun (hb : _ = _) => ?_; try simp only [Zu, ne_eq, reduceCtorEq] at hb)) | (apply rk_gd_u; · simp [evl])))
      refine rk_cl (by (simp (disch := omega) only [evl, Nat.reduceEqDiff, Nat.reduceAdd, reduceIte, reduceCtorEq]); exact less_ok H1 (g ys j) (g ys (j - 1))) ?_
      rintro rr H2 ⟨rfl, hH2⟩
      cases hH2
      simp only [hOut_f]
      by_cases hc : g ys j < g ys (j - 1)
      · have hja : a < j := by
          rcases hpre with h | h
          · omega
          · by_cases e : a < j
            · exact e
            · obtain rfl : j = a := by omega
              have := al_kp h hkp hb' j (Nat.le_refl _) (by omega)
              simp only at this
              rw [hkp.key (j := j - 1) (by omega)] at hc
              omega
        obtain ⟨H3, H4, hs3, hs4, hr4, hp4, hn4⟩ := swap hrow (a := j) (b := j - 1) (hp.hide.trans hh) (by rw [hp.lo]; exact hlo) (by omega) (by omega)
        have hsw := sw_kp (xs := ys) (a := j) (b := j - 1) (lo := a) (hi := b) (by omega) (by omega) (by omega) (by omega) (by omega) (by omega)
        have hsk := fun s => sw_key (xs := ys) (a := j) (b := j - 1) (by omega) (by omega) s
        (repeat' (first | refine Z ?_ | refine Zq ?_ | refine rn_blk_x (by decide) ?_ | ((first | refine' Y ?_ ?_ | refine' X ?_ ?_ ?_); rotate_left; (· (first | (simp (disch := omega) only [evl, Nat.reduceEqDiff, Nat.reduceAdd, reduceIte, reduceCtorEq, h0, h9, hixA, hixB, hrdA, hrdB] <;> exact rfl) | exact rfl)); all_goals try (refine fun (hb : _ = _) => ?_; try simp only [Zu, ne_eq, reduceCtorEq] at hb)) | (apply rk_gd_u; · simp [evl])))
        apply rk_st
        · (simp (disch := omega) only [evl, Nat.reduceEqDiff, Nat.reduceAdd, reduceIte, reduceCtorEq])
          exact hs3
        simp only [hOut_f]
        (repeat' (first | refine Z ?_ | refine Zq ?_ | refine rn_blk_x (by decide) ?_ | ((first | refine' Y ?_ ?_ | refine' X ?_ ?_ ?_); rotate_left; (· (first | (simp (disch := omega) only [evl, Nat.reduceEqDiff, Nat.reduceAdd, reduceIte, reduceCtorEq, hixB] <;> exact rfl) | exact rfl)); all_goals try (refine fun (hb : _ = _) => ?_; try simp only [Zu, ne_eq, reduceCtorEq] at hb)) | (apply rk_gd_u; · simp [evl])))
        apply rk_st
        · (simp (disch := omega) only [evl, Nat.reduceEqDiff, Nat.reduceAdd, reduceIte, reduceCtorEq])
          exact hs4
        simp only [hOut_f]
        (repeat' (first | refine Z ?_ | refine Zq ?_ | refine rn_blk_x (by decide) ?_ | ((first | refine' Y ?_ ?_ | refine' X ?_ ?_ ?_); rotate_left; (· (first | (simp (disch := omega) only [evl, Nat.reduceEqDiff, Nat.reduceAdd, reduceIte, reduceCtorEq, h9] <;> exact rfl) | exact rfl)); all_goals try (refine fun (hb : _ = _) => ?_; try simp only [Zu, ne_eq, reduceCtorEq] at hb)) | (apply rk_gd_u; · simp [evl])))
        refine rn_nil ?_; refine lpq_n (j - 1) (by omega) ?_
        refine ⟨j - 1, sw ys j (j - 1), rfl, by omega, by omega, ⟨(by (first | (simp (disch := omega) only [evl, Nat.reduceEqDiff, Nat.reduceAdd, reduceIte, reduceCtorEq, h0] <;> exact rfl) | exact rfl)), (by (first | (simp (disch := omega) only [evl, Nat.reduceEqDiff, Nat.reduceAdd, reduceIte, reduceCtorEq, h1] <;> exact rfl) | exact rfl)), (by (first | (simp (disch := omega) only [evl, Nat.reduceEqDiff, Nat.reduceAdd, reduceIte, reduceCtorEq, h2] <;> exact rfl) | exact rfl)), (by (first | (simp (disch := omega) only [evl, Nat.reduceEqDiff, Nat.reduceAdd, reduceIte, reduceCtorEq, h7] <;> exact rfl) | exact rfl)), (by (first | (simp (disch := omega) only [evl, Nat.reduceEqDiff, Nat.reduceAdd, reduceIte, reduceCtorEq, h8] <;> exact rfl) | exact rfl))⟩, ?_, hp.trans hp4 (r := (· ≠ i)) fun i hi h => ⟨h, h⟩, hr4, hkp.trans hsw (Nat.le_refl _) (Nat.le_refl _) (Nat.le_refl _) (Nat.le_refl _), ?_⟩
        · (simp (disch := omega) only [evl, Nat.reduceEqDiff, Nat.reduceAdd, reduceIte, reduceCtorEq])
          rw [show (j : Int) - 1 = ((j - 1 : Nat) : Int) from by omega]
        · intro s t hs hst htu htj
          rw [hsk s, hsk t]
          by_cases h1 : t = j
          · rw [if_neg htj, if_pos h1]
            by_cases h2 : s = j - 1
            · rw [if_pos h2]; omega
            · rw [if_neg h2, if_neg (by omega)]
              exact Hst.out s (j - 1) hs (by omega) (by omega) (by omega)
          · rw [if_neg htj, if_neg h1]
            by_cases h2 : s = j - 1
            · rw [if_pos h2]; exact Hst.out j t (by omega) (by omega) htu h1
            · rw [if_neg h2]
              by_cases h3 : s = j
              · rw [if_pos h3]; exact Hst.out (j - 1) t (by omega) (by omega) htu h1
              · rw [if_neg h3]; exact Hst.out s t hs hst htu h1
      · (repeat' (first | refine Z ?_ | refine Zq ?_ | refine rn_blk_x (by decide) ?_ | ((first | refine' Y ?_ ?_ | refine' X ?_ ?_ ?_); rotate_left; (· (first | (simp (disch := omega) only [evl, Nat.reduceEqDiff, Nat.reduceAdd, reduceIte, reduceCtorEq] <;> exact rfl) | exact rfl)); all_goals try (refine fun (hb : _ = _) => ?_; try simp only [Zu, ne_eq, reduceCtorEq] at hb)) | (apply rk_gd_u; · simp [evl])))
        refine rn_nil ?_; refine lpq_e ?_
        refine ⟨rfl, ⟨(by (first | (simp (disch := omega) only [evl, Nat.reduceEqDiff, Nat.reduceAdd, reduceIte, reduceCtorEq, h0] <;> exact rfl) | exact rfl)), (by (first | (simp (disch := omega) only [evl, Nat.reduceEqDiff, Nat.reduceAdd, reduceIte, reduceCtorEq, h1] <;> exact rfl) | exact rfl)), (by (first | (simp (disch := omega) only [evl, Nat.reduceEqDiff, Nat.reduceAdd, reduceIte, reduceCtorEq, h2] <;> exact rfl) | exact rfl)), (by (first | (simp (disch := omega) only [evl, Nat.reduceEqDiff, Nat.reduceAdd, reduceIte, reduceCtorEq, h7] <;> exact rfl) | exact rfl)), (by (first | (simp (disch := omega) only [evl, Nat.reduceEqDiff, Nat.reduceAdd, reduceIte, reduceCtorEq, h8] <;> exact rfl) | exact rfl))⟩, hp, ys, hrow, hkp, fun s t r1 r2 r3 => ?_⟩
        by_cases htj : t = j
        · subst htj
          by_cases h2 : s = t - 1
          · subst h2; omega
          · have := Hst.out s (t - 1) r1 (by omega) (by omega) (by omega); omega
        · exact Hst.out s t r1 r2 r3 htj
    · (repeat' (first | refine Z ?_ | refine Zq ?_ | refine rn_blk_x (by decide) ?_ | ((first | refine' Y ?_ ?_ | refine' X ?_ ?_ ?_); rotate_left; (· (first | (simp (disch := omega) only [evl, Nat.reduceEqDiff, Nat.reduceAdd, reduceIte, reduceCtorEq, h9] <;> exact rfl) | exact rfl)); all_goals try (refine fun (hb : _ = _) => ?_; try simp only [Zu, ne_eq, reduceCtorEq] at hb)) | (apply rk_gd_u; · simp [evl])))
      refine rn_nil ?_; refine lpq_e ?_
      exact ⟨rfl, ⟨(by (first | (simp (disch := omega) only [evl, Nat.reduceEqDiff, Nat.reduceAdd, reduceIte, reduceCtorEq, h0] <;> exact rfl) | exact rfl)), (by (first | (simp (disch := omega) only [evl, Nat.reduceEqDiff, Nat.reduceAdd, reduceIte, reduceCtorEq, h1] <;> exact rfl) | exact rfl)), (by (first | (simp (disch := omega) only [evl, Nat.reduceEqDiff, Nat.reduceAdd, reduceIte, reduceCtorEq, h2] <;> exact rfl) | exact rfl)), (by (first | (simp (disch := omega) only [evl, Nat.reduceEqDiff, Nat.reduceAdd, reduceIte, reduceCtorEq, h7] <;> exact rfl) | exact rfl)), (by (first | (simp (disch := omega) only [evl, Nat.reduceEqDiff, Nat.reduceAdd, reduceIte, reduceCtorEq, h8] <;> exact rfl) | exact rfl))⟩, hp, ys, hrow, hkp, fun s t r1 r2 r3 => Hst.out s t r1 r2 r3 (by omega)⟩
  · exact ⟨u - 1, xs, rfl, by omega, Nat.le_refl _, hT, h9, HP.refl _ _, hr, Kp.refl _ _ _, fun s t r1 r2 r3 r4 => hs s t r1 r2 (by omega)⟩
set_option maxHeartbeats 8000000 in
theorem pi3_ok (T : Tr AV) (H : AH) (xs : List Int) (i c a b u st : Nat) (op op' : Bool) (hT : Pb T i xs.length c a b u st op) (h10 : gT T 10 = .int .i64 (u + 1 : Nat)) (hu1 : a + 1 ≤ u) (hub : u + 2 ≤ b) (hr : Row H i false op' 3 1 (iC xs)) (hi : i < H.next) (hlo : H.lo ≤ i) (hh : H.hide = []) (hb' : b ≤ xs.length) (hl : xs.length ≤ 1000000) :
    LpE look f68b3 T H fun ex T' H' => ex = .exit 6 ∧ Pb T' i xs.length c a b u st op ∧ HP (· ≠ i) H H' ∧ ∃ ys, Row H' i false op' 3 1 (iC ys) ∧ Kp xs ys u b := by
  refine lp_ind f68l3_eq (fun k T H' => ∃ (j : Nat) (ys : List Int), k = b - j ∧ u + 1 ≤ j ∧ j ≤ b ∧ Pb T i xs.length c a b u st op ∧ gT T 10 = .int .i64 j ∧ HP (· ≠ i) H H' ∧ Row H' i false op' 3 1 (iC ys) ∧ Kp xs ys u b) _ ?_ (b - (u + 1)) _ _ ?_
  · intro k T H1 hI
    obtain ⟨j, ys, hk, g1, g2, ⟨h0, h1, h2, h7, h8⟩, h10, hp, hrow, hkp⟩ := hI
    unfold f68l3
    have hyl := hkp.len
    by_cases hj1 : j < b
    · have hixA := ixn (i := i) (n := xs.length) (c := c) (op := op) (k := j) (by omega)
      have hixB := ix (i := i) (n := xs.length) (c := c) (op := op) (e := (j : Int) - 1) (by omega) (by omega)
      rw [show ((j : Int) - 1).toNat = j - 1 from by omega] at hixB
      have hrdA := rd hrow (k := j) (by omega)
      have hrdB := rd hrow (k := j - 1) (by omega)
      (repeat' (first | refine Z ?_ | refine Zq ?_ | refine rn_blk_x (by decide) ?_ | ((first | refine' Y ?_ ?_ | refine' X ?_ ?_ ?_); rotate_left; (· (first | (simp (disch := omega) only [evl, Nat.reduceEqDiff, Nat.reduceAdd, reduceIte, reduceCtorEq, h0, h2, h10, hixA, hixB, hrdA, hrdB] <;> exact rfl) | exact rfl)); all_goals try (refine fun (hb : _ = _) => ?_; try simp only [Zu, ne_eq, reduceCtorEq] at hb)) | (apply rk_gd_u; · simp [evl])))
      refine rk_cl (by (simp (disch := omega) only [evl, Nat.reduceEqDiff, Nat.reduceAdd, reduceIte, reduceCtorEq]); exact less_ok H1 (g ys j) (g ys (j - 1))) ?_
      rintro rr H2 ⟨rfl, hH2⟩
      cases hH2
      simp only [hOut_f]
      by_cases hc : g ys j < g ys (j - 1)
      · obtain ⟨H3, H4, hs3, hs4, hr4, hp4, hn4⟩ := swap hrow (a := j) (b := j - 1) (hp.hide.trans hh) (by rw [hp.lo]; exact hlo) (by omega) (by omega)
        have hsw := sw_kp (xs := ys) (a := j) (b := j - 1) (lo := u) (hi := b) (by omega) (by omega) (by omega) (by omega) (by omega) (by omega)
        (repeat' (first | refine Z ?_ | refine Zq ?_ | refine rn_blk_x (by decide) ?_ | ((first | refine' Y ?_ ?_ | refine' X ?_ ?_ ?_); rotate_left; (· (first | (simp (disch := omega) only [evl, Nat.reduceEqDiff, Nat.reduceAdd, reduceIte, reduceCtorEq, h0, h10, hixA, hixB, hrdA, hrdB] <;> exact rfl) | exact rfl)); all_goals try (refine fun (hb : _ = _) => ?_; try simp only [Zu, ne_eq, reduceCtorEq] at hb)) | (apply rk_gd_u; · simp [evl])))
        apply rk_st
        · (simp (disch := omega) only [evl, Nat.reduceEqDiff, Nat.reduceAdd, reduceIte, reduceCtorEq])
          exact hs3
        simp only [hOut_f]
        (repeat' (first | refine Z ?_ | refine Zq ?_ | refine rn_blk_x (by decide) ?_ | ((first | refine' Y ?_ ?_ | refine' X ?_ ?_ ?_); rotate_left; (· (first | (simp (disch := omega) only [evl, Nat.reduceEqDiff, Nat.reduceAdd, reduceIte, reduceCtorEq, hixB] <;> exact rfl) | exact rfl)); all_goals try (refine fun (hb : _ = _) => ?_; try simp only [Zu, ne_eq, reduceCtorEq] at hb)) | (apply rk_gd_u; · simp [evl])))
        apply rk_st
        · (simp (disch := omega) only [evl, Nat.reduceEqDiff, Nat.reduceAdd, reduceIte, reduceCtorEq])
          exact hs4
        simp only [hOut_f]
        (repeat' (first | refine Z ?_ | refine Zq ?_ | refine rn_blk_x (by decide) ?_ | ((first | refine' Y ?_ ?_ | refine' X ?_ ?_ ?_); rotate_left; (· (first | (simp (disch := omega) only [evl, Nat.reduceEqDiff, Nat.reduceAdd, reduceIte, reduceCtorEq, h10] <;> exact rfl) | exact rfl)); all_goals try (refine fun (hb : _ = _) => ?_; try simp only [Zu, ne_eq, reduceCtorEq] at hb)) | (apply rk_gd_u; · simp [evl])))
        refine rn_nil ?_; refine lpq_n (b - (j + 1)) (by omega) ?_
        exact ⟨j + 1, sw ys j (j - 1), rfl, by omega, by omega, ⟨(by (first | (simp (disch := omega) only [evl, Nat.reduceEqDiff, Nat.reduceAdd, reduceIte, reduceCtorEq, h0] <;> exact rfl) | exact rfl)), (by (first | (simp (disch := omega) only [evl, Nat.reduceEqDiff, Nat.reduceAdd, reduceIte, reduceCtorEq, h1] <;> exact rfl) | exact rfl)), (by (first | (simp (disch := omega) only [evl, Nat.reduceEqDiff, Nat.reduceAdd, reduceIte, reduceCtorEq, h2] <;> exact rfl) | exact rfl)), (by (first | (simp (disch := omega) only [evl, Nat.reduceEqDiff, Nat.reduceAdd, reduceIte, reduceCtorEq, h7] <;> exact rfl) | exact rfl)), (by (first | (simp (disch := omega) only [evl, Nat.reduceEqDiff, Nat.reduceAdd, reduceIte, reduceCtorEq, h8] <;> exact rfl) | exact rfl))⟩, (by (first | (simp (disch := omega) only [evl, Nat.reduceEqDiff, Nat.reduceAdd, reduceIte, reduceCtorEq, h10] <;> exact rfl) | exact rfl)), hp.trans hp4 (r := (· ≠ i)) fun i hi h => ⟨h, h⟩, hr4, hkp.trans hsw (Nat.le_refl _) (Nat.le_refl _) (Nat.le_refl _) (Nat.le_refl _)⟩
      · (repeat' (first | refine Z ?_ | refine Zq ?_ | refine rn_blk_x (by decide) ?_ | ((first | refine' Y ?_ ?_ | refine' X ?_ ?_ ?_); rotate_left; (· (first | (simp (disch := omega) only [evl, Nat.reduceEqDiff, Nat.reduceAdd, reduceIte, reduceCtorEq] <;> exact rfl) | exact rfl)); all_goals try (refine fun (hb : _ = _) => ?_; try simp only [Zu, ne_eq, reduceCtorEq] at hb)) | (apply rk_gd_u; · simp [evl])))
        refine rn_nil ?_; refine lpq_e ?_
        exact ⟨rfl, ⟨(by (first | (simp (disch := omega) only [evl, Nat.reduceEqDiff, Nat.reduceAdd, reduceIte, reduceCtorEq, h0] <;> exact rfl) | exact rfl)), (by (first | (simp (disch := omega) only [evl, Nat.reduceEqDiff, Nat.reduceAdd, reduceIte, reduceCtorEq, h1] <;> exact rfl) | exact rfl)), (by (first | (simp (disch := omega) only [evl, Nat.reduceEqDiff, Nat.reduceAdd, reduceIte, reduceCtorEq, h2] <;> exact rfl) | exact rfl)), (by (first | (simp (disch := omega) only [evl, Nat.reduceEqDiff, Nat.reduceAdd, reduceIte, reduceCtorEq, h7] <;> exact rfl) | exact rfl)), (by (first | (simp (disch := omega) only [evl, Nat.reduceEqDiff, Nat.reduceAdd, reduceIte, reduceCtorEq, h8] <;> exact rfl) | exact rfl))⟩, hp, ys, hrow, hkp⟩
    · (repeat' (first | refine Z ?_ | refine Zq ?_ | refine rn_blk_x (by decide) ?_ | ((first | refine' Y ?_ ?_ | refine' X ?_ ?_ ?_); rotate_left; (· (first | (simp (disch := omega) only [evl, Nat.reduceEqDiff, Nat.reduceAdd, reduceIte, reduceCtorEq, h2, h10] <;> exact rfl) | exact rfl)); all_goals try (refine fun (hb : _ = _) => ?_; try simp only [Zu, ne_eq, reduceCtorEq] at hb)) | (apply rk_gd_u; · simp [evl])))
      refine rn_nil ?_; refine lpq_e ?_
      exact ⟨rfl, ⟨(by (first | (simp (disch := omega) only [evl, Nat.reduceEqDiff, Nat.reduceAdd, reduceIte, reduceCtorEq, h0] <;> exact rfl) | exact rfl)), (by (first | (simp (disch := omega) only [evl, Nat.reduceEqDiff, Nat.reduceAdd, reduceIte, reduceCtorEq, h1] <;> exact rfl) | exact rfl)), (by (first | (simp (disch := omega) only [evl, Nat.reduceEqDiff, Nat.reduceAdd, reduceIte, reduceCtorEq, h2] <;> exact rfl) | exact rfl)), (by (first | (simp (disch := omega) only [evl, Nat.reduceEqDiff, Nat.reduceAdd, reduceIte, reduceCtorEq, h7] <;> exact rfl) | exact rfl)), (by (first | (simp (disch := omega) only [evl, Nat.reduceEqDiff, Nat.reduceAdd, reduceIte, reduceCtorEq, h8] <;> exact rfl) | exact rfl))⟩, hp, ys, hrow, hkp⟩
  · exact ⟨u + 1, xs, rfl, Nat.le_refl _, by omega, hT, h10, HP.refl _ _, hr, Kp.refl _ _ _⟩
end PQ
end Go.Proofs.Ytnkomaedmblemaa
