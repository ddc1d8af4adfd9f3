import Derived.Test.YtnkomaedmblemaaPqB
import Derived.Test.YtnkomaedmblemaaEvG
set_option linter.unusedSimpArgs false
set_option linter.unusedVariables false
set_option maxRecDepth 100000
namespace Go.Proofs.Ytnkomaedmblemaa
open Go.Ev Exl
open Ra Rb Rc Rd Re Rf Rg Rh Ri Rj Rk Rl Rm Rn Ro Rp Rq Rr
namespace PQ

def PiR (xs : List Int) (i a b : Nat) (op' : Bool) (H : AH) (r : AV) (H' : AH) : Prop := ∃ q : Bool, r = .bool q ∧ Done xs i a b op' H H' fun ys => q = true → srt ys a b

set_option maxHeartbeats 8000000 in
theorem partial_ok (H : AH) (xs : List Int) (i c a b : Nat) (op op' : Bool) (hr : Row H i false op' 3 1 (iC xs)) (hi : i < H.next) (hlo : H.lo ≤ i) (hh : H.hide = [])
    (hab : a + 1 ≤ b) (hb' : b ≤ xs.length) (hl : xs.length ≤ 1000000) (hpre : a = 0 ∨ al (fun x => g xs (a - 1) ≤ x) xs a b) :
    FnE look 68 [.sl i 0 xs.length c op, .int .i64 a, .int .i64 b] H (PiR xs i a b op' H) := by
  refine fn_intro f68_eq (noext rfl) rfl ?_
  unfold f68c
  have e1 : (a : Int) + 1 = ((a + 1 : Nat) : Int) := by omega
  (repeat' (first | refine Z ?_ | refine Zq ?_ | refine rn_blk_x (by decide) ?_ | ((first | refine' Y ?_ ?_ | refine' X ?_ ?_ ?_); rotate_left; (· (first | (simp (disch := omega) only [evl, Nat.reduceEqDiff, Nat.reduceAdd, reduceIte, reduceCtorEq, e1] <;> exact rfl) | exact rfl)); all_goals try (refine fun (hb : _ = _) => ?_; try simp only [Zu, ne_eq, reduceCtorEq] at hb)) | (apply rk_gd_u; · simp [evl])))
  refine rc_loop (R := fun ex T' H' => (ex = .exit 0 ∧ Done xs i a b op' H H' fun _ => True) ∨ (ex = .ret ∧ PiR xs i a b op' H (gT T' 6) H')) ?_ ?_
  · refine lp_ind f68l0_eq (fun k T H' => ∃ (u st : Nat) (ys : List Int), k = 5 - st ∧ st ≤ 5 ∧ a + 1 ≤ u ∧ u ≤ b ∧ Pb T i xs.length c a b u st op ∧ HP (· ≠ i) H H' ∧ Row H' i false op' 3 1 (iC ys) ∧ Kp xs ys a b ∧ srt ys a u) _ ?_ 5 _ _ ?_
    · intro k T H1 hI
      obtain ⟨u, st, ys, hk, hst5, g1, g2, ⟨h0, h1, h2, h7, h8⟩, hp, hrow, hkp, hs⟩ := hI
      unfold f68l0
      have hyl := hkp.len
      by_cases hlt : st < 5
      · (repeat' (first | refine Z ?_ | refine Zq ?_ | refine rn_blk_x (by decide) ?_ | ((first | refine' Y ?_ ?_ | refine' X ?_ ?_ ?_); rotate_left; (· (first | (simp (disch := omega) only [evl, Nat.reduceEqDiff, Nat.reduceAdd, reduceIte, reduceCtorEq, h8] <;> exact rfl) | exact rfl)); all_goals try (refine fun (hb : _ = _) => ?_; try simp only [Zu, ne_eq, reduceCtorEq] at hb)) | (apply rk_gd_u; · simp [evl])))
        refine rc_loop (pi1_ok _ H1 ys i c a b u st op op' (by rw [hyl]; exact ⟨(by (first | (simp (disch := omega) only [evl, Nat.reduceEqDiff, Nat.reduceAdd, reduceIte, reduceCtorEq, h0] <;> exact rfl) | exact rfl)), (by (first | (simp (disch := omega) only [evl, Nat.reduceEqDiff, Nat.reduceAdd, reduceIte, reduceCtorEq, h1] <;> exact rfl) | exact rfl)), (by (first | (simp (disch := omega) only [evl, Nat.reduceEqDiff, Nat.reduceAdd, reduceIte, reduceCtorEq, h2] <;> exact rfl) | exact rfl)), (by (first | (simp (disch := omega) only [evl, Nat.reduceEqDiff, Nat.reduceAdd, reduceIte, reduceCtorEq, h7] <;> exact rfl) | exact rfl)), (by (first | (simp (disch := omega) only [evl, Nat.reduceEqDiff, Nat.reduceAdd, reduceIte, reduceCtorEq, h8] <;> exact rfl) | exact rfl))⟩) g1 g2 hrow (by omega) (by omega) hs) ?_
        rintro ex T1 H2 ⟨rfl, hH2, u, g1, g2, hpb, hs, hend⟩
        rw [hyl] at hpb
        obtain ⟨h0, h1, h2, h7, h8⟩ := hpb
        cases hH2
        by_cases hub : u = b
        · subst hub
          (repeat' (first | refine Z ?_ | refine Zq ?_ | refine rn_blk_x (by decide) ?_ | ((first | refine' Y ?_ ?_ | refine' X ?_ ?_ ?_); rotate_left; (· (first | (simp (disch := omega) only [evl, Nat.reduceEqDiff, Nat.reduceAdd, reduceIte, reduceCtorEq, h2, h7] <;> exact rfl) | exact rfl)); all_goals try (refine fun (hb : _ = _) => ?_; try simp only [Zu, ne_eq, reduceCtorEq] at hb)) | (apply rk_gd_u; · simp [evl])))
          refine rn_nil ?_; refine lpq_r ?_
          refine .inr ⟨rfl, true, ?_, hp, ys, hrow, hkp, fun _ => hs⟩
          (simp (disch := omega) only [evl, Nat.reduceEqDiff, Nat.reduceAdd, reduceIte, reduceCtorEq])
        · have hlt2 : u < b := by omega
          have hc : g ys u < g ys (u - 1) := by rcases hend with h | h; omega; exact h
          by_cases h50 : b - a < 50
          · (repeat' (first | refine Z ?_ | refine Zq ?_ | refine rn_blk_x (by decide) ?_ | ((first | refine' Y ?_ ?_ | refine' X ?_ ?_ ?_); rotate_left; (· (first | (simp (disch := omega) only [evl, Nat.reduceEqDiff, Nat.reduceAdd, reduceIte, reduceCtorEq, h1, h2, h7] <;> exact rfl) | exact rfl)); all_goals try (refine fun (hb : _ = _) => ?_; try simp only [Zu, ne_eq, reduceCtorEq] at hb)) | (apply rk_gd_u; · simp [evl])))
            refine rn_nil ?_; refine lpq_r ?_
            refine .inr ⟨rfl, false, ?_, hp, ys, hrow, hkp, fun h => by cases h⟩
            (simp (disch := omega) only [evl, Nat.reduceEqDiff, Nat.reduceAdd, reduceIte, reduceCtorEq])
          · have hixA := ixn (i := i) (n := xs.length) (c := c) (op := op) (k := u) (by omega)
            have hixB := ix (i := i) (n := xs.length) (c := c) (op := op) (e := (u : Int) - 1) (by omega) (by omega)
            rw [show ((u : Int) - 1).toNat = u - 1 from by omega] at hixB
            have hrdA := rd hrow (k := u) (by omega)
            have hrdB := rd hrow (k := u - 1) (by omega)
            obtain ⟨H3, H4, hs3, hs4, hr4, hp4, hn4⟩ := swap hrow (a := u) (b := u - 1) (hp.hide.trans hh) (by rw [hp.lo]; exact hlo) (by omega) (by omega)
            have hsw := sw_kp (xs := ys) (a := u) (b := u - 1) (lo := a) (hi := b) (by omega) (by omega) (by omega) (by omega) (by omega) (by omega)
            have hsk := fun s => sw_key (xs := ys) (a := u) (b := u - 1) (by omega) (by omega) s
            have hzl := sw_len ys u (u - 1)
            have hpA := hp.trans hp4 (r := (· ≠ i)) fun i hi h => ⟨h, h⟩
            have hkA := hkp.trans hsw (a := a) (b := b) (Nat.le_refl _) (Nat.le_refl _) (Nat.le_refl _) (Nat.le_refl _)
            have hs4' : srt (sw ys u (u - 1)) a (u - 1) := fun s t r1 r2 r3 => by
              rw [hsk, hsk, if_neg (by omega), if_neg (by omega), if_neg (by omega), if_neg (by omega)]
              exact hs s t r1 r2 (by omega)
            have hpre4 : a = 0 ∨ al (fun x => g (sw ys u (u - 1)) (a - 1) ≤ x) (sw ys u (u - 1)) a b := by
              rcases hpre with h | h
              · exact .inl h
              · by_cases h0 : a = 0
                · exact .inl h0
                · refine .inr ?_
                  rw [hkA.key (j := a - 1) (by omega)]
                  exact al_kp h hkA hb'
            (repeat' (first | refine Z ?_ | refine rn_blk_x (by decide) ?_ | ((first | refine' Y ?_ ?_ | refine' X ?_ ?_ ?_); rotate_left; (· (first | (simp (disch := omega) only [evl, Nat.reduceEqDiff, Nat.reduceAdd, reduceIte, reduceCtorEq, h0, h1, h2, h7, hixA, hixB, hrdA, hrdB] <;> exact rfl) | exact rfl)); all_goals try (refine fun (hb : _ = _) => ?_; try simp only [Zu, ne_eq, reduceCtorEq] at hb)) | (apply rk_gd_u; · simp [evl])))
            refine rn_seq_n ?_
            (repeat' (first | refine Z ?_ | refine rn_blk_x (by decide) ?_ | ((first | refine' Y ?_ ?_ | refine' X ?_ ?_ ?_); rotate_left; (· (first | (simp (disch := omega) only [evl, Nat.reduceEqDiff, Nat.reduceAdd, reduceIte, reduceCtorEq, h0, h1, h2, h7, hixA, hixB, hrdA, hrdB] <;> exact rfl) | exact rfl)); all_goals try (refine fun (hb : _ = _) => ?_; try simp only [Zu, ne_eq, reduceCtorEq] at hb)) | (apply rk_gd_u; · simp [evl])))
            refine rn_seq_n ?_
            (repeat' (first | refine Z ?_ | refine rn_blk_x (by decide) ?_ | ((first | refine' Y ?_ ?_ | refine' X ?_ ?_ ?_); rotate_left; (· (first | (simp (disch := omega) only [evl, Nat.reduceEqDiff, Nat.reduceAdd, reduceIte, reduceCtorEq, h0, h1, h2, h7, hixA, hixB, hrdA, hrdB] <;> exact rfl) | exact rfl)); all_goals try (refine fun (hb : _ = _) => ?_; try simp only [Zu, ne_eq, reduceCtorEq] at hb)) | (apply rk_gd_u; · simp [evl])))
            refine rn_seq_n ?_
            (repeat' (first | refine Z ?_ | refine rn_blk_x (by decide) ?_ | ((first | refine' Y ?_ ?_ | refine' X ?_ ?_ ?_); rotate_left; (· (first | (simp (disch := omega) only [evl, Nat.reduceEqDiff, Nat.reduceAdd, reduceIte, reduceCtorEq, h0, h1, h2, h7, hixA, hixB, hrdA, hrdB] <;> exact rfl) | exact rfl)); all_goals try (refine fun (hb : _ = _) => ?_; try simp only [Zu, ne_eq, reduceCtorEq] at hb)) | (apply rk_gd_u; · simp [evl])))
            refine rn_seq_n ?_
            (repeat' (first | refine Z ?_ | refine rn_blk_x (by decide) ?_ | ((first | refine' Y ?_ ?_ | refine' X ?_ ?_ ?_); rotate_left; (· (first | (simp (disch := omega) only [evl, Nat.reduceEqDiff, Nat.reduceAdd, reduceIte, reduceCtorEq, h0, h1, h2, h7, hixA, hixB, hrdA, hrdB] <;> exact rfl) | exact rfl)); all_goals try (refine fun (hb : _ = _) => ?_; try simp only [Zu, ne_eq, reduceCtorEq] at hb)) | (apply rk_gd_u; · simp [evl])))
            refine rn_seq_n ?_
            (repeat' (first | refine Z ?_ | refine rn_blk_x (by decide) ?_ | ((first | refine' Y ?_ ?_ | refine' X ?_ ?_ ?_); rotate_left; (· (first | (simp (disch := omega) only [evl, Nat.reduceEqDiff, Nat.reduceAdd, reduceIte, reduceCtorEq, h0, h1, h2, h7, hixA, hixB, hrdA, hrdB] <;> exact rfl) | exact rfl)); all_goals try (refine fun (hb : _ = _) => ?_; try simp only [Zu, ne_eq, reduceCtorEq] at hb)) | (apply rk_gd_u; · simp [evl])))
            apply rk_st
            · (simp (disch := omega) only [evl, Nat.reduceEqDiff, Nat.reduceAdd, reduceIte, reduceCtorEq])
              exact hs3
            simp only [hOut_f]
            (repeat' (first | refine Z ?_ | refine rn_blk_x (by decide) ?_ | ((first | refine' Y ?_ ?_ | refine' X ?_ ?_ ?_); rotate_left; (· (first | (simp (disch := omega) only [evl, Nat.reduceEqDiff, Nat.reduceAdd, reduceIte, reduceCtorEq, hixB] <;> exact rfl) | exact rfl)); all_goals try (refine fun (hb : _ = _) => ?_; try simp only [Zu, ne_eq, reduceCtorEq] at hb)) | (apply rk_gd_u; · simp [evl])))
            apply rk_st
            · (simp (disch := omega) only [evl, Nat.reduceEqDiff, Nat.reduceAdd, reduceIte, reduceCtorEq])
              exact hs4
            simp only [hOut_f]
            generalize sw ys u (u - 1) = zs at *
            -- the shift to the right, and the next round
            have right : ∀ (T : Tr AV) (H5 : AH) (us : List Int), Pb T i xs.length c a b u st op → HP (· ≠ i) H H5 → Row H5 i false op' 3 1 (iC us) → Kp xs us a b → srt us a u →
                RC look (.seq (.reg f68r17) (.cond (tO 98) (.seq (.reg f68r18) (.block 6 (.loop f68b3))) .skip)) [.blk 1, .seq (.reg f68r23)] T H5 (LpQ (fun k T H' => ∃ (u st : Nat) (ys : List Int), k = 5 - st ∧ st ≤ 5 ∧ a + 1 ≤ u ∧ u ≤ b ∧ Pb T i xs.length c a b u st op ∧ HP (· ≠ i) H H' ∧ Row H' i false op' 3 1 (iC ys) ∧ Kp xs ys a b ∧ srt ys a u) (fun ex T' H' => (ex = .exit 0 ∧ Done xs i a b op' H H' fun _ => True) ∨ (ex = .ret ∧ PiR xs i a b op' H (gT T' 6) H')) k) := by
              intro T H5 us ⟨h0, h1, h2, h7, h8⟩ hp5 hrow5 hk5 hs5
              have hul := hk5.len
              by_cases hb2 : u + 2 ≤ b
              · have eu : (u : Int) + 1 = ((u + 1 : Nat) : Int) := by omega
                have h2' : ¬ ((b : Int) - u < 2) := by omega
                (repeat' (first | refine Z ?_ | refine Zq ?_ | refine rn_blk_x (by decide) ?_ | ((first | refine' Y ?_ ?_ | refine' X ?_ ?_ ?_); rotate_left; (· (first | (simp (disch := omega) only [evl, Nat.reduceEqDiff, Nat.reduceAdd, reduceIte, reduceCtorEq, h2, h7, eu] <;> exact rfl) | exact rfl)); all_goals try (refine fun (hb : _ = _) => ?_; try simp only [Zu, ne_eq, reduceCtorEq] at hb)) | (apply rk_gd_u; · simp [evl])))
                refine rc_loop (pi3_ok _ H5 us i c a b u st op op' (by rw [hul]; exact ⟨(by (first | (simp (disch := omega) only [evl, Nat.reduceEqDiff, Nat.reduceAdd, reduceIte, reduceCtorEq, h0] <;> exact rfl) | exact rfl)), (by (first | (simp (disch := omega) only [evl, Nat.reduceEqDiff, Nat.reduceAdd, reduceIte, reduceCtorEq, h1] <;> exact rfl) | exact rfl)), (by (first | (simp (disch := omega) only [evl, Nat.reduceEqDiff, Nat.reduceAdd, reduceIte, reduceCtorEq, h2] <;> exact rfl) | exact rfl)), (by (first | (simp (disch := omega) only [evl, Nat.reduceEqDiff, Nat.reduceAdd, reduceIte, reduceCtorEq, h7] <;> exact rfl) | exact rfl)), (by (first | (simp (disch := omega) only [evl, Nat.reduceEqDiff, Nat.reduceAdd, reduceIte, reduceCtorEq, h8] <;> exact rfl) | exact rfl))⟩) (by (first | (simp (disch := omega) only [evl, Nat.reduceEqDiff, Nat.reduceAdd, reduceIte, reduceCtorEq, eu] <;> exact rfl) | exact rfl)) g1 hb2 hrow5 (by have := hp5.next; omega) (by rw [hp5.lo]; exact hlo) (hp5.hide.trans hh) (by omega) (by omega)) ?_
                rintro ex T6 H6 ⟨rfl, hpb, hp6, ws, hrow6, hk6⟩
                rw [hul] at hpb
                obtain ⟨h0, h1, h2, h7, h8⟩ := hpb
                (repeat' (first | refine Z ?_ | refine Zq ?_ | refine rn_blk_x (by decide) ?_ | ((first | refine' Y ?_ ?_ | refine' X ?_ ?_ ?_); rotate_left; (· (first | (simp (disch := omega) only [evl, Nat.reduceEqDiff, Nat.reduceAdd, reduceIte, reduceCtorEq, h8] <;> exact rfl) | exact rfl)); all_goals try (refine fun (hb : _ = _) => ?_; try simp only [Zu, ne_eq, reduceCtorEq] at hb)) | (apply rk_gd_u; · simp [evl])))
                refine rn_nil ?_; refine lpq_n (5 - (st + 1)) (by omega) ?_
                exact ⟨u, st + 1, ws, rfl, by omega, g1, g2, ⟨(by (first | (simp (disch := omega) only [evl, Nat.reduceEqDiff, Nat.reduceAdd, reduceIte, reduceCtorEq, h0] <;> exact rfl) | exact rfl)), (by (first | (simp (disch := omega) only [evl, Nat.reduceEqDiff, Nat.reduceAdd, reduceIte, reduceCtorEq, h1] <;> exact rfl) | exact rfl)), (by (first | (simp (disch := omega) only [evl, Nat.reduceEqDiff, Nat.reduceAdd, reduceIte, reduceCtorEq, h2] <;> exact rfl) | exact rfl)), (by (first | (simp (disch := omega) only [evl, Nat.reduceEqDiff, Nat.reduceAdd, reduceIte, reduceCtorEq, h7] <;> exact rfl) | exact rfl)), (by (first | (simp (disch := omega) only [evl, Nat.reduceEqDiff, Nat.reduceAdd, reduceIte, reduceCtorEq, h8] <;> exact rfl) | exact rfl))⟩, hp5.trans hp6 (r := (· ≠ i)) fun i hi h => ⟨h, h⟩, hrow6, hk5.trans hk6 (Nat.le_refl _) (Nat.le_refl _) (by omega) (Nat.le_refl _), srt_kp hs5 hk6 (.inl (Nat.le_refl _))⟩
              · (repeat' (first | refine Z ?_ | refine Zq ?_ | refine rn_blk_x (by decide) ?_ | ((first | refine' Y ?_ ?_ | refine' X ?_ ?_ ?_); rotate_left; (· (first | (simp (disch := omega) only [evl, Nat.reduceEqDiff, Nat.reduceAdd, reduceIte, reduceCtorEq, h2, h7, h8] <;> exact rfl) | exact rfl)); all_goals try (refine fun (hb : _ = _) => ?_; try simp only [Zu, ne_eq, reduceCtorEq] at hb)) | (apply rk_gd_u; · simp [evl])))
                refine rn_nil ?_; refine lpq_n (5 - (st + 1)) (by omega) ?_
                exact ⟨u, st + 1, us, rfl, by omega, g1, g2, ⟨(by (first | (simp (disch := omega) only [evl, Nat.reduceEqDiff, Nat.reduceAdd, reduceIte, reduceCtorEq, h0] <;> exact rfl) | exact rfl)), (by (first | (simp (disch := omega) only [evl, Nat.reduceEqDiff, Nat.reduceAdd, reduceIte, reduceCtorEq, h1] <;> exact rfl) | exact rfl)), (by (first | (simp (disch := omega) only [evl, Nat.reduceEqDiff, Nat.reduceAdd, reduceIte, reduceCtorEq, h2] <;> exact rfl) | exact rfl)), (by (first | (simp (disch := omega) only [evl, Nat.reduceEqDiff, Nat.reduceAdd, reduceIte, reduceCtorEq, h7] <;> exact rfl) | exact rfl)), (by (first | (simp (disch := omega) only [evl, Nat.reduceEqDiff, Nat.reduceAdd, reduceIte, reduceCtorEq, h8] <;> exact rfl) | exact rfl))⟩, hp5, hrow5, hk5, hs5⟩
            by_cases ha2 : a + 2 ≤ u
            · have eu : (u : Int) - 1 = ((u - 1 : Nat) : Int) := by omega
              (repeat' (first | refine Z ?_ | refine rn_blk_x (by decide) ?_ | ((first | refine' Y ?_ ?_ | refine' X ?_ ?_ ?_); rotate_left; (· (first | (simp (disch := omega) only [evl, Nat.reduceEqDiff, Nat.reduceAdd, reduceIte, reduceCtorEq, h1, h7, eu] <;> exact rfl) | exact rfl)); all_goals try (refine fun (hb : _ = _) => ?_; try simp only [Zu, ne_eq, reduceCtorEq] at hb)) | (apply rk_gd_u; · simp [evl])))
              refine rn_seq_n ?_
              (repeat' (first | refine Z ?_ | refine rn_blk_x (by decide) ?_ | ((first | refine' Y ?_ ?_ | refine' X ?_ ?_ ?_); rotate_left; (· (first | (simp (disch := omega) only [evl, Nat.reduceEqDiff, Nat.reduceAdd, reduceIte, reduceCtorEq, h1, h7, eu] <;> exact rfl) | exact rfl)); all_goals try (refine fun (hb : _ = _) => ?_; try simp only [Zu, ne_eq, reduceCtorEq] at hb)) | (apply rk_gd_u; · simp [evl])))
              refine rn_seq_n ?_
              (repeat' (first | refine Z ?_ | refine rn_blk_x (by decide) ?_ | ((first | refine' Y ?_ ?_ | refine' X ?_ ?_ ?_); rotate_left; (· (first | (simp (disch := omega) only [evl, Nat.reduceEqDiff, Nat.reduceAdd, reduceIte, reduceCtorEq, h1, h7, eu] <;> exact rfl) | exact rfl)); all_goals try (refine fun (hb : _ = _) => ?_; try simp only [Zu, ne_eq, reduceCtorEq] at hb)) | (apply rk_gd_u; · simp [evl])))
              refine rn_seq_n ?_
              (repeat' (first | refine Z ?_ | refine rn_blk_x (by decide) ?_ | ((first | refine' Y ?_ ?_ | refine' X ?_ ?_ ?_); rotate_left; (· (first | (simp (disch := omega) only [evl, Nat.reduceEqDiff, Nat.reduceAdd, reduceIte, reduceCtorEq, h1, h7, eu] <;> exact rfl) | exact rfl)); all_goals try (refine fun (hb : _ = _) => ?_; try simp only [Zu, ne_eq, reduceCtorEq] at hb)) | (apply rk_gd_u; · simp [evl])))
              refine rc_loop (pi2_ok _ H4 zs i c a b u st op op' (by rw [hzl, hyl]; exact ⟨(by (first | (simp (disch := omega) only [evl, Nat.reduceEqDiff, Nat.reduceAdd, reduceIte, reduceCtorEq, h0] <;> exact rfl) | exact rfl)), (by (first | (simp (disch := omega) only [evl, Nat.reduceEqDiff, Nat.reduceAdd, reduceIte, reduceCtorEq, h1] <;> exact rfl) | exact rfl)), (by (first | (simp (disch := omega) only [evl, Nat.reduceEqDiff, Nat.reduceAdd, reduceIte, reduceCtorEq, h2] <;> exact rfl) | exact rfl)), (by (first | (simp (disch := omega) only [evl, Nat.reduceEqDiff, Nat.reduceAdd, reduceIte, reduceCtorEq, h7] <;> exact rfl) | exact rfl)), (by (first | (simp (disch := omega) only [evl, Nat.reduceEqDiff, Nat.reduceAdd, reduceIte, reduceCtorEq, h8] <;> exact rfl) | exact rfl))⟩) (by (first | (simp (disch := omega) only [evl, Nat.reduceEqDiff, Nat.reduceAdd, reduceIte, reduceCtorEq, eu] <;> exact rfl) | exact rfl)) ha2 hlt2 hr4 (by have := hpA.next; omega) (by rw [hpA.lo]; exact hlo) (hpA.hide.trans hh) (by omega) (by omega) hs4' hpre4) ?_
              rintro ex T6 H6 ⟨rfl, hpb, hp6, ws, hrow6, hk6, hs6⟩
              rw [hzl, hyl] at hpb
              (repeat' (first | refine Z ?_ | refine rn_blk_x (by decide) ?_ | ((first | refine' Y ?_ ?_ | refine' X ?_ ?_ ?_); rotate_left; (· (first | (simp (disch := omega) only [evl, Nat.reduceEqDiff, Nat.reduceAdd, reduceIte, reduceCtorEq] <;> exact rfl) | exact rfl)); all_goals try (refine fun (hb : _ = _) => ?_; try simp only [Zu, ne_eq, reduceCtorEq] at hb)) | (apply rk_gd_u; · simp [evl])))
              refine rn_seq_n ?_
              exact right _ H6 ws hpb (hpA.trans hp6 (r := (· ≠ i)) fun i hi h => ⟨h, h⟩) hrow6 (hkA.trans hk6 (Nat.le_refl _) (Nat.le_refl _) (Nat.le_refl _) (Nat.le_refl _)) hs6
            · (repeat' (first | refine Z ?_ | refine rn_blk_x (by decide) ?_ | ((first | refine' Y ?_ ?_ | refine' X ?_ ?_ ?_); rotate_left; (· (first | (simp (disch := omega) only [evl, Nat.reduceEqDiff, Nat.reduceAdd, reduceIte, reduceCtorEq, h1, h7] <;> exact rfl) | exact rfl)); all_goals try (refine fun (hb : _ = _) => ?_; try simp only [Zu, ne_eq, reduceCtorEq] at hb)) | (apply rk_gd_u; · simp [evl])))
              refine rn_seq_n ?_
              (repeat' (first | refine Z ?_ | refine rn_blk_x (by decide) ?_ | ((first | refine' Y ?_ ?_ | refine' X ?_ ?_ ?_); rotate_left; (· (first | (simp (disch := omega) only [evl, Nat.reduceEqDiff, Nat.reduceAdd, reduceIte, reduceCtorEq, h1, h7] <;> exact rfl) | exact rfl)); all_goals try (refine fun (hb : _ = _) => ?_; try simp only [Zu, ne_eq, reduceCtorEq] at hb)) | (apply rk_gd_u; · simp [evl])))
              refine rn_seq_n ?_
              (repeat' (first | refine Z ?_ | refine rn_blk_x (by decide) ?_ | ((first | refine' Y ?_ ?_ | refine' X ?_ ?_ ?_); rotate_left; (· (first | (simp (disch := omega) only [evl, Nat.reduceEqDiff, Nat.reduceAdd, reduceIte, reduceCtorEq, h1, h7] <;> exact rfl) | exact rfl)); all_goals try (refine fun (hb : _ = _) => ?_; try simp only [Zu, ne_eq, reduceCtorEq] at hb)) | (apply rk_gd_u; · simp [evl])))
              refine rn_seq_n ?_
              exact right _ H4 zs ⟨(by (first | (simp (disch := omega) only [evl, Nat.reduceEqDiff, Nat.reduceAdd, reduceIte, reduceCtorEq, h0] <;> exact rfl) | exact rfl)), (by (first | (simp (disch := omega) only [evl, Nat.reduceEqDiff, Nat.reduceAdd, reduceIte, reduceCtorEq, h1] <;> exact rfl) | exact rfl)), (by (first | (simp (disch := omega) only [evl, Nat.reduceEqDiff, Nat.reduceAdd, reduceIte, reduceCtorEq, h2] <;> exact rfl) | exact rfl)), (by (first | (simp (disch := omega) only [evl, Nat.reduceEqDiff, Nat.reduceAdd, reduceIte, reduceCtorEq, h7] <;> exact rfl) | exact rfl)), (by (first | (simp (disch := omega) only [evl, Nat.reduceEqDiff, Nat.reduceAdd, reduceIte, reduceCtorEq, h8] <;> exact rfl) | exact rfl))⟩ hpA hr4 hkA (fun s t r1 r2 r3 => by omega)
      · (repeat' (first | refine Z ?_ | refine Zq ?_ | refine rn_blk_x (by decide) ?_ | ((first | refine' Y ?_ ?_ | refine' X ?_ ?_ ?_); rotate_left; (· (first | (simp (disch := omega) only [evl, Nat.reduceEqDiff, Nat.reduceAdd, reduceIte, reduceCtorEq, h8] <;> exact rfl) | exact rfl)); all_goals try (refine fun (hb : _ = _) => ?_; try simp only [Zu, ne_eq, reduceCtorEq] at hb)) | (apply rk_gd_u; · simp [evl])))
        refine rn_nil ?_; refine lpq_e ?_
        exact .inl ⟨rfl, hp, ys, hrow, hkp, trivial⟩
    · exact ⟨a + 1, 0, xs, rfl, by omega, Nat.le_refl _, hab, ⟨(by (first | (simp (disch := omega) only [evl, Nat.reduceEqDiff, Nat.reduceAdd, reduceIte, reduceCtorEq] <;> exact rfl) | exact rfl)), (by (first | (simp (disch := omega) only [evl, Nat.reduceEqDiff, Nat.reduceAdd, reduceIte, reduceCtorEq] <;> exact rfl) | exact rfl)), (by (first | (simp (disch := omega) only [evl, Nat.reduceEqDiff, Nat.reduceAdd, reduceIte, reduceCtorEq] <;> exact rfl) | exact rfl)), (by (first | (simp (disch := omega) only [evl, Nat.reduceEqDiff, Nat.reduceAdd, reduceIte, reduceCtorEq, e1] <;> exact rfl) | exact rfl)), (by (first | (simp (disch := omega) only [evl, Nat.reduceEqDiff, Nat.reduceAdd, reduceIte, reduceCtorEq] <;> exact rfl) | exact rfl))⟩, HP.refl _ _, hr, Kp.refl _ _ _, fun s t r1 r2 r3 => by omega⟩
  · rintro ex T' H' (⟨rfl, hp, ys, hrow, hkp, _⟩ | ⟨rfl, hres⟩)
    · (repeat' (first | refine Z ?_ | refine Zq ?_ | refine rn_blk_x (by decide) ?_ | ((first | refine' Y ?_ ?_ | refine' X ?_ ?_ ?_); rotate_left; (· (first | (simp (disch := omega) only [evl, Nat.reduceEqDiff, Nat.reduceAdd, reduceIte, reduceCtorEq] <;> exact rfl) | exact rfl)); all_goals try (refine fun (hb : _ = _) => ?_; try simp only [Zu, ne_eq, reduceCtorEq] at hb)) | (apply rk_gd_u; · simp [evl])))
      refine rn_nil ?_; refine fq_ret (resV_1 _ _) ⟨false, ?_, hp, ys, hrow, hkp, fun h => by cases h⟩
      (simp (disch := omega) only [evl, Nat.reduceEqDiff, Nat.reduceAdd, reduceIte, reduceCtorEq])
    · (repeat' (first | refine Z ?_ | refine Zq ?_ | refine rn_blk_x (by decide) ?_ | ((first | refine' Y ?_ ?_ | refine' X ?_ ?_ ?_); rotate_left; (· (first | (simp (disch := omega) only [evl, Nat.reduceEqDiff, Nat.reduceAdd, reduceIte, reduceCtorEq] <;> exact rfl) | exact rfl)); all_goals try (refine fun (hb : _ = _) => ?_; try simp only [Zu, ne_eq, reduceCtorEq] at hb)) | (apply rk_gd_u; · simp [evl])))
      refine rn_nil ?_; exact fq_ret (resV_1 _ _) hres
end PQ
end Go.Proofs.Ytnkomaedmblemaa

set_option linter.unusedSimpArgs false
set_option linter.unusedVariables false
set_option maxRecDepth 100000
namespace Go.Proofs.Ytnkomaedmblemaa
open Go.Ev Exl
open Ra Rb Rc Rd Re Rf Rg Rh Ri Rj Rk Rl Rm Rn Ro Rp Rq Rr
namespace PQ

/-! ### pdqsort -/
def PreI (ys : List Int) (a b : Nat) : Prop := a = 0 ∨ al (fun x => g ys (a - 1) ≤ x) ys a b
def FinI (ys : List Int) (a' b' a b : Nat) : Prop := ∀ zs, Kp ys zs a' b' → srt zs a' b' → srt zs a b
theorem PreI.kp {ys zs : List Int} {a b : Nat} (h : PreI ys a b) (hk : Kp ys zs a b) (hb : b ≤ ys.length) : PreI zs a b := by
  by_cases h0 : a = 0
  · exact .inl h0
  · rcases h with h | h
    · exact .inl h
    · refine .inr ?_
      rw [hk.key (j := a - 1) (by omega)]
      exact al_kp h hk hb
theorem FinI.kp {ys zs : List Int} {a' b' a b : Nat} (h : FinI ys a' b' a b) (hk : Kp ys zs a' b') : FinI zs a' b' a b := fun us h1 h2 =>
  h us (hk.trans h1 (Nat.le_refl _) (Nat.le_refl _) (Nat.le_refl _) (Nat.le_refl _)) h2
theorem srt_join {ys : List Int} {a m b : Nat} (h1 : srt ys a m) (h2 : srt ys m b) (h : ∀ s t, a ≤ s → s < m → m ≤ t → t < b → g ys s ≤ g ys t) : srt ys a b := fun s t r1 r2 r3 => by
  by_cases e1 : t < m
  · exact h1 s t r1 r2 e1
  · by_cases e2 : m ≤ s
    · exact h2 s t e2 r2 r3
    · exact h s t r1 (by omega) (by omega) r3

/-- What is so in a round of pdqsort. -/
structure PS (T : Tr AV) (H H' : AH) (xs ys : List Int) (i c a b a' b' lim : Nat) (op op' w1 w2 : Bool) : Prop where
  t0 : gT T 0 = .sl i 0 xs.length c op
  t1 : gT T 1 = .int .i64 a'
  t2 : gT T 2 = .int .i64 b'
  t3 : gT T 3 = .int .i64 lim
  t8 : gT T 8 = .bool w1
  t9 : gT T 9 = .bool w2
  h1 : a ≤ a'
  h2 : a' ≤ b'
  h3 : b' ≤ b
  h4 : lim ≤ 64
  hp : HP (· ≠ i) H H'
  row : Row H' i false op' 3 1 (iC ys)
  kp : Kp xs ys a b
  pre : PreI ys a' b'
  fin : FinI ys a' b' a b
/-- What does not change. -/
structure PC (H : AH) (xs : List Int) (i a b : Nat) : Prop where
  hi : i < H.next
  hlo : H.lo ≤ i
  hh : H.hide = []
  hb : b ≤ xs.length
  hl : xs.length ≤ 60000
abbrev PInv (H : AH) (xs : List Int) (i c a b : Nat) (op op' : Bool) (k : Nat) (T : Tr AV) (H' : AH) : Prop := ∃ (a' b' lim : Nat) (w1 w2 : Bool) (ys : List Int), k = b' - a' ∧ PS T H H' xs ys i c a b a' b' lim op op' w1 w2
abbrev PRes (H : AH) (xs : List Int) (i a b : Nat) (op' : Bool) : PostC := fun ex T' H' => ex = .ret ∧ Done xs i a b op' H H' fun ys => srt ys a b
abbrev PRec (w : Nat) : Prop := ∀ (H : AH) (xs : List Int) (i c a b lim : Nat) (op op' : Bool), b - a < w → Row H i false op' 3 1 (iC xs) → PC H xs i a b → a ≤ b → lim ≤ 64 → PreI xs a b →
  FnE look 60 [.sl i 0 xs.length c op, .int .i64 a, .int .i64 b, .int .i64 lim] H fun r H' => Done xs i a b op' H H' fun ys => srt ys a b

noncomputable abbrev cD : C2 := .seq (.reg f60r20) (.seq (.reg f60r21) (.seq (.reg f60r22) (.seq (.reg f60r23) (.seq (.reg f60r24) (.cond (tO 113) (.seq (.reg f60r25) (.seq (.reg f60r26) (.reg f60r27))) (.seq (.reg f60r28) (.seq (.reg f60r29) (.reg f60r30))))))))
noncomputable abbrev cC : C2 := .seq (.seq (.reg f60r17) (.cond (tO 87) (.seq (.reg f60r18) (.seq (.reg f60r19) (.exit 1))) .skip)) cD
noncomputable abbrev cB : C2 := .seq (.seq (.reg f60r15) (.cond (tO 68) (.seq (.reg f60r16) (.cond (tO 72) .ret .skip)) .skip)) cC
noncomputable abbrev cA : C2 := .seq (.reg f60r10) (.seq (.seq (.reg f60r11) (.cond (tO 50) (.seq (.reg f60r12) (.seq (.reg f60r13) (.reg f60r14))) .skip)) cB)

section
variable {T : Tr AV} {H H1 : AH} {xs ys : List Int} {i c a b a' b' lim p n k : Nat} {op op' w1 w2 : Bool}

theorem PS.pc (h : PS T H H1 xs ys i c a b a' b' lim op op' w1 w2) (hc : PC H xs i a b) : PC H1 ys i a' b' := by
  have hl := h.kp.len
  have := h.h3
  have := hc.hb
  exact ⟨by have := hc.hi; have := h.hp.next; omega, by rw [h.hp.lo]; exact hc.hlo, h.hp.hide.trans hc.hh, by omega, by have := hc.hl; omega⟩

set_option maxHeartbeats 8000000 in
theorem stepD (h : PS T H H1 xs ys i c a b a' b' lim op op' w1 w2) (hc : PC H xs i a b) (hrec : PRec (b - a)) (h10 : gT T 10 = .int .i64 n) (hn : n = b' - a') (h11 : gT T 11 = .int .i64 p) (hp1 : a' ≤ p) (hp2 : p < b') (hk : k = b' - a') :
    RC look cD [.blk 1] T H1 (LpQ (PInv H xs i c a b op op') (PRes H xs i a b op') k) := by
  have hc1 := h.pc hc
  obtain ⟨t0, t1, t2, t3, t8, t9, g1, g2, g3, g4, hp, hrow, hkp, hpre, hfin⟩ := h
  have hyl := hkp.len
  have hcb := hc.hb
  have hcl := hc.hl
  have hpn := hp.next
  (repeat' (first | refine Z ?_ | refine Zq ?_ | refine rn_blk_x (by decide) ?_ | ((first | refine' Y ?_ ?_ | refine' X ?_ ?_ ?_); rotate_left; (· (first | (simp (disch := omega) only [evl, Nat.reduceEqDiff, Nat.reduceAdd, reduceIte, reduceCtorEq, t0, t1, t2, h11] <;> exact rfl) | exact rfl)); all_goals try (refine fun (hb : _ = _) => ?_; try simp only [Zu, ne_eq, reduceCtorEq] at hb)) | (apply rk_gd_u; · simp [evl])))
  refine rk_cl (by (simp (disch := omega) only [evl, Nat.reduceEqDiff, Nat.reduceAdd, reduceIte, reduceCtorEq, t0, t1, t2, h11]); rw [← hyl]; exact part_ok H1 ys i c a' b' p op op' hrow hc1.hi hc1.hlo hc1.hh hp1 hp2 (by omega) (by omega)) ?_
  rintro r H2 ⟨m, q, rfl, hpp, zs, hr2, hkz, hm1, hm2, hal1, hgm, hal2⟩
  simp only [hOut_f]
  have hzl := hkz.len
  have hpA := hp.trans hpp (r := (· ≠ i)) fun i hi h => ⟨h, h⟩
  have hkA := hkp.trans hkz (a := a) (b := b) (Nat.le_refl _) (Nat.le_refl _) g1 g3
  have hpreZ := hpre.kp hkz (by omega)
  have hfinZ := hfin.kp hkz
  have hcZ : ∀ x y, y ≤ b' → PC H2 zs i x y := fun x y hy => ⟨by have := hc1.hi; have := hpp.next; omega, by rw [hpp.lo]; exact hc1.hlo, hpp.hide.trans hc1.hh, by omega, by omega⟩
  -- which part is the smaller one
  have e1 : (m : Int) - a' = ((m - a' : Nat) : Int) := by omega
  have e2 : (b' : Int) - m = ((b' - m : Nat) : Int) := by omega
  have e3 : (m : Int) + 1 = ((m + 1 : Nat) : Int) := by omega
  have hq8 : ∀ s, binF .quo s (.int .i64 (n : Int)) (.int .i64 8) = some (.int .i64 ((n / 8 : Nat) : Int)) := fun s => quoN s n 8 (by omega) (by omega)
  obtain ⟨d, hd⟩ : ∃ d, d = n / 8 := ⟨_, rfl⟩
  rw [← hd] at hq8
  -- the left part, sorted first
  by_cases hside : m - a' < b' - m
  · have tailL : ∀ (T : Tr AV) (q w : Bool), gT T 0 = .sl i 0 xs.length c op → gT T 1 = .int .i64 a' → gT T 2 = .int .i64 b' → gT T 3 = .int .i64 lim → gT T 8 = .bool w → gT T 9 = .bool q → gT T 14 = .int .i64 m →
        RC look (.seq (.reg f60r26) (.reg f60r27)) [.blk 1] T H2 (LpQ (PInv H xs i c a b op op') (PRes H xs i a b op') k) := by
      intro T q w t0 t1 t2 t3 t8 t9 t14
      (repeat' (first | refine Z ?_ | refine Zq ?_ | refine rn_blk_x (by decide) ?_ | ((first | refine' Y ?_ ?_ | refine' X ?_ ?_ ?_); rotate_left; (· (first | (simp (disch := omega) only [evl, Nat.reduceEqDiff, Nat.reduceAdd, reduceIte, reduceCtorEq, t0, t1, t14, t3] <;> exact rfl) | exact rfl)); all_goals try (refine fun (hb : _ = _) => ?_; try simp only [Zu, ne_eq, reduceCtorEq] at hb)) | (apply rk_gd_u; · simp [evl])))
      refine rk_cl (by (simp (disch := omega) only [evl, Nat.reduceEqDiff, Nat.reduceAdd, reduceIte, reduceCtorEq, t0, t1, t14, t3]); rw [← hyl, ← hzl]; exact hrec H2 zs i c a' m lim op op' (by omega) hr2 (hcZ _ _ (by omega)) hm1 g4 (by rcases hpreZ with h | h; exact .inl h; exact .inr (al_sub h (Nat.le_refl _) (by omega)))) ?_
      rintro r H3 ⟨hp3, us, hr3, hk3, hs3⟩
      simp only [hOut_f]
      (repeat' (first | refine Z ?_ | refine Zq ?_ | refine rn_blk_x (by decide) ?_ | ((first | refine' Y ?_ ?_ | refine' X ?_ ?_ ?_); rotate_left; (· (first | (simp (disch := omega) only [evl, Nat.reduceEqDiff, Nat.reduceAdd, reduceIte, reduceCtorEq, t14, e3] <;> exact rfl) | exact rfl)); all_goals try (refine fun (hb : _ = _) => ?_; try simp only [Zu, ne_eq, reduceCtorEq] at hb)) | (apply rk_gd_u; · simp [evl])))
      refine rn_nil ?_; refine lpq_n (b' - (m + 1)) (by omega) ?_
      have hgm3 : g us m = g zs m := hk3.key (by omega)
      have hk3' : Kp zs us a' b' := hk3.wide (Nat.le_refl _) (by omega)
      have hal3 : al (fun x => x < g ys p) us a' m := al_kp hal1 hk3 (by omega)
      have hal4 : al (fun x => g ys p ≤ x) us (m + 1) b' := al_out hal2 hk3 (.inr (by omega))
      refine ⟨m + 1, b', lim, w, q, us, rfl, ⟨(by (first | (simp (disch := omega) only [evl, Nat.reduceEqDiff, Nat.reduceAdd, reduceIte, reduceCtorEq, t0] <;> exact rfl) | exact rfl)), (by (first | (simp (disch := omega) only [evl, Nat.reduceEqDiff, Nat.reduceAdd, reduceIte, reduceCtorEq, e3] <;> exact rfl) | exact rfl)), (by (first | (simp (disch := omega) only [evl, Nat.reduceEqDiff, Nat.reduceAdd, reduceIte, reduceCtorEq, t2] <;> exact rfl) | exact rfl)), (by (first | (simp (disch := omega) only [evl, Nat.reduceEqDiff, Nat.reduceAdd, reduceIte, reduceCtorEq, t3] <;> exact rfl) | exact rfl)), (by (first | (simp (disch := omega) only [evl, Nat.reduceEqDiff, Nat.reduceAdd, reduceIte, reduceCtorEq, t8] <;> exact rfl) | exact rfl)), (by (first | (simp (disch := omega) only [evl, Nat.reduceEqDiff, Nat.reduceAdd, reduceIte, reduceCtorEq, t9] <;> exact rfl) | exact rfl)), by omega, by omega, g3, g4, hpA.trans hp3 (r := (· ≠ i)) fun i hi h => ⟨h, h⟩, hr3, hkA.trans hk3' (Nat.le_refl _) (Nat.le_refl _) g1 g3, .inr ?_, ?_⟩⟩
      · rw [show m + 1 - 1 = m from by omega, hgm3, hgm]; exact hal4
      · intro ws hkw hsw
        refine hfinZ ws (hk3'.trans hkw (Nat.le_refl _) (Nat.le_refl _) (by omega) (Nat.le_refl _)) ?_
        have hul := hk3.len
        refine srt_join (m := m + 1) (fun s t r1 r2 r3 => ?_) hsw (fun s t r1 r2 r3 r4 => ?_)
        · rw [hkw.key (j := s) (by omega), hkw.key (j := t) (by omega)]
          by_cases e : t = m
          · rw [e, hgm3, hgm]; have := hal3 s r1 (by omega); simp only at this; omega
          · exact hs3 s t r1 r2 (by omega)
        · have h5 := al_kp hal4 hkw (by omega) t r3 r4
          simp only at h5
          rw [hkw.key (j := s) (by omega)]
          by_cases e : s = m
          · rw [e, hgm3, hgm]; exact h5
          · have := hal3 s r1 (by omega); simp only at this; omega
    have HL := Hd.mk tailL
    clear tailL hal1 hal2
    by_cases hbal : d ≤ m - a'
    · (repeat' (first | refine Z ?_ | refine rn_blk_x (by decide) ?_ | ((first | refine' Y ?_ ?_ | refine' X ?_ ?_ ?_); rotate_left; (· (first | (simp (disch := omega) only [evl, Nat.reduceEqDiff, Nat.reduceAdd, reduceIte, reduceCtorEq, t0, t1, t2, t3, t8, t9, e1, e2, hq8, h10] <;> exact rfl) | exact rfl)); all_goals try (refine fun (hb : _ = _) => ?_; try simp only [Zu, ne_eq, reduceCtorEq] at hb)) | (apply rk_gd_u; · simp [evl])))
      refine rn_seq_n ?_
      (repeat' (first | refine Z ?_ | refine rn_blk_x (by decide) ?_ | ((first | refine' Y ?_ ?_ | refine' X ?_ ?_ ?_); rotate_left; (· (first | (simp (disch := omega) only [evl, Nat.reduceEqDiff, Nat.reduceAdd, reduceIte, reduceCtorEq, t0, t1, t2, t3, t8, t9, e1, e2, hq8, h10] <;> exact rfl) | exact rfl)); all_goals try (refine fun (hb : _ = _) => ?_; try simp only [Zu, ne_eq, reduceCtorEq] at hb)) | (apply rk_gd_u; · simp [evl])))
      refine rn_seq_n ?_
      (repeat' (first | refine Z ?_ | refine rn_blk_x (by decide) ?_ | ((first | refine' Y ?_ ?_ | refine' X ?_ ?_ ?_); rotate_left; (· (first | (simp (disch := omega) only [evl, Nat.reduceEqDiff, Nat.reduceAdd, reduceIte, reduceCtorEq, t0, t1, t2, t3, t8, t9, e1, e2, hq8, h10] <;> exact rfl) | exact rfl)); all_goals try (refine fun (hb : _ = _) => ?_; try simp only [Zu, ne_eq, reduceCtorEq] at hb)) | (apply rk_gd_u; · simp [evl])))
      refine rn_seq_n ?_
      (repeat' (first | refine Z ?_ | refine rn_blk_x (by decide) ?_ | ((first | refine' Y ?_ ?_ | refine' X ?_ ?_ ?_); rotate_left; (· (first | (simp (disch := omega) only [evl, Nat.reduceEqDiff, Nat.reduceAdd, reduceIte, reduceCtorEq, t0, t1, t2, t3, t8, t9, e1, e2, hq8, h10] <;> exact rfl) | exact rfl)); all_goals try (refine fun (hb : _ = _) => ?_; try simp only [Zu, ne_eq, reduceCtorEq] at hb)) | (apply rk_gd_u; · simp [evl])))
      refine rn_seq_n ?_
      (repeat' (first | refine Z ?_ | refine rn_blk_x (by decide) ?_ | ((first | refine' Y ?_ ?_ | refine' X ?_ ?_ ?_); rotate_left; (· (first | (simp (disch := omega) only [evl, Nat.reduceEqDiff, Nat.reduceAdd, reduceIte, reduceCtorEq, t0, t1, t2, t3, t8, t9, e1, e2, hq8, h10] <;> exact rfl) | exact rfl)); all_goals try (refine fun (hb : _ = _) => ?_; try simp only [Zu, ne_eq, reduceCtorEq] at hb)) | (apply rk_gd_u; · simp [evl])))
      refine rn_seq_n ?_
      (repeat' (first | refine Z ?_ | refine rn_blk_x (by decide) ?_ | ((first | refine' Y ?_ ?_ | refine' X ?_ ?_ ?_); rotate_left; (· (first | (simp (disch := omega) only [evl, Nat.reduceEqDiff, Nat.reduceAdd, reduceIte, reduceCtorEq, t0, t1, t2, t3, t8, t9, e1, e2, hq8, h10] <;> exact rfl) | exact rfl)); all_goals try (refine fun (hb : _ = _) => ?_; try simp only [Zu, ne_eq, reduceCtorEq] at hb)) | (apply rk_gd_u; · simp [evl])))
      refine rn_seq_n ?_
      exact HL.out _ q true (by (first | (simp (disch := omega) only [evl, Nat.reduceEqDiff, Nat.reduceAdd, reduceIte, reduceCtorEq, t0] <;> exact rfl) | exact rfl)) (by (first | (simp (disch := omega) only [evl, Nat.reduceEqDiff, Nat.reduceAdd, reduceIte, reduceCtorEq, t1] <;> exact rfl) | exact rfl)) (by (first | (simp (disch := omega) only [evl, Nat.reduceEqDiff, Nat.reduceAdd, reduceIte, reduceCtorEq, t2] <;> exact rfl) | exact rfl)) (by (first | (simp (disch := omega) only [evl, Nat.reduceEqDiff, Nat.reduceAdd, reduceIte, reduceCtorEq, t3] <;> exact rfl) | exact rfl)) (by (first | (simp (disch := omega) only [evl, Nat.reduceEqDiff, Nat.reduceAdd, reduceIte, reduceCtorEq] <;> exact rfl) | exact rfl)) (by (first | (simp (disch := omega) only [evl, Nat.reduceEqDiff, Nat.reduceAdd, reduceIte, reduceCtorEq] <;> exact rfl) | exact rfl)) (by (first | (simp (disch := omega) only [evl, Nat.reduceEqDiff, Nat.reduceAdd, reduceIte, reduceCtorEq] <;> exact rfl) | exact rfl))
    · (repeat' (first | refine Z ?_ | refine rn_blk_x (by decide) ?_ | ((first | refine' Y ?_ ?_ | refine' X ?_ ?_ ?_); rotate_left; (· (first | (simp (disch := omega) only [evl, Nat.reduceEqDiff, Nat.reduceAdd, reduceIte, reduceCtorEq, t0, t1, t2, t3, t8, t9, e1, e2, hq8, h10] <;> exact rfl) | exact rfl)); all_goals try (refine fun (hb : _ = _) => ?_; try simp only [Zu, ne_eq, reduceCtorEq] at hb)) | (apply rk_gd_u; · simp [evl])))
      refine rn_seq_n ?_
      (repeat' (first | refine Z ?_ | refine rn_blk_x (by decide) ?_ | ((first | refine' Y ?_ ?_ | refine' X ?_ ?_ ?_); rotate_left; (· (first | (simp (disch := omega) only [evl, Nat.reduceEqDiff, Nat.reduceAdd, reduceIte, reduceCtorEq, t0, t1, t2, t3, t8, t9, e1, e2, hq8, h10] <;> exact rfl) | exact rfl)); all_goals try (refine fun (hb : _ = _) => ?_; try simp only [Zu, ne_eq, reduceCtorEq] at hb)) | (apply rk_gd_u; · simp [evl])))
      refine rn_seq_n ?_
      (repeat' (first | refine Z ?_ | refine rn_blk_x (by decide) ?_ | ((first | refine' Y ?_ ?_ | refine' X ?_ ?_ ?_); rotate_left; (· (first | (simp (disch := omega) only [evl, Nat.reduceEqDiff, Nat.reduceAdd, reduceIte, reduceCtorEq, t0, t1, t2, t3, t8, t9, e1, e2, hq8, h10] <;> exact rfl) | exact rfl)); all_goals try (refine fun (hb : _ = _) => ?_; try simp only [Zu, ne_eq, reduceCtorEq] at hb)) | (apply rk_gd_u; · simp [evl])))
      refine rn_seq_n ?_
      (repeat' (first | refine Z ?_ | refine rn_blk_x (by decide) ?_ | ((first | refine' Y ?_ ?_ | refine' X ?_ ?_ ?_); rotate_left; (· (first | (simp (disch := omega) only [evl, Nat.reduceEqDiff, Nat.reduceAdd, reduceIte, reduceCtorEq, t0, t1, t2, t3, t8, t9, e1, e2, hq8, h10] <;> exact rfl) | exact rfl)); all_goals try (refine fun (hb : _ = _) => ?_; try simp only [Zu, ne_eq, reduceCtorEq] at hb)) | (apply rk_gd_u; · simp [evl])))
      refine rn_seq_n ?_
      (repeat' (first | refine Z ?_ | refine rn_blk_x (by decide) ?_ | ((first | refine' Y ?_ ?_ | refine' X ?_ ?_ ?_); rotate_left; (· (first | (simp (disch := omega) only [evl, Nat.reduceEqDiff, Nat.reduceAdd, reduceIte, reduceCtorEq, t0, t1, t2, t3, t8, t9, e1, e2, hq8, h10] <;> exact rfl) | exact rfl)); all_goals try (refine fun (hb : _ = _) => ?_; try simp only [Zu, ne_eq, reduceCtorEq] at hb)) | (apply rk_gd_u; · simp [evl])))
      refine rn_seq_n ?_
      (repeat' (first | refine Z ?_ | refine rn_blk_x (by decide) ?_ | ((first | refine' Y ?_ ?_ | refine' X ?_ ?_ ?_); rotate_left; (· (first | (simp (disch := omega) only [evl, Nat.reduceEqDiff, Nat.reduceAdd, reduceIte, reduceCtorEq, t0, t1, t2, t3, t8, t9, e1, e2, hq8, h10] <;> exact rfl) | exact rfl)); all_goals try (refine fun (hb : _ = _) => ?_; try simp only [Zu, ne_eq, reduceCtorEq] at hb)) | (apply rk_gd_u; · simp [evl])))
      refine rn_seq_n ?_
      exact HL.out _ q false (by (first | (simp (disch := omega) only [evl, Nat.reduceEqDiff, Nat.reduceAdd, reduceIte, reduceCtorEq, t0] <;> exact rfl) | exact rfl)) (by (first | (simp (disch := omega) only [evl, Nat.reduceEqDiff, Nat.reduceAdd, reduceIte, reduceCtorEq, t1] <;> exact rfl) | exact rfl)) (by (first | (simp (disch := omega) only [evl, Nat.reduceEqDiff, Nat.reduceAdd, reduceIte, reduceCtorEq, t2] <;> exact rfl) | exact rfl)) (by (first | (simp (disch := omega) only [evl, Nat.reduceEqDiff, Nat.reduceAdd, reduceIte, reduceCtorEq, t3] <;> exact rfl) | exact rfl)) (by (first | (simp (disch := omega) only [evl, Nat.reduceEqDiff, Nat.reduceAdd, reduceIte, reduceCtorEq] <;> exact rfl) | exact rfl)) (by (first | (simp (disch := omega) only [evl, Nat.reduceEqDiff, Nat.reduceAdd, reduceIte, reduceCtorEq] <;> exact rfl) | exact rfl)) (by (first | (simp (disch := omega) only [evl, Nat.reduceEqDiff, Nat.reduceAdd, reduceIte, reduceCtorEq] <;> exact rfl) | exact rfl))
  · have tailR : ∀ (T : Tr AV) (q w : Bool), gT T 0 = .sl i 0 xs.length c op → gT T 1 = .int .i64 a' → gT T 2 = .int .i64 b' → gT T 3 = .int .i64 lim → gT T 8 = .bool w → gT T 9 = .bool q → gT T 14 = .int .i64 m →
        RC look (.seq (.reg f60r29) (.reg f60r30)) [.blk 1] T H2 (LpQ (PInv H xs i c a b op op') (PRes H xs i a b op') k) := by
      intro T q w t0 t1 t2 t3 t8 t9 t14
      have hgm0 : g zs (m + 1 - 1) = g ys p := by rw [show m + 1 - 1 = m from by omega]; exact hgm
      (repeat' (first | refine Z ?_ | refine Zq ?_ | refine rn_blk_x (by decide) ?_ | ((first | refine' Y ?_ ?_ | refine' X ?_ ?_ ?_); rotate_left; (· (first | (simp (disch := omega) only [evl, Nat.reduceEqDiff, Nat.reduceAdd, reduceIte, reduceCtorEq, t0, t2, t14, t3, e3] <;> exact rfl) | exact rfl)); all_goals try (refine fun (hb : _ = _) => ?_; try simp only [Zu, ne_eq, reduceCtorEq] at hb)) | (apply rk_gd_u; · simp [evl])))
      refine rk_cl (by (simp (disch := omega) only [evl, Nat.reduceEqDiff, Nat.reduceAdd, reduceIte, reduceCtorEq, t0, t2, t14, t3, e3]); rw [← hyl, ← hzl]; exact hrec H2 zs i c (m + 1) b' lim op op' (by omega) hr2 (hcZ _ _ (Nat.le_refl _)) (by omega) g4 (.inr (by rw [hgm0]; exact hal2))) ?_
      rintro r H3 ⟨hp3, us, hr3, hk3, hs3⟩
      simp only [hOut_f]
      (repeat' (first | refine Z ?_ | refine Zq ?_ | refine rn_blk_x (by decide) ?_ | ((first | refine' Y ?_ ?_ | refine' X ?_ ?_ ?_); rotate_left; (· (first | (simp (disch := omega) only [evl, Nat.reduceEqDiff, Nat.reduceAdd, reduceIte, reduceCtorEq, t14] <;> exact rfl) | exact rfl)); all_goals try (refine fun (hb : _ = _) => ?_; try simp only [Zu, ne_eq, reduceCtorEq] at hb)) | (apply rk_gd_u; · simp [evl])))
      refine rn_nil ?_; refine lpq_n (m - a') (by omega) ?_
      have hgm3 : g us m = g zs m := hk3.key (by omega)
      have hk3' : Kp zs us a' b' := hk3.wide (by omega) (Nat.le_refl _)
      have hal3 : al (fun x => x < g ys p) us a' m := al_out hal1 hk3 (.inl (by omega))
      have hal4 : al (fun x => g ys p ≤ x) us (m + 1) b' := al_kp hal2 hk3 (by omega)
      have hpreU := hpreZ.kp hk3' (by omega)
      refine ⟨a', m, lim, w, q, us, rfl, ⟨(by (first | (simp (disch := omega) only [evl, Nat.reduceEqDiff, Nat.reduceAdd, reduceIte, reduceCtorEq, t0] <;> exact rfl) | exact rfl)), (by (first | (simp (disch := omega) only [evl, Nat.reduceEqDiff, Nat.reduceAdd, reduceIte, reduceCtorEq, t1] <;> exact rfl) | exact rfl)), (by (first | (simp (disch := omega) only [evl, Nat.reduceEqDiff, Nat.reduceAdd, reduceIte, reduceCtorEq, t14] <;> exact rfl) | exact rfl)), (by (first | (simp (disch := omega) only [evl, Nat.reduceEqDiff, Nat.reduceAdd, reduceIte, reduceCtorEq, t3] <;> exact rfl) | exact rfl)), (by (first | (simp (disch := omega) only [evl, Nat.reduceEqDiff, Nat.reduceAdd, reduceIte, reduceCtorEq, t8] <;> exact rfl) | exact rfl)), (by (first | (simp (disch := omega) only [evl, Nat.reduceEqDiff, Nat.reduceAdd, reduceIte, reduceCtorEq, t9] <;> exact rfl) | exact rfl)), g1, hm1, by omega, g4, hpA.trans hp3 (r := (· ≠ i)) fun i hi h => ⟨h, h⟩, hr3, hkA.trans hk3' (Nat.le_refl _) (Nat.le_refl _) g1 g3, ?_, ?_⟩⟩
      · rcases hpreU with h | h
        · exact .inl h
        · exact .inr (al_sub h (Nat.le_refl _) (by omega))
      · intro ws hkw hsw
        refine hfinZ ws (hk3'.trans hkw (Nat.le_refl _) (Nat.le_refl _) (Nat.le_refl _) (by omega)) ?_
        have hul := hk3.len
        refine srt_join (m := m) hsw (fun s t r1 r2 r3 => ?_) (fun s t r1 r2 r3 r4 => ?_)
        · rw [hkw.key (j := s) (by omega), hkw.key (j := t) (by omega)]
          by_cases e : s = m
          · rw [e, hgm3, hgm]; exact hal4 t (by omega) r3
          · exact hs3 s t (by omega) r2 r3
        · have h5 := al_kp hal3 hkw (by omega) s r1 r2
          simp only at h5
          rw [hkw.key (j := t) (by omega)]
          by_cases e : t = m
          · rw [e, hgm3, hgm]; omega
          · have := hal4 t (by omega) r4; simp only at this; omega
    have HR := Hd.mk tailR
    clear tailR hal1 hal2
    by_cases hbal : d ≤ b' - m
    · (repeat' (first | refine Z ?_ | refine rn_blk_x (by decide) ?_ | ((first | refine' Y ?_ ?_ | refine' X ?_ ?_ ?_); rotate_left; (· (first | (simp (disch := omega) only [evl, Nat.reduceEqDiff, Nat.reduceAdd, reduceIte, reduceCtorEq, t0, t1, t2, t3, t8, t9, e1, e2, hq8, h10] <;> exact rfl) | exact rfl)); all_goals try (refine fun (hb : _ = _) => ?_; try simp only [Zu, ne_eq, reduceCtorEq] at hb)) | (apply rk_gd_u; · simp [evl])))
      refine rn_seq_n ?_
      (repeat' (first | refine Z ?_ | refine rn_blk_x (by decide) ?_ | ((first | refine' Y ?_ ?_ | refine' X ?_ ?_ ?_); rotate_left; (· (first | (simp (disch := omega) only [evl, Nat.reduceEqDiff, Nat.reduceAdd, reduceIte, reduceCtorEq, t0, t1, t2, t3, t8, t9, e1, e2, hq8, h10] <;> exact rfl) | exact rfl)); all_goals try (refine fun (hb : _ = _) => ?_; try simp only [Zu, ne_eq, reduceCtorEq] at hb)) | (apply rk_gd_u; · simp [evl])))
      refine rn_seq_n ?_
      (repeat' (first | refine Z ?_ | refine rn_blk_x (by decide) ?_ | ((first | refine' Y ?_ ?_ | refine' X ?_ ?_ ?_); rotate_left; (· (first | (simp (disch := omega) only [evl, Nat.reduceEqDiff, Nat.reduceAdd, reduceIte, reduceCtorEq, t0, t1, t2, t3, t8, t9, e1, e2, hq8, h10] <;> exact rfl) | exact rfl)); all_goals try (refine fun (hb : _ = _) => ?_; try simp only [Zu, ne_eq, reduceCtorEq] at hb)) | (apply rk_gd_u; · simp [evl])))
      refine rn_seq_n ?_
      (repeat' (first | refine Z ?_ | refine rn_blk_x (by decide) ?_ | ((first | refine' Y ?_ ?_ | refine' X ?_ ?_ ?_); rotate_left; (· (first | (simp (disch := omega) only [evl, Nat.reduceEqDiff, Nat.reduceAdd, reduceIte, reduceCtorEq, t0, t1, t2, t3, t8, t9, e1, e2, hq8, h10] <;> exact rfl) | exact rfl)); all_goals try (refine fun (hb : _ = _) => ?_; try simp only [Zu, ne_eq, reduceCtorEq] at hb)) | (apply rk_gd_u; · simp [evl])))
      refine rn_seq_n ?_
      (repeat' (first | refine Z ?_ | refine rn_blk_x (by decide) ?_ | ((first | refine' Y ?_ ?_ | refine' X ?_ ?_ ?_); rotate_left; (· (first | (simp (disch := omega) only [evl, Nat.reduceEqDiff, Nat.reduceAdd, reduceIte, reduceCtorEq, t0, t1, t2, t3, t8, t9, e1, e2, hq8, h10] <;> exact rfl) | exact rfl)); all_goals try (refine fun (hb : _ = _) => ?_; try simp only [Zu, ne_eq, reduceCtorEq] at hb)) | (apply rk_gd_u; · simp [evl])))
      refine rn_seq_n ?_
      (repeat' (first | refine Z ?_ | refine rn_blk_x (by decide) ?_ | ((first | refine' Y ?_ ?_ | refine' X ?_ ?_ ?_); rotate_left; (· (first | (simp (disch := omega) only [evl, Nat.reduceEqDiff, Nat.reduceAdd, reduceIte, reduceCtorEq, t0, t1, t2, t3, t8, t9, e1, e2, hq8, h10] <;> exact rfl) | exact rfl)); all_goals try (refine fun (hb : _ = _) => ?_; try simp only [Zu, ne_eq, reduceCtorEq] at hb)) | (apply rk_gd_u; · simp [evl])))
      refine rn_seq_n ?_
      exact HR.out _ q true (by (first | (simp (disch := omega) only [evl, Nat.reduceEqDiff, Nat.reduceAdd, reduceIte, reduceCtorEq, t0] <;> exact rfl) | exact rfl)) (by (first | (simp (disch := omega) only [evl, Nat.reduceEqDiff, Nat.reduceAdd, reduceIte, reduceCtorEq, t1] <;> exact rfl) | exact rfl)) (by (first | (simp (disch := omega) only [evl, Nat.reduceEqDiff, Nat.reduceAdd, reduceIte, reduceCtorEq, t2] <;> exact rfl) | exact rfl)) (by (first | (simp (disch := omega) only [evl, Nat.reduceEqDiff, Nat.reduceAdd, reduceIte, reduceCtorEq, t3] <;> exact rfl) | exact rfl)) (by (first | (simp (disch := omega) only [evl, Nat.reduceEqDiff, Nat.reduceAdd, reduceIte, reduceCtorEq] <;> exact rfl) | exact rfl)) (by (first | (simp (disch := omega) only [evl, Nat.reduceEqDiff, Nat.reduceAdd, reduceIte, reduceCtorEq] <;> exact rfl) | exact rfl)) (by (first | (simp (disch := omega) only [evl, Nat.reduceEqDiff, Nat.reduceAdd, reduceIte, reduceCtorEq] <;> exact rfl) | exact rfl))
    · (repeat' (first | refine Z ?_ | refine rn_blk_x (by decide) ?_ | ((first | refine' Y ?_ ?_ | refine' X ?_ ?_ ?_); rotate_left; (· (first | (simp (disch := omega) only [evl, Nat.reduceEqDiff, Nat.reduceAdd, reduceIte, reduceCtorEq, t0, t1, t2, t3, t8, t9, e1, e2, hq8, h10] <;> exact rfl) | exact rfl)); all_goals try (refine fun (hb : _ = _) => ?_; try simp only [Zu, ne_eq, reduceCtorEq] at hb)) | (apply rk_gd_u; · simp [evl])))
      refine rn_seq_n ?_
      (repeat' (first | refine Z ?_ | refine rn_blk_x (by decide) ?_ | ((first | refine' Y ?_ ?_ | refine' X ?_ ?_ ?_); rotate_left; (· (first | (simp (disch := omega) only [evl, Nat.reduceEqDiff, Nat.reduceAdd, reduceIte, reduceCtorEq, t0, t1, t2, t3, t8, t9, e1, e2, hq8, h10] <;> exact rfl) | exact rfl)); all_goals try (refine fun (hb : _ = _) => ?_; try simp only [Zu, ne_eq, reduceCtorEq] at hb)) | (apply rk_gd_u; · simp [evl])))
      refine rn_seq_n ?_
      (repeat' (first | refine Z ?_ | refine rn_blk_x (by decide) ?_ | ((first | refine' Y ?_ ?_ | refine' X ?_ ?_ ?_); rotate_left; (· (first | (simp (disch := omega) only [evl, Nat.reduceEqDiff, Nat.reduceAdd, reduceIte, reduceCtorEq, t0, t1, t2, t3, t8, t9, e1, e2, hq8, h10] <;> exact rfl) | exact rfl)); all_goals try (refine fun (hb : _ = _) => ?_; try simp only [Zu, ne_eq, reduceCtorEq] at hb)) | (apply rk_gd_u; · simp [evl])))
      refine rn_seq_n ?_
      (repeat' (first | refine Z ?_ | refine rn_blk_x (by decide) ?_ | ((first | refine' Y ?_ ?_ | refine' X ?_ ?_ ?_); rotate_left; (· (first | (simp (disch := omega) only [evl, Nat.reduceEqDiff, Nat.reduceAdd, reduceIte, reduceCtorEq, t0, t1, t2, t3, t8, t9, e1, e2, hq8, h10] <;> exact rfl) | exact rfl)); all_goals try (refine fun (hb : _ = _) => ?_; try simp only [Zu, ne_eq, reduceCtorEq] at hb)) | (apply rk_gd_u; · simp [evl])))
      refine rn_seq_n ?_
      (repeat' (first | refine Z ?_ | refine rn_blk_x (by decide) ?_ | ((first | refine' Y ?_ ?_ | refine' X ?_ ?_ ?_); rotate_left; (· (first | (simp (disch := omega) only [evl, Nat.reduceEqDiff, Nat.reduceAdd, reduceIte, reduceCtorEq, t0, t1, t2, t3, t8, t9, e1, e2, hq8, h10] <;> exact rfl) | exact rfl)); all_goals try (refine fun (hb : _ = _) => ?_; try simp only [Zu, ne_eq, reduceCtorEq] at hb)) | (apply rk_gd_u; · simp [evl])))
      refine rn_seq_n ?_
      (repeat' (first | refine Z ?_ | refine rn_blk_x (by decide) ?_ | ((first | refine' Y ?_ ?_ | refine' X ?_ ?_ ?_); rotate_left; (· (first | (simp (disch := omega) only [evl, Nat.reduceEqDiff, Nat.reduceAdd, reduceIte, reduceCtorEq, t0, t1, t2, t3, t8, t9, e1, e2, hq8, h10] <;> exact rfl) | exact rfl)); all_goals try (refine fun (hb : _ = _) => ?_; try simp only [Zu, ne_eq, reduceCtorEq] at hb)) | (apply rk_gd_u; · simp [evl])))
      refine rn_seq_n ?_
      exact HR.out _ q false (by (first | (simp (disch := omega) only [evl, Nat.reduceEqDiff, Nat.reduceAdd, reduceIte, reduceCtorEq, t0] <;> exact rfl) | exact rfl)) (by (first | (simp (disch := omega) only [evl, Nat.reduceEqDiff, Nat.reduceAdd, reduceIte, reduceCtorEq, t1] <;> exact rfl) | exact rfl)) (by (first | (simp (disch := omega) only [evl, Nat.reduceEqDiff, Nat.reduceAdd, reduceIte, reduceCtorEq, t2] <;> exact rfl) | exact rfl)) (by (first | (simp (disch := omega) only [evl, Nat.reduceEqDiff, Nat.reduceAdd, reduceIte, reduceCtorEq, t3] <;> exact rfl) | exact rfl)) (by (first | (simp (disch := omega) only [evl, Nat.reduceEqDiff, Nat.reduceAdd, reduceIte, reduceCtorEq] <;> exact rfl) | exact rfl)) (by (first | (simp (disch := omega) only [evl, Nat.reduceEqDiff, Nat.reduceAdd, reduceIte, reduceCtorEq] <;> exact rfl) | exact rfl)) (by (first | (simp (disch := omega) only [evl, Nat.reduceEqDiff, Nat.reduceAdd, reduceIte, reduceCtorEq] <;> exact rfl) | exact rfl))

set_option maxHeartbeats 8000000 in
theorem stepC (h : PS T H H1 xs ys i c a b a' b' lim op op' w1 w2) (hc : PC H xs i a b) (hrec : PRec (b - a)) (h10 : gT T 10 = .int .i64 n) (hn : n = b' - a') (h11 : gT T 11 = .int .i64 p) (hp1 : a' ≤ p) (hp2 : p < b') (hk : k = b' - a') :
    RC look cC [.blk 1] T H1 (LpQ (PInv H xs i c a b op op') (PRes H xs i a b op') k) := by
  have hc1 := h.pc hc
  have h' := h
  obtain ⟨t0, t1, t2, t3, t8, t9, g1, g2, g3, g4, hp, hrow, hkp, hpre, hfin⟩ := h'
  have hyl := hkp.len
  have hcb := hc.hb
  have hcl := hc.hl
  -- nothing to do here
  have on : ∀ T', gT T' 0 = gT T 0 → gT T' 1 = gT T 1 → gT T' 2 = gT T 2 → gT T' 3 = gT T 3 → gT T' 8 = gT T 8 → gT T' 9 = gT T 9 → gT T' 10 = gT T 10 → gT T' 11 = gT T 11 → RC look cD [.blk 1] T' H1 (LpQ (PInv H xs i c a b op op') (PRes H xs i a b op') k) := by
    intro T' q0 q1 q2 q3 q8 q9 q10 q11
    exact stepD ⟨q0.trans t0, q1.trans t1, q2.trans t2, q3.trans t3, q8.trans t8, q9.trans t9, g1, g2, g3, g4, hp, hrow, hkp, hpre, hfin⟩ hc hrec (q10.trans h10) hn (q11.trans h11) hp1 hp2 hk
  have On := Hd.mk on
  clear on
  by_cases ha0 : a' = 0
  · subst ha0
    (repeat' (first | refine Z ?_ | refine rn_blk_x (by decide) ?_ | ((first | refine' Y ?_ ?_ | refine' X ?_ ?_ ?_); rotate_left; (· (first | (simp (disch := omega) only [evl, Nat.reduceEqDiff, Nat.reduceAdd, reduceIte, reduceCtorEq, t0, t1] <;> exact rfl) | exact rfl)); all_goals try (refine fun (hb : _ = _) => ?_; try simp only [Zu, ne_eq, reduceCtorEq] at hb)) | (apply rk_gd_u; · simp [evl])))
    refine rn_seq_n ?_
    (repeat' (first | refine Z ?_ | refine rn_blk_x (by decide) ?_ | ((first | refine' Y ?_ ?_ | refine' X ?_ ?_ ?_); rotate_left; (· (first | (simp (disch := omega) only [evl, Nat.reduceEqDiff, Nat.reduceAdd, reduceIte, reduceCtorEq, t0, t1] <;> exact rfl) | exact rfl)); all_goals try (refine fun (hb : _ = _) => ?_; try simp only [Zu, ne_eq, reduceCtorEq] at hb)) | (apply rk_gd_u; · simp [evl])))
    refine rn_seq_n ?_
    exact On.out _ (by (first | (simp (disch := omega) only [evl, Nat.reduceEqDiff, Nat.reduceAdd, reduceIte, reduceCtorEq] <;> exact rfl) | exact rfl)) (by (first | (simp (disch := omega) only [evl, Nat.reduceEqDiff, Nat.reduceAdd, reduceIte, reduceCtorEq] <;> exact rfl) | exact rfl)) (by (first | (simp (disch := omega) only [evl, Nat.reduceEqDiff, Nat.reduceAdd, reduceIte, reduceCtorEq] <;> exact rfl) | exact rfl)) (by (first | (simp (disch := omega) only [evl, Nat.reduceEqDiff, Nat.reduceAdd, reduceIte, reduceCtorEq] <;> exact rfl) | exact rfl)) (by (first | (simp (disch := omega) only [evl, Nat.reduceEqDiff, Nat.reduceAdd, reduceIte, reduceCtorEq] <;> exact rfl) | exact rfl)) (by (first | (simp (disch := omega) only [evl, Nat.reduceEqDiff, Nat.reduceAdd, reduceIte, reduceCtorEq] <;> exact rfl) | exact rfl)) (by (first | (simp (disch := omega) only [evl, Nat.reduceEqDiff, Nat.reduceAdd, reduceIte, reduceCtorEq] <;> exact rfl) | exact rfl)) (by (first | (simp (disch := omega) only [evl, Nat.reduceEqDiff, Nat.reduceAdd, reduceIte, reduceCtorEq] <;> exact rfl) | exact rfl))
  · have hixA := ix (i := i) (n := xs.length) (c := c) (op := op) (e := (a' : Int) - 1) (by omega) (by omega)
    rw [show ((a' : Int) - 1).toNat = a' - 1 from by omega] at hixA
    have hixP := ixn (i := i) (n := xs.length) (c := c) (op := op) (k := p) (by omega)
    have hrdA := rd hrow (k := a' - 1) (by omega)
    have hrdP := rd hrow (k := p) (by omega)
    (repeat' (first | refine Z ?_ | refine rn_blk_x (by decide) ?_ | ((first | refine' Y ?_ ?_ | refine' X ?_ ?_ ?_); rotate_left; (· (first | (simp (disch := omega) only [evl, Nat.reduceEqDiff, Nat.reduceAdd, reduceIte, reduceCtorEq, t0, t1, h11, hixA, hixP, hrdA, hrdP] <;> exact rfl) | exact rfl)); all_goals try (refine fun (hb : _ = _) => ?_; try simp only [Zu, ne_eq, reduceCtorEq] at hb)) | (apply rk_gd_u; · simp [evl])))
    refine rk_cl (by (simp (disch := omega) only [evl, Nat.reduceEqDiff, Nat.reduceAdd, reduceIte, reduceCtorEq]); exact less_ok H1 (g ys (a' - 1)) (g ys p)) ?_
    rintro r H2 ⟨rfl, hH2⟩
    cases hH2
    simp only [hOut_f]
    by_cases hlt : g ys (a' - 1) < g ys p
    · (repeat' (first | refine Z ?_ | refine rn_blk_x (by decide) ?_ | ((first | refine' Y ?_ ?_ | refine' X ?_ ?_ ?_); rotate_left; (· (first | (simp (disch := omega) only [evl, Nat.reduceEqDiff, Nat.reduceAdd, reduceIte, reduceCtorEq] <;> exact rfl) | exact rfl)); all_goals try (refine fun (hb : _ = _) => ?_; try simp only [Zu, ne_eq, reduceCtorEq] at hb)) | (apply rk_gd_u; · simp [evl])))
      refine rn_seq_n ?_
      (repeat' (first | refine Z ?_ | refine rn_blk_x (by decide) ?_ | ((first | refine' Y ?_ ?_ | refine' X ?_ ?_ ?_); rotate_left; (· (first | (simp (disch := omega) only [evl, Nat.reduceEqDiff, Nat.reduceAdd, reduceIte, reduceCtorEq] <;> exact rfl) | exact rfl)); all_goals try (refine fun (hb : _ = _) => ?_; try simp only [Zu, ne_eq, reduceCtorEq] at hb)) | (apply rk_gd_u; · simp [evl])))
      refine rn_seq_n ?_
      exact On.out _ (by (first | (simp (disch := omega) only [evl, Nat.reduceEqDiff, Nat.reduceAdd, reduceIte, reduceCtorEq] <;> exact rfl) | exact rfl)) (by (first | (simp (disch := omega) only [evl, Nat.reduceEqDiff, Nat.reduceAdd, reduceIte, reduceCtorEq] <;> exact rfl) | exact rfl)) (by (first | (simp (disch := omega) only [evl, Nat.reduceEqDiff, Nat.reduceAdd, reduceIte, reduceCtorEq] <;> exact rfl) | exact rfl)) (by (first | (simp (disch := omega) only [evl, Nat.reduceEqDiff, Nat.reduceAdd, reduceIte, reduceCtorEq] <;> exact rfl) | exact rfl)) (by (first | (simp (disch := omega) only [evl, Nat.reduceEqDiff, Nat.reduceAdd, reduceIte, reduceCtorEq] <;> exact rfl) | exact rfl)) (by (first | (simp (disch := omega) only [evl, Nat.reduceEqDiff, Nat.reduceAdd, reduceIte, reduceCtorEq] <;> exact rfl) | exact rfl)) (by (first | (simp (disch := omega) only [evl, Nat.reduceEqDiff, Nat.reduceAdd, reduceIte, reduceCtorEq] <;> exact rfl) | exact rfl)) (by (first | (simp (disch := omega) only [evl, Nat.reduceEqDiff, Nat.reduceAdd, reduceIte, reduceCtorEq] <;> exact rfl) | exact rfl))
    · (repeat' (first | refine Z ?_ | refine rn_blk_x (by decide) ?_ | ((first | refine' Y ?_ ?_ | refine' X ?_ ?_ ?_); rotate_left; (· (first | (simp (disch := omega) only [evl, Nat.reduceEqDiff, Nat.reduceAdd, reduceIte, reduceCtorEq] <;> exact rfl) | exact rfl)); all_goals try (refine fun (hb : _ = _) => ?_; try simp only [Zu, ne_eq, reduceCtorEq] at hb)) | (apply rk_gd_u; · simp [evl])))
      refine rn_seq_n ?_
      (repeat' (first | refine Z ?_ | refine rn_blk_x (by decide) ?_ | ((first | refine' Y ?_ ?_ | refine' X ?_ ?_ ?_); rotate_left; (· (first | (simp (disch := omega) only [evl, Nat.reduceEqDiff, Nat.reduceAdd, reduceIte, reduceCtorEq, t0, t1, t2, h11] <;> exact rfl) | exact rfl)); all_goals try (refine fun (hb : _ = _) => ?_; try simp only [Zu, ne_eq, reduceCtorEq] at hb)) | (apply rk_gd_u; · simp [evl])))
      refine rk_cl (by (simp (disch := omega) only [evl, Nat.reduceEqDiff, Nat.reduceAdd, reduceIte, reduceCtorEq, t0, t1, t2, h11]); rw [← hyl]; exact pequal_ok H1 ys i c a' b' p op op' hrow hc1.hi hc1.hlo hc1.hh hp1 hp2 (by omega) (by omega)) ?_
      rintro r H2 ⟨m, rfl, hm1, hm2, hpp, zs, hr2, hkz, hal1, hal2⟩
      simp only [hOut_f]
      have hzl := hkz.len
      have hpreZ := hpre.kp hkz (by omega)
      have hfinZ := hfin.kp hkz
      -- all in front are the pivot
      have heq : ∀ s, a' ≤ s → s < m → g zs s = g ys p := fun s r1 r2 => by
        have q1 := hal1 s r1 r2
        simp only at q1
        rcases hpreZ with h | h
        · omega
        · have q2 := h s r1 (by omega)
          simp only at q2
          rw [hkz.key (j := a' - 1) (by omega)] at q2
          omega
      have Heq := Hd.mk heq
      clear heq
      (repeat' (first | refine Z ?_ | refine Zq ?_ | refine rn_blk_x (by decide) ?_ | ((first | refine' Y ?_ ?_ | refine' X ?_ ?_ ?_); rotate_left; (· (first | (simp (disch := omega) only [evl, Nat.reduceEqDiff, Nat.reduceAdd, reduceIte, reduceCtorEq, t0] <;> exact rfl) | exact rfl)); all_goals try (refine fun (hb : _ = _) => ?_; try simp only [Zu, ne_eq, reduceCtorEq] at hb)) | (apply rk_gd_u; · simp [evl])))
      refine rn_nil ?_; refine lpq_n (b' - m) (by omega) ?_
      refine ⟨m, b', lim, w1, w2, zs, rfl, ⟨(by (first | (simp (disch := omega) only [evl, Nat.reduceEqDiff, Nat.reduceAdd, reduceIte, reduceCtorEq, t0] <;> exact rfl) | exact rfl)), (by (first | (simp (disch := omega) only [evl, Nat.reduceEqDiff, Nat.reduceAdd, reduceIte, reduceCtorEq] <;> exact rfl) | exact rfl)), (by (first | (simp (disch := omega) only [evl, Nat.reduceEqDiff, Nat.reduceAdd, reduceIte, reduceCtorEq, t2] <;> exact rfl) | exact rfl)), (by (first | (simp (disch := omega) only [evl, Nat.reduceEqDiff, Nat.reduceAdd, reduceIte, reduceCtorEq, t3] <;> exact rfl) | exact rfl)), (by (first | (simp (disch := omega) only [evl, Nat.reduceEqDiff, Nat.reduceAdd, reduceIte, reduceCtorEq, t8] <;> exact rfl) | exact rfl)), (by (first | (simp (disch := omega) only [evl, Nat.reduceEqDiff, Nat.reduceAdd, reduceIte, reduceCtorEq, t9] <;> exact rfl) | exact rfl)), by omega, hm2, g3, g4, hp.trans hpp (r := (· ≠ i)) fun i hi h => ⟨h, h⟩, hr2, hkp.trans hkz (Nat.le_refl _) (Nat.le_refl _) g1 g3, .inr ?_, ?_⟩⟩
      · rw [Heq.out (m - 1) (by omega) (by omega)]
        intro s r1 r2
        have := hal2 s r1 r2; simp only at this ⊢; omega
      · intro ws hkw hsw
        refine hfinZ ws (hkw.wide (by omega) (Nat.le_refl _)) ?_
        refine srt_join (m := m) (fun s t r1 r2 r3 => ?_) hsw (fun s t r1 r2 r3 r4 => ?_)
        · rw [hkw.key (j := s) (by omega), hkw.key (j := t) (by omega), Heq.out s r1 (by omega), Heq.out t (by omega) r3]; exact Int.le_refl _
        · have h5 := al_kp hal2 hkw (by omega) t r3 r4
          simp only at h5
          rw [hkw.key (j := s) (by omega), Heq.out s r1 r2]; omega

set_option maxHeartbeats 8000000 in
theorem stepB {hint : Int} (h : PS T H H1 xs ys i c a b a' b' lim op op' w1 w2) (hc : PC H xs i a b) (hrec : PRec (b - a)) (h10 : gT T 10 = .int .i64 n) (hn : n = b' - a') (h11 : gT T 11 = .int .i64 p) (hp1 : a' ≤ p) (hp2 : p < b') (h12 : gT T 12 = .int .i64 hint) (hk : k = b' - a') :
    RC look cB [.blk 1] T H1 (LpQ (PInv H xs i c a b op op') (PRes H xs i a b op') k) := by
  have hc1 := h.pc hc
  have h' := h
  obtain ⟨t0, t1, t2, t3, t8, t9, g1, g2, g3, g4, hp, hrow, hkp, hpre, hfin⟩ := h'
  have hyl := hkp.len
  have hcb := hc.hb
  have hcl := hc.hl
  have on : ∀ T', gT T' 0 = gT T 0 → gT T' 1 = gT T 1 → gT T' 2 = gT T 2 → gT T' 3 = gT T 3 → gT T' 8 = gT T 8 → gT T' 9 = gT T 9 → gT T' 10 = gT T 10 → gT T' 11 = gT T 11 → RC look cC [.blk 1] T' H1 (LpQ (PInv H xs i c a b op op') (PRes H xs i a b op') k) := by
    intro T' q0 q1 q2 q3 q8 q9 q10 q11
    exact stepC ⟨q0.trans t0, q1.trans t1, q2.trans t2, q3.trans t3, q8.trans t8, q9.trans t9, g1, g2, g3, g4, hp, hrow, hkp, hpre, hfin⟩ hc hrec (q10.trans h10) hn (q11.trans h11) hp1 hp2 hk
  have On := Hd.mk on
  clear on
  -- it is tried
  by_cases htry : w1 = true ∧ w2 = true ∧ hint = 1
  · obtain ⟨rfl, rfl, rfl⟩ := htry
    (repeat' (first | refine Z ?_ | refine rn_blk_x (by decide) ?_ | ((first | refine' Y ?_ ?_ | refine' X ?_ ?_ ?_); rotate_left; (· (first | (simp (disch := omega) only [evl, Nat.reduceEqDiff, Nat.reduceAdd, reduceIte, reduceCtorEq, t0, t1, t2, t8, t9, h12] <;> exact rfl) | exact rfl)); all_goals try (refine fun (hb : _ = _) => ?_; try simp only [Zu, ne_eq, reduceCtorEq] at hb)) | (apply rk_gd_u; · simp [evl])))
    refine rn_seq_n ?_
    (repeat' (first | refine Z ?_ | refine rn_blk_x (by decide) ?_ | ((first | refine' Y ?_ ?_ | refine' X ?_ ?_ ?_); rotate_left; (· (first | (simp (disch := omega) only [evl, Nat.reduceEqDiff, Nat.reduceAdd, reduceIte, reduceCtorEq, t0, t1, t2, t8, t9, h12] <;> exact rfl) | exact rfl)); all_goals try (refine fun (hb : _ = _) => ?_; try simp only [Zu, ne_eq, reduceCtorEq] at hb)) | (apply rk_gd_u; · simp [evl])))
    refine rk_cl (by (simp (disch := omega) only [evl, Nat.reduceEqDiff, Nat.reduceAdd, reduceIte, reduceCtorEq, t0, t1, t2]); rw [← hyl]; exact partial_ok H1 ys i c a' b' op op' hrow hc1.hi hc1.hlo hc1.hh (by omega) (by omega) (by omega) hpre) ?_
    rintro r H2 ⟨q, rfl, hpp, zs, hr2, hkz, hq⟩
    simp only [hOut_f]
    cases q with
    | true =>
      (repeat' (first | refine Z ?_ | refine rn_blk_x (by decide) ?_ | ((first | refine' Y ?_ ?_ | refine' X ?_ ?_ ?_); rotate_left; (· (first | (simp (disch := omega) only [evl, Nat.reduceEqDiff, Nat.reduceAdd, reduceIte, reduceCtorEq] <;> exact rfl) | exact rfl)); all_goals try (refine fun (hb : _ = _) => ?_; try simp only [Zu, ne_eq, reduceCtorEq] at hb)) | (apply rk_gd_u; · simp [evl])))
      refine rn_seq_n ?_
      (repeat' (first | refine Z ?_ | refine rn_blk_x (by decide) ?_ | ((first | refine' Y ?_ ?_ | refine' X ?_ ?_ ?_); rotate_left; (· (first | (simp (disch := omega) only [evl, Nat.reduceEqDiff, Nat.reduceAdd, reduceIte, reduceCtorEq] <;> exact rfl) | exact rfl)); all_goals try (refine fun (hb : _ = _) => ?_; try simp only [Zu, ne_eq, reduceCtorEq] at hb)) | (apply rk_gd_u; · simp [evl])))
      refine rn_nil ?_; refine lpq_r ?_
      exact ⟨rfl, hp.trans hpp (r := (· ≠ i)) fun i hi h => ⟨h, h⟩, zs, hr2, hkp.trans hkz (Nat.le_refl _) (Nat.le_refl _) g1 g3, hfin zs hkz (hq rfl)⟩
    | false =>
      (repeat' (first | refine Z ?_ | refine rn_blk_x (by decide) ?_ | ((first | refine' Y ?_ ?_ | refine' X ?_ ?_ ?_); rotate_left; (· (first | (simp (disch := omega) only [evl, Nat.reduceEqDiff, Nat.reduceAdd, reduceIte, reduceCtorEq] <;> exact rfl) | exact rfl)); all_goals try (refine fun (hb : _ = _) => ?_; try simp only [Zu, ne_eq, reduceCtorEq] at hb)) | (apply rk_gd_u; · simp [evl])))
      refine rn_seq_n ?_
      (repeat' (first | refine Z ?_ | refine rn_blk_x (by decide) ?_ | ((first | refine' Y ?_ ?_ | refine' X ?_ ?_ ?_); rotate_left; (· (first | (simp (disch := omega) only [evl, Nat.reduceEqDiff, Nat.reduceAdd, reduceIte, reduceCtorEq] <;> exact rfl) | exact rfl)); all_goals try (refine fun (hb : _ = _) => ?_; try simp only [Zu, ne_eq, reduceCtorEq] at hb)) | (apply rk_gd_u; · simp [evl])))
      refine rn_seq_n ?_
      exact stepC (ys := zs) ⟨(by (first | (simp (disch := omega) only [evl, Nat.reduceEqDiff, Nat.reduceAdd, reduceIte, reduceCtorEq, t0] <;> exact rfl) | exact rfl)), (by (first | (simp (disch := omega) only [evl, Nat.reduceEqDiff, Nat.reduceAdd, reduceIte, reduceCtorEq, t1] <;> exact rfl) | exact rfl)), (by (first | (simp (disch := omega) only [evl, Nat.reduceEqDiff, Nat.reduceAdd, reduceIte, reduceCtorEq, t2] <;> exact rfl) | exact rfl)), (by (first | (simp (disch := omega) only [evl, Nat.reduceEqDiff, Nat.reduceAdd, reduceIte, reduceCtorEq, t3] <;> exact rfl) | exact rfl)), (by (first | (simp (disch := omega) only [evl, Nat.reduceEqDiff, Nat.reduceAdd, reduceIte, reduceCtorEq, t8] <;> exact rfl) | exact rfl)), (by (first | (simp (disch := omega) only [evl, Nat.reduceEqDiff, Nat.reduceAdd, reduceIte, reduceCtorEq, t9] <;> exact rfl) | exact rfl)), g1, g2, g3, g4, hp.trans hpp (r := (· ≠ i)) fun i hi h => ⟨h, h⟩, hr2, hkp.trans hkz (Nat.le_refl _) (Nat.le_refl _) g1 g3, hpre.kp hkz (by omega), hfin.kp hkz⟩ hc hrec (by (first | (simp (disch := omega) only [evl, Nat.reduceEqDiff, Nat.reduceAdd, reduceIte, reduceCtorEq, h10] <;> exact rfl) | exact rfl)) hn (by (first | (simp (disch := omega) only [evl, Nat.reduceEqDiff, Nat.reduceAdd, reduceIte, reduceCtorEq, h11] <;> exact rfl) | exact rfl)) hp1 hp2 hk
  · have fin : ∀ T' : Tr AV, T' = T' → True := fun _ _ => trivial
    cases w1 with
    | false =>
      (repeat' (first | refine Z ?_ | refine rn_blk_x (by decide) ?_ | ((first | refine' Y ?_ ?_ | refine' X ?_ ?_ ?_); rotate_left; (· (first | (simp (disch := omega) only [evl, Nat.reduceEqDiff, Nat.reduceAdd, reduceIte, reduceCtorEq, t8] <;> exact rfl) | exact rfl)); all_goals try (refine fun (hb : _ = _) => ?_; try simp only [Zu, ne_eq, reduceCtorEq] at hb)) | (apply rk_gd_u; · simp [evl])))
      refine rn_seq_n ?_
      (repeat' (first | refine Z ?_ | refine rn_blk_x (by decide) ?_ | ((first | refine' Y ?_ ?_ | refine' X ?_ ?_ ?_); rotate_left; (· (first | (simp (disch := omega) only [evl, Nat.reduceEqDiff, Nat.reduceAdd, reduceIte, reduceCtorEq] <;> exact rfl) | exact rfl)); all_goals try (refine fun (hb : _ = _) => ?_; try simp only [Zu, ne_eq, reduceCtorEq] at hb)) | (apply rk_gd_u; · simp [evl])))
      refine rn_seq_n ?_
      exact On.out _ (by (first | (simp (disch := omega) only [evl, Nat.reduceEqDiff, Nat.reduceAdd, reduceIte, reduceCtorEq] <;> exact rfl) | exact rfl)) (by (first | (simp (disch := omega) only [evl, Nat.reduceEqDiff, Nat.reduceAdd, reduceIte, reduceCtorEq] <;> exact rfl) | exact rfl)) (by (first | (simp (disch := omega) only [evl, Nat.reduceEqDiff, Nat.reduceAdd, reduceIte, reduceCtorEq] <;> exact rfl) | exact rfl)) (by (first | (simp (disch := omega) only [evl, Nat.reduceEqDiff, Nat.reduceAdd, reduceIte, reduceCtorEq] <;> exact rfl) | exact rfl)) (by (first | (simp (disch := omega) only [evl, Nat.reduceEqDiff, Nat.reduceAdd, reduceIte, reduceCtorEq] <;> exact rfl) | exact rfl)) (by (first | (simp (disch := omega) only [evl, Nat.reduceEqDiff, Nat.reduceAdd, reduceIte, reduceCtorEq] <;> exact rfl) | exact rfl)) (by (first | (simp (disch := omega) only [evl, Nat.reduceEqDiff, Nat.reduceAdd, reduceIte, reduceCtorEq] <;> exact rfl) | exact rfl)) (by (first | (simp (disch := omega) only [evl, Nat.reduceEqDiff, Nat.reduceAdd, reduceIte, reduceCtorEq] <;> exact rfl) | exact rfl))
    | true =>
      cases w2 with
      | false =>
        (repeat' (first | refine Z ?_ | refine rn_blk_x (by decide) ?_ | ((first | refine' Y ?_ ?_ | refine' X ?_ ?_ ?_); rotate_left; (· (first | (simp (disch := omega) only [evl, Nat.reduceEqDiff, Nat.reduceAdd, reduceIte, reduceCtorEq, t8, t9] <;> exact rfl) | exact rfl)); all_goals try (refine fun (hb : _ = _) => ?_; try simp only [Zu, ne_eq, reduceCtorEq] at hb)) | (apply rk_gd_u; · simp [evl])))
        refine rn_seq_n ?_
        (repeat' (first | refine Z ?_ | refine rn_blk_x (by decide) ?_ | ((first | refine' Y ?_ ?_ | refine' X ?_ ?_ ?_); rotate_left; (· (first | (simp (disch := omega) only [evl, Nat.reduceEqDiff, Nat.reduceAdd, reduceIte, reduceCtorEq] <;> exact rfl) | exact rfl)); all_goals try (refine fun (hb : _ = _) => ?_; try simp only [Zu, ne_eq, reduceCtorEq] at hb)) | (apply rk_gd_u; · simp [evl])))
        refine rn_seq_n ?_
        exact On.out _ (by (first | (simp (disch := omega) only [evl, Nat.reduceEqDiff, Nat.reduceAdd, reduceIte, reduceCtorEq] <;> exact rfl) | exact rfl)) (by (first | (simp (disch := omega) only [evl, Nat.reduceEqDiff, Nat.reduceAdd, reduceIte, reduceCtorEq] <;> exact rfl) | exact rfl)) (by (first | (simp (disch := omega) only [evl, Nat.reduceEqDiff, Nat.reduceAdd, reduceIte, reduceCtorEq] <;> exact rfl) | exact rfl)) (by (first | (simp (disch := omega) only [evl, Nat.reduceEqDiff, Nat.reduceAdd, reduceIte, reduceCtorEq] <;> exact rfl) | exact rfl)) (by (first | (simp (disch := omega) only [evl, Nat.reduceEqDiff, Nat.reduceAdd, reduceIte, reduceCtorEq] <;> exact rfl) | exact rfl)) (by (first | (simp (disch := omega) only [evl, Nat.reduceEqDiff, Nat.reduceAdd, reduceIte, reduceCtorEq] <;> exact rfl) | exact rfl)) (by (first | (simp (disch := omega) only [evl, Nat.reduceEqDiff, Nat.reduceAdd, reduceIte, reduceCtorEq] <;> exact rfl) | exact rfl)) (by (first | (simp (disch := omega) only [evl, Nat.reduceEqDiff, Nat.reduceAdd, reduceIte, reduceCtorEq] <;> exact rfl) | exact rfl))
      | true =>
        have h1' : ¬ hint = 1 := fun h => htry ⟨rfl, rfl, h⟩
        (repeat' (first | refine Z ?_ | refine rn_blk_x (by decide) ?_ | ((first | refine' Y ?_ ?_ | refine' X ?_ ?_ ?_); rotate_left; (· (first | (simp (disch := omega) only [evl, Nat.reduceEqDiff, Nat.reduceAdd, reduceIte, reduceCtorEq, t8, t9, h12] <;> exact rfl) | exact rfl)); all_goals try (refine fun (hb : _ = _) => ?_; try simp only [Zu, ne_eq, reduceCtorEq] at hb)) | (apply rk_gd_u; · simp [evl])))
        refine rn_seq_n ?_
        (repeat' (first | refine Z ?_ | refine rn_blk_x (by decide) ?_ | ((first | refine' Y ?_ ?_ | refine' X ?_ ?_ ?_); rotate_left; (· (first | (simp (disch := omega) only [evl, Nat.reduceEqDiff, Nat.reduceAdd, reduceIte, reduceCtorEq] <;> exact rfl) | exact rfl)); all_goals try (refine fun (hb : _ = _) => ?_; try simp only [Zu, ne_eq, reduceCtorEq] at hb)) | (apply rk_gd_u; · simp [evl])))
        refine rn_seq_n ?_
        exact On.out _ (by (first | (simp (disch := omega) only [evl, Nat.reduceEqDiff, Nat.reduceAdd, reduceIte, reduceCtorEq] <;> exact rfl) | exact rfl)) (by (first | (simp (disch := omega) only [evl, Nat.reduceEqDiff, Nat.reduceAdd, reduceIte, reduceCtorEq] <;> exact rfl) | exact rfl)) (by (first | (simp (disch := omega) only [evl, Nat.reduceEqDiff, Nat.reduceAdd, reduceIte, reduceCtorEq] <;> exact rfl) | exact rfl)) (by (first | (simp (disch := omega) only [evl, Nat.reduceEqDiff, Nat.reduceAdd, reduceIte, reduceCtorEq] <;> exact rfl) | exact rfl)) (by (first | (simp (disch := omega) only [evl, Nat.reduceEqDiff, Nat.reduceAdd, reduceIte, reduceCtorEq] <;> exact rfl) | exact rfl)) (by (first | (simp (disch := omega) only [evl, Nat.reduceEqDiff, Nat.reduceAdd, reduceIte, reduceCtorEq] <;> exact rfl) | exact rfl)) (by (first | (simp (disch := omega) only [evl, Nat.reduceEqDiff, Nat.reduceAdd, reduceIte, reduceCtorEq] <;> exact rfl) | exact rfl)) (by (first | (simp (disch := omega) only [evl, Nat.reduceEqDiff, Nat.reduceAdd, reduceIte, reduceCtorEq] <;> exact rfl) | exact rfl))

set_option maxHeartbeats 8000000 in
theorem stepA (h : PS T H H1 xs ys i c a b a' b' lim op op' w1 w2) (hc : PC H xs i a b) (hrec : PRec (b - a)) (h10 : gT T 10 = .int .i64 n) (hn : n = b' - a') (hn13 : 13 ≤ n) (hk : k = b' - a') :
    RC look cA [.blk 1] T H1 (LpQ (PInv H xs i c a b op op') (PRes H xs i a b op') k) := by
  have hc1 := h.pc hc
  obtain ⟨t0, t1, t2, t3, t8, t9, g1, g2, g3, g4, hp, hrow, hkp, hpre, hfin⟩ := h
  have hyl := hkp.len
  have hcb := hc.hb
  have hcl := hc.hl
  (repeat' (first | refine Z ?_ | refine rn_blk_x (by decide) ?_ | ((first | refine' Y ?_ ?_ | refine' X ?_ ?_ ?_); rotate_left; (· (first | (simp (disch := omega) only [evl, Nat.reduceEqDiff, Nat.reduceAdd, reduceIte, reduceCtorEq, t0, t1, t2] <;> exact rfl) | exact rfl)); all_goals try (refine fun (hb : _ = _) => ?_; try simp only [Zu, ne_eq, reduceCtorEq] at hb)) | (apply rk_gd_u; · simp [evl])))
  refine rk_cl (by (simp (disch := omega) only [evl, Nat.reduceEqDiff, Nat.reduceAdd, reduceIte, reduceCtorEq, t0, t1, t2]); rw [← hyl]; exact pivot_ok H1 ys i c a' b' op op' hrow hc1.hi hc1.hlo hc1.hh (by omega) (by omega) (by omega)) ?_
  rintro r H2 ⟨hx2, p, hint, rfl, hp1, hp2⟩
  simp only [hOut_f]
  have hrow2 := hrow.hx hx2 hc1.hi
  have hpA : HP (· ≠ i) H H2 := hp.trans (hx2.hp fun _ => True) fun j hj h => ⟨h, trivial⟩
  by_cases h2 : hint = 2
  · subst h2
    (repeat' (first | refine Z ?_ | refine rn_blk_x (by decide) ?_ | ((first | refine' Y ?_ ?_ | refine' X ?_ ?_ ?_); rotate_left; (· (first | (simp (disch := omega) only [evl, Nat.reduceEqDiff, Nat.reduceAdd, reduceIte, reduceCtorEq] <;> exact rfl) | exact rfl)); all_goals try (refine fun (hb : _ = _) => ?_; try simp only [Zu, ne_eq, reduceCtorEq] at hb)) | (apply rk_gd_u; · simp [evl])))
    refine rn_seq_n ?_
    (repeat' (first | refine Z ?_ | refine rn_blk_x (by decide) ?_ | ((first | refine' Y ?_ ?_ | refine' X ?_ ?_ ?_); rotate_left; (· (first | (simp (disch := omega) only [evl, Nat.reduceEqDiff, Nat.reduceAdd, reduceIte, reduceCtorEq] <;> exact rfl) | exact rfl)); all_goals try (refine fun (hb : _ = _) => ?_; try simp only [Zu, ne_eq, reduceCtorEq] at hb)) | (apply rk_gd_u; · simp [evl])))
    refine rn_seq_n ?_
    (repeat' (first | refine Z ?_ | refine rn_blk_x (by decide) ?_ | ((first | refine' Y ?_ ?_ | refine' X ?_ ?_ ?_); rotate_left; (· (first | (simp (disch := omega) only [evl, Nat.reduceEqDiff, Nat.reduceAdd, reduceIte, reduceCtorEq, t0, t1, t2] <;> exact rfl) | exact rfl)); all_goals try (refine fun (hb : _ = _) => ?_; try simp only [Zu, ne_eq, reduceCtorEq] at hb)) | (apply rk_gd_u; · simp [evl])))
    refine rk_cl (by (simp (disch := omega) only [evl, Nat.reduceEqDiff, Nat.reduceAdd, reduceIte, reduceCtorEq, t0, t1, t2]); rw [← hyl]; exact rev_ok H2 ys i c a' b' op op' hrow2 (by have := hx2.next; have := hc1.hi; omega) (by rw [hx2.lo]; exact hc1.hlo) (hx2.hide.trans hc1.hh) (by omega) (by omega) (by omega)) ?_
    rintro r H3 ⟨hp3, zs, hr3, hkz, _⟩
    simp only [hOut_f]
    have e1 : (b' : Int) - 1 - ((p : Int) - a') = ((b' - 1 - (p - a') : Nat) : Int) := by omega
    (repeat' (first | refine Z ?_ | refine rn_blk_x (by decide) ?_ | ((first | refine' Y ?_ ?_ | refine' X ?_ ?_ ?_); rotate_left; (· (first | (simp (disch := omega) only [evl, Nat.reduceEqDiff, Nat.reduceAdd, reduceIte, reduceCtorEq, t0, t1, t2, e1] <;> exact rfl) | exact rfl)); all_goals try (refine fun (hb : _ = _) => ?_; try simp only [Zu, ne_eq, reduceCtorEq] at hb)) | (apply rk_gd_u; · simp [evl])))
    refine rn_seq_n ?_
    (repeat' (first | refine Z ?_ | refine rn_blk_x (by decide) ?_ | ((first | refine' Y ?_ ?_ | refine' X ?_ ?_ ?_); rotate_left; (· (first | (simp (disch := omega) only [evl, Nat.reduceEqDiff, Nat.reduceAdd, reduceIte, reduceCtorEq, t0, t1, t2, e1] <;> exact rfl) | exact rfl)); all_goals try (refine fun (hb : _ = _) => ?_; try simp only [Zu, ne_eq, reduceCtorEq] at hb)) | (apply rk_gd_u; · simp [evl])))
    refine rn_seq_n ?_
    (repeat' (first | refine Z ?_ | refine rn_blk_x (by decide) ?_ | ((first | refine' Y ?_ ?_ | refine' X ?_ ?_ ?_); rotate_left; (· (first | (simp (disch := omega) only [evl, Nat.reduceEqDiff, Nat.reduceAdd, reduceIte, reduceCtorEq, t0, t1, t2, e1] <;> exact rfl) | exact rfl)); all_goals try (refine fun (hb : _ = _) => ?_; try simp only [Zu, ne_eq, reduceCtorEq] at hb)) | (apply rk_gd_u; · simp [evl])))
    refine rn_seq_n ?_
    exact stepB (ys := zs) (p := b' - 1 - (p - a')) (hint := 1) ⟨(by (first | (simp (disch := omega) only [evl, Nat.reduceEqDiff, Nat.reduceAdd, reduceIte, reduceCtorEq, t0] <;> exact rfl) | exact rfl)), (by (first | (simp (disch := omega) only [evl, Nat.reduceEqDiff, Nat.reduceAdd, reduceIte, reduceCtorEq, t1] <;> exact rfl) | exact rfl)), (by (first | (simp (disch := omega) only [evl, Nat.reduceEqDiff, Nat.reduceAdd, reduceIte, reduceCtorEq, t2] <;> exact rfl) | exact rfl)), (by (first | (simp (disch := omega) only [evl, Nat.reduceEqDiff, Nat.reduceAdd, reduceIte, reduceCtorEq, t3] <;> exact rfl) | exact rfl)), (by (first | (simp (disch := omega) only [evl, Nat.reduceEqDiff, Nat.reduceAdd, reduceIte, reduceCtorEq, t8] <;> exact rfl) | exact rfl)), (by (first | (simp (disch := omega) only [evl, Nat.reduceEqDiff, Nat.reduceAdd, reduceIte, reduceCtorEq, t9] <;> exact rfl) | exact rfl)), g1, g2, g3, g4, hpA.trans hp3 (r := (· ≠ i)) fun i hi h => ⟨h, h⟩, hr3, hkp.trans hkz (Nat.le_refl _) (Nat.le_refl _) g1 g3, hpre.kp hkz (by omega), hfin.kp hkz⟩ hc hrec (by (first | (simp (disch := omega) only [evl, Nat.reduceEqDiff, Nat.reduceAdd, reduceIte, reduceCtorEq, h10] <;> exact rfl) | exact rfl)) hn (by (first | (simp (disch := omega) only [evl, Nat.reduceEqDiff, Nat.reduceAdd, reduceIte, reduceCtorEq, e1] <;> exact rfl) | exact rfl)) (by omega) (by omega) (by (first | (simp (disch := omega) only [evl, Nat.reduceEqDiff, Nat.reduceAdd, reduceIte, reduceCtorEq] <;> exact rfl) | exact rfl)) hk
  · (repeat' (first | refine Z ?_ | refine rn_blk_x (by decide) ?_ | ((first | refine' Y ?_ ?_ | refine' X ?_ ?_ ?_); rotate_left; (· (first | (simp (disch := omega) only [evl, Nat.reduceEqDiff, Nat.reduceAdd, reduceIte, reduceCtorEq] <;> exact rfl) | exact rfl)); all_goals try (refine fun (hb : _ = _) => ?_; try simp only [Zu, ne_eq, reduceCtorEq] at hb)) | (apply rk_gd_u; · simp [evl])))
    refine rn_seq_n ?_
    (repeat' (first | refine Z ?_ | refine rn_blk_x (by decide) ?_ | ((first | refine' Y ?_ ?_ | refine' X ?_ ?_ ?_); rotate_left; (· (first | (simp (disch := omega) only [evl, Nat.reduceEqDiff, Nat.reduceAdd, reduceIte, reduceCtorEq] <;> exact rfl) | exact rfl)); all_goals try (refine fun (hb : _ = _) => ?_; try simp only [Zu, ne_eq, reduceCtorEq] at hb)) | (apply rk_gd_u; · simp [evl])))
    refine rn_seq_n ?_
    (repeat' (first | refine Z ?_ | refine rn_blk_x (by decide) ?_ | ((first | refine' Y ?_ ?_ | refine' X ?_ ?_ ?_); rotate_left; (· (first | (simp (disch := omega) only [evl, Nat.reduceEqDiff, Nat.reduceAdd, reduceIte, reduceCtorEq] <;> exact rfl) | exact rfl)); all_goals try (refine fun (hb : _ = _) => ?_; try simp only [Zu, ne_eq, reduceCtorEq] at hb)) | (apply rk_gd_u; · simp [evl])))
    refine rn_seq_n ?_
    exact stepB (ys := ys) (p := p) (hint := hint) ⟨(by (first | (simp (disch := omega) only [evl, Nat.reduceEqDiff, Nat.reduceAdd, reduceIte, reduceCtorEq, t0] <;> exact rfl) | exact rfl)), (by (first | (simp (disch := omega) only [evl, Nat.reduceEqDiff, Nat.reduceAdd, reduceIte, reduceCtorEq, t1] <;> exact rfl) | exact rfl)), (by (first | (simp (disch := omega) only [evl, Nat.reduceEqDiff, Nat.reduceAdd, reduceIte, reduceCtorEq, t2] <;> exact rfl) | exact rfl)), (by (first | (simp (disch := omega) only [evl, Nat.reduceEqDiff, Nat.reduceAdd, reduceIte, reduceCtorEq, t3] <;> exact rfl) | exact rfl)), (by (first | (simp (disch := omega) only [evl, Nat.reduceEqDiff, Nat.reduceAdd, reduceIte, reduceCtorEq, t8] <;> exact rfl) | exact rfl)), (by (first | (simp (disch := omega) only [evl, Nat.reduceEqDiff, Nat.reduceAdd, reduceIte, reduceCtorEq, t9] <;> exact rfl) | exact rfl)), g1, g2, g3, g4, hpA, hrow2, hkp, hpre, hfin⟩ hc hrec (by (first | (simp (disch := omega) only [evl, Nat.reduceEqDiff, Nat.reduceAdd, reduceIte, reduceCtorEq, h10] <;> exact rfl) | exact rfl)) hn (by (first | (simp (disch := omega) only [evl, Nat.reduceEqDiff, Nat.reduceAdd, reduceIte, reduceCtorEq] <;> exact rfl) | exact rfl)) hp1 hp2 (by (first | (simp (disch := omega) only [evl, Nat.reduceEqDiff, Nat.reduceAdd, reduceIte, reduceCtorEq] <;> exact rfl) | exact rfl)) hk
end

set_option maxHeartbeats 8000000 in
theorem pdq_ok : ∀ w, PRec w := by
  intro w
  induction w using Nat.strongRecOn with
  | _ w ih =>
    intro H xs i c a b lim op op' hw hr hc hab hlim hpre
    have hrec : PRec (b - a) := ih (b - a) hw
    have hcb := hc.hb
    have hcl := hc.hl
    refine fn_intro f60_eq (noext rfl) rfl ?_
    unfold f60c
    (repeat' (first | refine Z ?_ | refine Zq ?_ | refine rn_blk_x (by decide) ?_ | ((first | refine' Y ?_ ?_ | refine' X ?_ ?_ ?_); rotate_left; (· (first | (simp (disch := omega) only [evl, Nat.reduceEqDiff, Nat.reduceAdd, reduceIte, reduceCtorEq] <;> exact rfl) | exact rfl)); all_goals try (refine fun (hb : _ = _) => ?_; try simp only [Zu, ne_eq, reduceCtorEq] at hb)) | (apply rk_gd_u; · simp [evl])))
    refine rc_loop (R := PRes H xs i a b op') ?_ ?_
    · refine lp_ind f60l0_eq (PInv H xs i c a b op op') _ ?_ (b - a) _ _ ?_
      · intro k T H1 hI
        obtain ⟨a', b', lim, w1, w2, ys, hk, h⟩ := hI
        have hc1 := h.pc hc
        have h' := h
        obtain ⟨t0, t1, t2, t3, t8, t9, g1, g2, g3, g4, hp, hrow, hkp, hpre, hfin⟩ := h'
        unfold f60l0
        have hyl := hkp.len
        obtain ⟨n, hn⟩ : ∃ n : Nat, n = b' - a' := ⟨_, rfl⟩
        have hni : (b' : Int) - a' = (n : Int) := by omega
        by_cases h12 : n ≤ 12
        · (repeat' (first | refine Z ?_ | refine Zq ?_ | refine rn_blk_x (by decide) ?_ | ((first | refine' Y ?_ ?_ | refine' X ?_ ?_ ?_); rotate_left; (· (first | (simp (disch := omega) only [evl, Nat.reduceEqDiff, Nat.reduceAdd, reduceIte, reduceCtorEq, t0, t1, t2, hni] <;> exact rfl) | exact rfl)); all_goals try (refine fun (hb : _ = _) => ?_; try simp only [Zu, ne_eq, reduceCtorEq] at hb)) | (apply rk_gd_u; · simp [evl])))
          refine rk_cl (by (simp (disch := omega) only [evl, Nat.reduceEqDiff, Nat.reduceAdd, reduceIte, reduceCtorEq, t0, t1, t2]); rw [← hyl]; exact insI_ok H1 ys i c a' b' op op' hrow hc1.hi hc1.hlo hc1.hh g2 (by omega) (by omega)) ?_
          rintro r H2 ⟨hp2, zs, hr2, hkz, hs⟩
          simp only [hOut_f]
          (repeat' (first | refine Z ?_ | refine Zq ?_ | refine rn_blk_x (by decide) ?_ | ((first | refine' Y ?_ ?_ | refine' X ?_ ?_ ?_); rotate_left; (· (first | (simp (disch := omega) only [evl, Nat.reduceEqDiff, Nat.reduceAdd, reduceIte, reduceCtorEq] <;> exact rfl) | exact rfl)); all_goals try (refine fun (hb : _ = _) => ?_; try simp only [Zu, ne_eq, reduceCtorEq] at hb)) | (apply rk_gd_u; · simp [evl])))
          refine rn_nil ?_; refine lpq_r ?_
          exact ⟨rfl, hp.trans hp2 (r := (· ≠ i)) fun i hi h => ⟨h, h⟩, zs, hr2, hkp.trans hkz (Nat.le_refl _) (Nat.le_refl _) g1 g3, hfin zs hkz hs⟩
        · by_cases hl0 : lim = 0
          · subst hl0
            (repeat' (first | refine Z ?_ | refine Zq ?_ | refine rn_blk_x (by decide) ?_ | ((first | refine' Y ?_ ?_ | refine' X ?_ ?_ ?_); rotate_left; (· (first | (simp (disch := omega) only [evl, Nat.reduceEqDiff, Nat.reduceAdd, reduceIte, reduceCtorEq, t0, t1, t2, t3, hni] <;> exact rfl) | exact rfl)); all_goals try (refine fun (hb : _ = _) => ?_; try simp only [Zu, ne_eq, reduceCtorEq] at hb)) | (apply rk_gd_u; · simp [evl])))
            refine rk_cl (by (simp (disch := omega) only [evl, Nat.reduceEqDiff, Nat.reduceAdd, reduceIte, reduceCtorEq, t0, t1, t2]); rw [← hyl]; exact heapS_ok H1 ys i c a' b' op op' hrow hc1.hi hc1.hlo hc1.hh (by omega) (by omega) (by omega)) ?_
            rintro r H2 ⟨hp2, zs, hr2, hkz, hs⟩
            simp only [hOut_f]
            (repeat' (first | refine Z ?_ | refine Zq ?_ | refine rn_blk_x (by decide) ?_ | ((first | refine' Y ?_ ?_ | refine' X ?_ ?_ ?_); rotate_left; (· (first | (simp (disch := omega) only [evl, Nat.reduceEqDiff, Nat.reduceAdd, reduceIte, reduceCtorEq] <;> exact rfl) | exact rfl)); all_goals try (refine fun (hb : _ = _) => ?_; try simp only [Zu, ne_eq, reduceCtorEq] at hb)) | (apply rk_gd_u; · simp [evl])))
            refine rn_nil ?_; refine lpq_r ?_
            exact ⟨rfl, hp.trans hp2 (r := (· ≠ i)) fun i hi h => ⟨h, h⟩, zs, hr2, hkp.trans hkz (Nat.le_refl _) (Nat.le_refl _) g1 g3, hfin zs hkz hs⟩
          · cases w1 with
            | true =>
              (repeat' (first | refine Z ?_ | refine rn_blk_x (by decide) ?_ | ((first | refine' Y ?_ ?_ | refine' X ?_ ?_ ?_); rotate_left; (· (first | (simp (disch := omega) only [evl, Nat.reduceEqDiff, Nat.reduceAdd, reduceIte, reduceCtorEq, t0, t1, t2, t3, t8, hni] <;> exact rfl) | exact rfl)); all_goals try (refine fun (hb : _ = _) => ?_; try simp only [Zu, ne_eq, reduceCtorEq] at hb)) | (apply rk_gd_u; · simp [evl])))
              refine rn_seq_n ?_
              (repeat' (first | refine Z ?_ | refine rn_blk_x (by decide) ?_ | ((first | refine' Y ?_ ?_ | refine' X ?_ ?_ ?_); rotate_left; (· (first | (simp (disch := omega) only [evl, Nat.reduceEqDiff, Nat.reduceAdd, reduceIte, reduceCtorEq, t0, t1, t2, t3, t8, hni] <;> exact rfl) | exact rfl)); all_goals try (refine fun (hb : _ = _) => ?_; try simp only [Zu, ne_eq, reduceCtorEq] at hb)) | (apply rk_gd_u; · simp [evl])))
              refine rn_seq_n ?_
              (repeat' (first | refine Z ?_ | refine rn_blk_x (by decide) ?_ | ((first | refine' Y ?_ ?_ | refine' X ?_ ?_ ?_); rotate_left; (· (first | (simp (disch := omega) only [evl, Nat.reduceEqDiff, Nat.reduceAdd, reduceIte, reduceCtorEq, t0, t1, t2, t3, t8, hni] <;> exact rfl) | exact rfl)); all_goals try (refine fun (hb : _ = _) => ?_; try simp only [Zu, ne_eq, reduceCtorEq] at hb)) | (apply rk_gd_u; · simp [evl])))
              refine rn_seq_n ?_
              (repeat' (first | refine Z ?_ | refine rn_blk_x (by decide) ?_ | ((first | refine' Y ?_ ?_ | refine' X ?_ ?_ ?_); rotate_left; (· (first | (simp (disch := omega) only [evl, Nat.reduceEqDiff, Nat.reduceAdd, reduceIte, reduceCtorEq, t0, t1, t2, t3, t8, hni] <;> exact rfl) | exact rfl)); all_goals try (refine fun (hb : _ = _) => ?_; try simp only [Zu, ne_eq, reduceCtorEq] at hb)) | (apply rk_gd_u; · simp [evl])))
              refine rn_seq_n ?_
              (repeat' (first | refine Z ?_ | refine rn_blk_x (by decide) ?_ | ((first | refine' Y ?_ ?_ | refine' X ?_ ?_ ?_); rotate_left; (· (first | (simp (disch := omega) only [evl, Nat.reduceEqDiff, Nat.reduceAdd, reduceIte, reduceCtorEq, t0, t1, t2, t3, t8, hni] <;> exact rfl) | exact rfl)); all_goals try (refine fun (hb : _ = _) => ?_; try simp only [Zu, ne_eq, reduceCtorEq] at hb)) | (apply rk_gd_u; · simp [evl])))
              refine rn_seq_n ?_
              (repeat' (first | refine Z ?_ | refine rn_blk_x (by decide) ?_ | ((first | refine' Y ?_ ?_ | refine' X ?_ ?_ ?_); rotate_left; (· (first | (simp (disch := omega) only [evl, Nat.reduceEqDiff, Nat.reduceAdd, reduceIte, reduceCtorEq, t0, t1, t2, t3, t8, hni] <;> exact rfl) | exact rfl)); all_goals try (refine fun (hb : _ = _) => ?_; try simp only [Zu, ne_eq, reduceCtorEq] at hb)) | (apply rk_gd_u; · simp [evl])))
              refine rn_seq_n ?_
              (repeat' (first | refine Z ?_ | refine rn_blk_x (by decide) ?_ | ((first | refine' Y ?_ ?_ | refine' X ?_ ?_ ?_); rotate_left; (· (first | (simp (disch := omega) only [evl, Nat.reduceEqDiff, Nat.reduceAdd, reduceIte, reduceCtorEq, t0, t1, t2, t3, t8, hni] <;> exact rfl) | exact rfl)); all_goals try (refine fun (hb : _ = _) => ?_; try simp only [Zu, ne_eq, reduceCtorEq] at hb)) | (apply rk_gd_u; · simp [evl])))
              refine rn_seq_n ?_
              exact stepA (n := n) ⟨(by (first | (simp (disch := omega) only [evl, Nat.reduceEqDiff, Nat.reduceAdd, reduceIte, reduceCtorEq, t0] <;> exact rfl) | exact rfl)), (by (first | (simp (disch := omega) only [evl, Nat.reduceEqDiff, Nat.reduceAdd, reduceIte, reduceCtorEq, t1] <;> exact rfl) | exact rfl)), (by (first | (simp (disch := omega) only [evl, Nat.reduceEqDiff, Nat.reduceAdd, reduceIte, reduceCtorEq, t2] <;> exact rfl) | exact rfl)), (by (first | (simp (disch := omega) only [evl, Nat.reduceEqDiff, Nat.reduceAdd, reduceIte, reduceCtorEq, t3] <;> exact rfl) | exact rfl)), (by (first | (simp (disch := omega) only [evl, Nat.reduceEqDiff, Nat.reduceAdd, reduceIte, reduceCtorEq, t8] <;> exact rfl) | exact rfl)), (by (first | (simp (disch := omega) only [evl, Nat.reduceEqDiff, Nat.reduceAdd, reduceIte, reduceCtorEq, t9] <;> exact rfl) | exact rfl)), g1, g2, g3, g4, hp, hrow, hkp, hpre, hfin⟩ hc hrec (by (first | (simp (disch := omega) only [evl, Nat.reduceEqDiff, Nat.reduceAdd, reduceIte, reduceCtorEq, hni] <;> exact rfl) | exact rfl)) hn (by omega) hk
            | false =>
              have el : (lim : Int) - 1 = ((lim - 1 : Nat) : Int) := by omega
              (repeat' (first | refine Z ?_ | refine rn_blk_x (by decide) ?_ | ((first | refine' Y ?_ ?_ | refine' X ?_ ?_ ?_); rotate_left; (· (first | (simp (disch := omega) only [evl, Nat.reduceEqDiff, Nat.reduceAdd, reduceIte, reduceCtorEq, t0, t1, t2, t3, t8, hni] <;> exact rfl) | exact rfl)); all_goals try (refine fun (hb : _ = _) => ?_; try simp only [Zu, ne_eq, reduceCtorEq] at hb)) | (apply rk_gd_u; · simp [evl])))
              refine rn_seq_n ?_
              (repeat' (first | refine Z ?_ | refine rn_blk_x (by decide) ?_ | ((first | refine' Y ?_ ?_ | refine' X ?_ ?_ ?_); rotate_left; (· (first | (simp (disch := omega) only [evl, Nat.reduceEqDiff, Nat.reduceAdd, reduceIte, reduceCtorEq, t0, t1, t2, t3, t8, hni] <;> exact rfl) | exact rfl)); all_goals try (refine fun (hb : _ = _) => ?_; try simp only [Zu, ne_eq, reduceCtorEq] at hb)) | (apply rk_gd_u; · simp [evl])))
              refine rn_seq_n ?_
              (repeat' (first | refine Z ?_ | refine rn_blk_x (by decide) ?_ | ((first | refine' Y ?_ ?_ | refine' X ?_ ?_ ?_); rotate_left; (· (first | (simp (disch := omega) only [evl, Nat.reduceEqDiff, Nat.reduceAdd, reduceIte, reduceCtorEq, t0, t1, t2, t3, t8, hni] <;> exact rfl) | exact rfl)); all_goals try (refine fun (hb : _ = _) => ?_; try simp only [Zu, ne_eq, reduceCtorEq] at hb)) | (apply rk_gd_u; · simp [evl])))
              refine rn_seq_n ?_
              (repeat' (first | refine Z ?_ | refine rn_blk_x (by decide) ?_ | ((first | refine' Y ?_ ?_ | refine' X ?_ ?_ ?_); rotate_left; (· (first | (simp (disch := omega) only [evl, Nat.reduceEqDiff, Nat.reduceAdd, reduceIte, reduceCtorEq, t0, t1, t2, t3, t8, hni] <;> exact rfl) | exact rfl)); all_goals try (refine fun (hb : _ = _) => ?_; try simp only [Zu, ne_eq, reduceCtorEq] at hb)) | (apply rk_gd_u; · simp [evl])))
              refine rn_seq_n ?_
              (repeat' (first | refine Z ?_ | refine rn_blk_x (by decide) ?_ | ((first | refine' Y ?_ ?_ | refine' X ?_ ?_ ?_); rotate_left; (· (first | (simp (disch := omega) only [evl, Nat.reduceEqDiff, Nat.reduceAdd, reduceIte, reduceCtorEq, t0, t1, t2, t3, t8, hni] <;> exact rfl) | exact rfl)); all_goals try (refine fun (hb : _ = _) => ?_; try simp only [Zu, ne_eq, reduceCtorEq] at hb)) | (apply rk_gd_u; · simp [evl])))
              refine rn_seq_n ?_
              (repeat' (first | refine Z ?_ | refine rn_blk_x (by decide) ?_ | ((first | refine' Y ?_ ?_ | refine' X ?_ ?_ ?_); rotate_left; (· (first | (simp (disch := omega) only [evl, Nat.reduceEqDiff, Nat.reduceAdd, reduceIte, reduceCtorEq, t0, t1, t2, t3, t8, hni] <;> exact rfl) | exact rfl)); all_goals try (refine fun (hb : _ = _) => ?_; try simp only [Zu, ne_eq, reduceCtorEq] at hb)) | (apply rk_gd_u; · simp [evl])))
              refine rn_seq_n ?_
              (repeat' (first | refine Z ?_ | refine rn_blk_x (by decide) ?_ | ((first | refine' Y ?_ ?_ | refine' X ?_ ?_ ?_); rotate_left; (· (first | (simp (disch := omega) only [evl, Nat.reduceEqDiff, Nat.reduceAdd, reduceIte, reduceCtorEq, t0, t1, t2, t3, t8, hni] <;> exact rfl) | exact rfl)); all_goals try (refine fun (hb : _ = _) => ?_; try simp only [Zu, ne_eq, reduceCtorEq] at hb)) | (apply rk_gd_u; · simp [evl])))
              refine rk_cl (by (simp (disch := omega) only [evl, Nat.reduceEqDiff, Nat.reduceAdd, reduceIte, reduceCtorEq, t0, t1, t2]); rw [← hyl]; exact break_ok H1 ys i c a' b' op op' hrow hc1.hi hc1.hlo hc1.hh (by omega) (by omega) (by omega)) ?_
              rintro r H2 ⟨hp2, zs, hr2, hkz, _⟩
              simp only [hOut_f]
              (repeat' (first | refine Z ?_ | refine rn_blk_x (by decide) ?_ | ((first | refine' Y ?_ ?_ | refine' X ?_ ?_ ?_); rotate_left; (· (first | (simp (disch := omega) only [evl, Nat.reduceEqDiff, Nat.reduceAdd, reduceIte, reduceCtorEq, t3, el] <;> exact rfl) | exact rfl)); all_goals try (refine fun (hb : _ = _) => ?_; try simp only [Zu, ne_eq, reduceCtorEq] at hb)) | (apply rk_gd_u; · simp [evl])))
              refine rn_seq_n ?_
              (repeat' (first | refine Z ?_ | refine rn_blk_x (by decide) ?_ | ((first | refine' Y ?_ ?_ | refine' X ?_ ?_ ?_); rotate_left; (· (first | (simp (disch := omega) only [evl, Nat.reduceEqDiff, Nat.reduceAdd, reduceIte, reduceCtorEq, t3, el] <;> exact rfl) | exact rfl)); all_goals try (refine fun (hb : _ = _) => ?_; try simp only [Zu, ne_eq, reduceCtorEq] at hb)) | (apply rk_gd_u; · simp [evl])))
              refine rn_seq_n ?_
              exact stepA (n := n) (ys := zs) ⟨(by (first | (simp (disch := omega) only [evl, Nat.reduceEqDiff, Nat.reduceAdd, reduceIte, reduceCtorEq, t0] <;> exact rfl) | exact rfl)), (by (first | (simp (disch := omega) only [evl, Nat.reduceEqDiff, Nat.reduceAdd, reduceIte, reduceCtorEq, t1] <;> exact rfl) | exact rfl)), (by (first | (simp (disch := omega) only [evl, Nat.reduceEqDiff, Nat.reduceAdd, reduceIte, reduceCtorEq, t2] <;> exact rfl) | exact rfl)), (by (first | (simp (disch := omega) only [evl, Nat.reduceEqDiff, Nat.reduceAdd, reduceIte, reduceCtorEq, el] <;> exact rfl) | exact rfl)), (by (first | (simp (disch := omega) only [evl, Nat.reduceEqDiff, Nat.reduceAdd, reduceIte, reduceCtorEq, t8] <;> exact rfl) | exact rfl)), (by (first | (simp (disch := omega) only [evl, Nat.reduceEqDiff, Nat.reduceAdd, reduceIte, reduceCtorEq, t9] <;> exact rfl) | exact rfl)), g1, g2, g3, by omega, hp.trans hp2 (r := (· ≠ i)) fun i hi h => ⟨h, h⟩, hr2, hkp.trans hkz (Nat.le_refl _) (Nat.le_refl _) g1 g3, hpre.kp hkz (by omega), hfin.kp hkz⟩ hc hrec (by (first | (simp (disch := omega) only [evl, Nat.reduceEqDiff, Nat.reduceAdd, reduceIte, reduceCtorEq, hni] <;> exact rfl) | exact rfl)) hn (by omega) hk
      · exact ⟨a, b, lim, true, true, xs, rfl, ⟨(by (first | (simp (disch := omega) only [evl, Nat.reduceEqDiff, Nat.reduceAdd, reduceIte, reduceCtorEq] <;> exact rfl) | exact rfl)), (by (first | (simp (disch := omega) only [evl, Nat.reduceEqDiff, Nat.reduceAdd, reduceIte, reduceCtorEq] <;> exact rfl) | exact rfl)), (by (first | (simp (disch := omega) only [evl, Nat.reduceEqDiff, Nat.reduceAdd, reduceIte, reduceCtorEq] <;> exact rfl) | exact rfl)), (by (first | (simp (disch := omega) only [evl, Nat.reduceEqDiff, Nat.reduceAdd, reduceIte, reduceCtorEq] <;> exact rfl) | exact rfl)), (by (first | (simp (disch := omega) only [evl, Nat.reduceEqDiff, Nat.reduceAdd, reduceIte, reduceCtorEq] <;> exact rfl) | exact rfl)), (by (first | (simp (disch := omega) only [evl, Nat.reduceEqDiff, Nat.reduceAdd, reduceIte, reduceCtorEq] <;> exact rfl) | exact rfl)), Nat.le_refl _, hab, Nat.le_refl _, hlim, HP.refl _ _, hr, Kp.refl _ _ _, hpre, fun zs _ h => h⟩⟩
    · rintro ex T' H' ⟨rfl, hres⟩
      (repeat' (first | refine Z ?_ | refine Zq ?_ | refine rn_blk_x (by decide) ?_ | ((first | refine' Y ?_ ?_ | refine' X ?_ ?_ ?_); rotate_left; (· (first | (simp (disch := omega) only [evl, Nat.reduceEqDiff, Nat.reduceAdd, reduceIte, reduceCtorEq] <;> exact rfl) | exact rfl)); all_goals try (refine fun (hb : _ = _) => ?_; try simp only [Zu, ne_eq, reduceCtorEq] at hb)) | (apply rk_gd_u; · simp [evl])))
      refine rn_nil ?_; exact fq_ret (resV_0 _) hres
end PQ
end Go.Proofs.Ytnkomaedmblemaa

set_option linter.unusedSimpArgs false
set_option linter.unusedVariables false
set_option maxRecDepth 100000
namespace Go.Proofs.Ytnkomaedmblemaa
open Go.Ev Exl
open Ra Rb Rc Rd Re Rf Rg Rh Ri Rj Rk Rl Rm Rn Ro Rp Rq Rr
namespace PQ

/-! ### slices.Sort -/
theorem len64_0 (H : AH) : FnE look 73 [.int .u64 0] H fun r H' => H' = H ∧ ∃ k : Nat, r = .int .i64 k ∧ k ≤ 16 := by
  refine fn_intro f73_eq (noext rfl) rfl ?_
  unfold f73c
  obtain ⟨t, t1, t2, t3, t4⟩ := tab_get (m := 0) (by omega)
  have hc : cvI .u8 (.int .u64 0) = some (.int .u8 0) := rfl
  have hci := ci (n := t) .u8 (by omega)
  have t4 : evIndex look 9 len8tab (.int .u8 0) = some (.int .u8 (t : Int)) := t4
  (repeat' (first | refine Z ?_ | refine Zq ?_ | refine rn_blk_x (by decide) ?_ | ((first | refine' Y ?_ ?_ | refine' X ?_ ?_ ?_); rotate_left; (· (first | (simp (disch := omega) only [evl, Nat.reduceEqDiff, Nat.reduceAdd, reduceIte, reduceCtorEq, hc, t4, hci] <;> exact rfl) | exact rfl)); all_goals try (refine fun (hb : _ = _) => ?_; try simp only [Zu, ne_eq, reduceCtorEq] at hb)) | (apply rk_gd_u; · simp [evl])))
  refine rn_nil ?_; refine fq_ret (resV_1 _ _) ⟨rfl, t, ?_, by omega⟩
  (simp (disch := omega) only [evl, Nat.reduceEqDiff, Nat.reduceAdd, reduceIte, reduceCtorEq, hc, t4, hci])
  rw [Int.zero_add]
theorem lenA_ok (H : AH) (n : Nat) (h2 : n < 65536) : FnE look 61 [.int .u64 (n : Int)] H fun r H' => H' = H ∧ ∃ k : Nat, r = .int .i64 k ∧ k ≤ 16 := by
  by_cases h : 1 ≤ n
  · exact (len_ok H n h h2).mono fun r H' ⟨h1, k, h3, h4, _⟩ => ⟨h1, k, h3, h4⟩
  · obtain rfl : n = 0 := by omega
    refine fn_intro f61_eq (noext rfl) rfl ?_
    unfold f61c
    (repeat' (first | refine Z ?_ | refine rn_blk_x (by decide) ?_ | ((first | refine' Y ?_ ?_ | refine' X ?_ ?_ ?_); rotate_left; (· (first | (simp (disch := omega) only [evl, Nat.reduceEqDiff, Nat.reduceAdd, reduceIte, reduceCtorEq] <;> exact rfl) | exact rfl)); all_goals try (refine fun (hb : _ = _) => ?_; try simp only [Zu, ne_eq, reduceCtorEq] at hb)) | (apply rk_gd_u; · simp [evl])))
    refine rn_seq_n ?_
    refine rc_seq ?_
    refine rc_cond_f rfl ?_
    (repeat' (first | refine Z ?_ | refine Zq ?_ | refine rn_blk_x (by decide) ?_ | ((first | refine' Y ?_ ?_ | refine' X ?_ ?_ ?_); rotate_left; (· (first | (simp (disch := omega) only [evl, Nat.reduceEqDiff, Nat.reduceAdd, reduceIte, reduceCtorEq] <;> exact rfl) | exact rfl)); all_goals try (refine fun (hb : _ = _) => ?_; try simp only [Zu, ne_eq, reduceCtorEq] at hb)) | (apply rk_gd_u; · simp [evl])))
    refine rk_cl (by (simp (disch := omega) only [evl, Nat.reduceEqDiff, Nat.reduceAdd, reduceIte, reduceCtorEq]); exact len64_0 H) ?_
    rintro r H1 ⟨rfl, k, rfl, hk⟩
    simp only [hOut_f]
    (repeat' (first | refine Z ?_ | refine Zq ?_ | refine rn_blk_x (by decide) ?_ | ((first | refine' Y ?_ ?_ | refine' X ?_ ?_ ?_); rotate_left; (· (first | (simp (disch := omega) only [evl, Nat.reduceEqDiff, Nat.reduceAdd, reduceIte, reduceCtorEq] <;> exact rfl) | exact rfl)); all_goals try (refine fun (hb : _ = _) => ?_; try simp only [Zu, ne_eq, reduceCtorEq] at hb)) | (apply rk_gd_u; · simp [evl])))
    refine rn_nil ?_; refine fq_ret (resV_1 _ _) ⟨rfl, k, ?_, hk⟩
    (simp (disch := omega) only [evl, Nat.reduceEqDiff, Nat.reduceAdd, reduceIte, reduceCtorEq])
theorem insI_nil (H : AH) : FnE look 63 [.nilSl, .int .i64 0, .int .i64 0] H fun r H' => H' = H := by
  refine fn_intro f63_eq (noext rfl) rfl ?_
  unfold f63c
  (repeat' (first | refine Z ?_ | refine Zq ?_ | refine rn_blk_x (by decide) ?_ | ((first | refine' Y ?_ ?_ | refine' X ?_ ?_ ?_); rotate_left; (· (first | (simp (disch := omega) only [evl, Nat.reduceEqDiff, Nat.reduceAdd, reduceIte, reduceCtorEq] <;> exact rfl) | exact rfl)); all_goals try (refine fun (hb : _ = _) => ?_; try simp only [Zu, ne_eq, reduceCtorEq] at hb)) | (apply rk_gd_u; · simp [evl])))
  refine rc_loop (R := fun ex T' H' => ex = .exit 0 ∧ H' = H) ?_ ?_
  · refine lp_once f63l0_eq ?_
    unfold f63l0
    (repeat' (first | refine Z ?_ | refine Zq ?_ | refine rn_blk_x (by decide) ?_ | ((first | refine' Y ?_ ?_ | refine' X ?_ ?_ ?_); rotate_left; (· (first | (simp (disch := omega) only [evl, Nat.reduceEqDiff, Nat.reduceAdd, reduceIte, reduceCtorEq] <;> exact rfl) | exact rfl)); all_goals try (refine fun (hb : _ = _) => ?_; try simp only [Zu, ne_eq, reduceCtorEq] at hb)) | (apply rk_gd_u; · simp [evl])))
    refine rn_nil ?_; refine lpq_e ?_
    exact ⟨rfl, rfl⟩
  · rintro ex T' H' ⟨rfl, rfl⟩
    (repeat' (first | refine Z ?_ | refine Zq ?_ | refine rn_blk_x (by decide) ?_ | ((first | refine' Y ?_ ?_ | refine' X ?_ ?_ ?_); rotate_left; (· (first | (simp (disch := omega) only [evl, Nat.reduceEqDiff, Nat.reduceAdd, reduceIte, reduceCtorEq] <;> exact rfl) | exact rfl)); all_goals try (refine fun (hb : _ = _) => ?_; try simp only [Zu, ne_eq, reduceCtorEq] at hb)) | (apply rk_gd_u; · simp [evl])))
    refine rn_nil ?_; exact fq_nor (resV_0 _) rfl
theorem pdq_nil (H : AH) (lim : Nat) : FnE look 60 [.nilSl, .int .i64 0, .int .i64 0, .int .i64 lim] H fun r H' => H' = H := by
  refine fn_intro f60_eq (noext rfl) rfl ?_
  unfold f60c
  (repeat' (first | refine Z ?_ | refine Zq ?_ | refine rn_blk_x (by decide) ?_ | ((first | refine' Y ?_ ?_ | refine' X ?_ ?_ ?_); rotate_left; (· (first | (simp (disch := omega) only [evl, Nat.reduceEqDiff, Nat.reduceAdd, reduceIte, reduceCtorEq] <;> exact rfl) | exact rfl)); all_goals try (refine fun (hb : _ = _) => ?_; try simp only [Zu, ne_eq, reduceCtorEq] at hb)) | (apply rk_gd_u; · simp [evl])))
  refine rc_loop (R := fun ex T' H' => ex = .ret ∧ H' = H) ?_ ?_
  · refine lp_once f60l0_eq ?_
    unfold f60l0
    (repeat' (first | refine Z ?_ | refine Zq ?_ | refine rn_blk_x (by decide) ?_ | ((first | refine' Y ?_ ?_ | refine' X ?_ ?_ ?_); rotate_left; (· (first | (simp (disch := omega) only [evl, Nat.reduceEqDiff, Nat.reduceAdd, reduceIte, reduceCtorEq] <;> exact rfl) | exact rfl)); all_goals try (refine fun (hb : _ = _) => ?_; try simp only [Zu, ne_eq, reduceCtorEq] at hb)) | (apply rk_gd_u; · simp [evl])))
    refine rk_cl (by (simp (disch := omega) only [evl, Nat.reduceEqDiff, Nat.reduceAdd, reduceIte, reduceCtorEq]); exact insI_nil H) ?_
    rintro r H1 rfl
    simp only [hOut_f]
    (repeat' (first | refine Z ?_ | refine Zq ?_ | refine rn_blk_x (by decide) ?_ | ((first | refine' Y ?_ ?_ | refine' X ?_ ?_ ?_); rotate_left; (· (first | (simp (disch := omega) only [evl, Nat.reduceEqDiff, Nat.reduceAdd, reduceIte, reduceCtorEq] <;> exact rfl) | exact rfl)); all_goals try (refine fun (hb : _ = _) => ?_; try simp only [Zu, ne_eq, reduceCtorEq] at hb)) | (apply rk_gd_u; · simp [evl])))
    refine rn_nil ?_; refine lpq_r ?_
    exact ⟨rfl, rfl⟩
  · rintro ex T' H' ⟨rfl, rfl⟩
    (repeat' (first | refine Z ?_ | refine Zq ?_ | refine rn_blk_x (by decide) ?_ | ((first | refine' Y ?_ ?_ | refine' X ?_ ?_ ?_); rotate_left; (· (first | (simp (disch := omega) only [evl, Nat.reduceEqDiff, Nat.reduceAdd, reduceIte, reduceCtorEq] <;> exact rfl) | exact rfl)); all_goals try (refine fun (hb : _ = _) => ?_; try simp only [Zu, ne_eq, reduceCtorEq] at hb)) | (apply rk_gd_u; · simp [evl])))
    refine rn_nil ?_; exact fq_ret (resV_0 _) rfl
theorem sort_ok (H : AH) (v : AV) (xs : List Int) (N : Nat) (hap : Ap H v xs.length (iC xs) 3 1 N) (hlo : H.lo ≤ N) (hh : H.hide = []) (hl : xs.length ≤ 60000) :
    FnE look 54 [v] H fun r H' => HP (fun j => j < N) H H' ∧ ∃ ys, Ap H' v xs.length (iC ys) 3 1 N ∧ ys.Perm xs ∧ srt ys 0 xs.length := by
  refine fn_intro f54_eq (noext rfl) rfl ?_
  unfold f54c
  have hlens : ∀ H', fstO (builtinF .len look [32] [v] H') = some (.int .i64 xs.length) := fun H' => len_el u32 hap.isSl
  have hc := cu (n := xs.length) .i64 (by omega)
  (repeat' (first | refine Z ?_ | refine Zq ?_ | refine rn_blk_x (by decide) ?_ | ((first | refine' Y ?_ ?_ | refine' X ?_ ?_ ?_); rotate_left; (· (first | (simp (disch := omega) only [evl, Nat.reduceEqDiff, Nat.reduceAdd, reduceIte, reduceCtorEq, hlens, hc] <;> exact rfl) | exact rfl)); all_goals try (refine fun (hb : _ = _) => ?_; try simp only [Zu, ne_eq, reduceCtorEq] at hb)) | (apply rk_gd_u; · simp [evl])))
  refine rk_cl (by (simp (disch := omega) only [evl, Nat.reduceEqDiff, Nat.reduceAdd, reduceIte, reduceCtorEq]); exact lenA_ok H xs.length (by omega)) ?_
  rintro r H1 ⟨hH1, k, rfl, hk⟩
  cases hH1
  simp only [hOut_f]
  (repeat' (first | refine Z ?_ | refine Zq ?_ | refine rn_blk_x (by decide) ?_ | ((first | refine' Y ?_ ?_ | refine' X ?_ ?_ ?_); rotate_left; (· (first | (simp (disch := omega) only [evl, Nat.reduceEqDiff, Nat.reduceAdd, reduceIte, reduceCtorEq] <;> exact rfl) | exact rfl)); all_goals try (refine fun (hb : _ = _) => ?_; try simp only [Zu, ne_eq, reduceCtorEq] at hb)) | (apply rk_gd_u; · simp [evl])))
  rcases hap.2 with ⟨rfl, h0⟩ | ⟨i, rfl, hrow, hNi, hin⟩
  · have h0' : xs = [] := List.eq_nil_of_length_eq_zero h0
    subst h0'
    refine rk_cl (by (simp (disch := omega) only [evl, Nat.reduceEqDiff, Nat.reduceAdd, reduceIte, reduceCtorEq]); exact pdq_nil H k) ?_
    rintro r H1 rfl
    simp only [hOut_f]
    (repeat' (first | refine Z ?_ | refine Zq ?_ | refine rn_blk_x (by decide) ?_ | ((first | refine' Y ?_ ?_ | refine' X ?_ ?_ ?_); rotate_left; (· (first | (simp (disch := omega) only [evl, Nat.reduceEqDiff, Nat.reduceAdd, reduceIte, reduceCtorEq] <;> exact rfl) | exact rfl)); all_goals try (refine fun (hb : _ = _) => ?_; try simp only [Zu, ne_eq, reduceCtorEq] at hb)) | (apply rk_gd_u; · simp [evl])))
    refine rn_nil ?_; exact fq_nor (resV_0 _) ⟨HP.refl _ _, [], hap, List.Perm.refl _, fun s t _ _ h => by simp at h⟩
  · refine rk_cl (by (simp (disch := omega) only [evl, Nat.reduceEqDiff, Nat.reduceAdd, reduceIte, reduceCtorEq]); exact pdq_ok (xs.length - 0 + 1) H xs i _ 0 xs.length k _ _ (by omega) hrow ⟨hin, by omega, hh, Nat.le_refl _, hl⟩ (Nat.zero_le _) (by omega) (.inl rfl)) ?_
    rintro r H1 ⟨hp, ys, hr1, hkp, hs⟩
    simp only [hOut_f]
    (repeat' (first | refine Z ?_ | refine Zq ?_ | refine rn_blk_x (by decide) ?_ | ((first | refine' Y ?_ ?_ | refine' X ?_ ?_ ?_); rotate_left; (· (first | (simp (disch := omega) only [evl, Nat.reduceEqDiff, Nat.reduceAdd, reduceIte, reduceCtorEq] <;> exact rfl) | exact rfl)); all_goals try (refine fun (hb : _ = _) => ?_; try simp only [Zu, ne_eq, reduceCtorEq] at hb)) | (apply rk_gd_u; · simp [evl])))
    have := hp.next
    refine rn_nil ?_; exact fq_nor (resV_0 _) ⟨hp.mono fun j _ hj => by omega, ys, ⟨by rw [iC_len, hkp.len]; omega, .inr ⟨i, rfl, hr1, hNi, by omega⟩⟩, hkp.perm, hs⟩

/-! ### slices.Values, collected -/
theorem values_ok (H : AH) (v : AV) (hh : H.hide = []) (hv : v.oneCell = true) : FnE look 49 [v] H fun r H' => r = .fn (.func 55) [] [.ptr H.next 0] ∧ HX H H' ∧ H'.next = H.next + 1 ∧ Row H' H.next false false 32 1 [v] := by
  refine fn_intro f49_eq (noext rfl) rfl ?_
  unfold f49c
  obtain ⟨H1, hal, hx1, hn1, hr1⟩ := al_box (e := 32) (s := 1) (c := v.toC) hh
  rw [toC_l, cells_one hv] at hr1
  (repeat' (first | refine Z ?_ | refine Zq ?_ | refine rn_blk_x (by decide) ?_ | ((first | refine' Y ?_ ?_ | refine' X ?_ ?_ ?_); rotate_left; (· (first | (simp (disch := omega) only [evl, Nat.reduceEqDiff, Nat.reduceAdd, reduceIte, reduceCtorEq] <;> exact rfl) | exact rfl)); all_goals try (refine fun (hb : _ = _) => ?_; try simp only [Zu, ne_eq, reduceCtorEq] at hb)) | (apply rk_gd_u; · simp [evl])))
  apply rk_m1
  · (simp (disch := omega) only [evl, Nat.reduceEqDiff, Nat.reduceAdd, reduceIte, reduceCtorEq])
    exact hal
  simp only [hOut_f]
  (repeat' (first | refine Z ?_ | refine Zq ?_ | refine rn_blk_x (by decide) ?_ | ((first | refine' Y ?_ ?_ | refine' X ?_ ?_ ?_); rotate_left; (· (first | (simp (disch := omega) only [evl, Nat.reduceEqDiff, Nat.reduceAdd, reduceIte, reduceCtorEq] <;> exact rfl) | exact rfl)); all_goals try (refine fun (hb : _ = _) => ?_; try simp only [Zu, ne_eq, reduceCtorEq] at hb)) | (apply rk_gd_u; · simp [evl])))
  refine rn_nil ?_; refine fq_ret (resV_1 _ _) ⟨?_, hx1, hn1, hr1⟩
  (simp (disch := omega) only [evl, Nat.reduceEqDiff, Nat.reduceAdd, reduceIte, reduceCtorEq])
theorem sp_one (k : Nat) (v : AV) (T : Tr AV) : setParams [(k, v)] T = T.set k v := rfl
abbrev isLoop (H : AH) (l : Nat) (bk : Nat) : Prop := ∃ T : Tr AV, gT T 2 = .ptr bk 0 ∧ H.get l = some (.loop .ready none T 0 [7] f59b0 f59b1)
theorem round_ok (H : AH) (s : AV) (acc : List Int) (x : Int) (l bk N : Nat) (hl : isLoop H l bk) (hr : Row H bk false false 32 1 [s]) (hap : Ap H s acc.length (iC acc) 3 1 N) (hbN : bk < N) (hlN : l < N) (hlb : l ≠ bk) (hN : N ≤ H.next) (hlo : H.lo ≤ bk) (hlo2 : H.lo ≤ l) (hh : H.hide = []) (hal : acc.length ≤ 100000) :
    RdE look l [.int .i64 x] H fun r H' => r = .bool true ∧ isLoop H' l bk ∧ (∃ s', Row H' bk false false 32 1 [s'] ∧ Ap H' s' (acc ++ [x]).length (iC (acc ++ [x])) 3 1 N) ∧ HP (fun j => j < N ∧ j ≠ bk ∧ j ≠ l) H H' := by
  obtain ⟨T0, hT2, hg⟩ := hl
  refine rd_n hlo2 hg rfl f59l0_eq f59l1_eq ?_
  unfold f59l0
  have hsp0 : setParams (List.zip [7] [.int .i64 x]) T0 = T0.set 7 (.int .i64 x) := by
    rw [show List.zip [7] [AV.int .i64 x] = [((7 : Nat), AV.int .i64 x)] from by simp]
    exact sp_one _ _ _
  have hsp : ∀ k, gT (setParams (List.zip [7] [.int .i64 x]) T0) k = gT (T0.set 7 (.int .i64 x)) k := fun _ => by rw [hsp0]
  have h7 : gT (setParams (List.zip [7] [.int .i64 x]) T0) 7 = .int .i64 x := by rw [hsp, gT_set, if_pos rfl]
  have h2 : gT (setParams (List.zip [7] [.int .i64 x]) T0) 2 = .ptr bk 0 := by rw [hsp, gT_set, if_neg (by decide)]; exact hT2
  generalize setParams (List.zip [7] [.int .i64 x]) T0 = T1 at *
  (repeat' (first | refine Z ?_ | refine Zq ?_ | refine rn_blk_x (by decide) ?_ | ((first | refine' Y ?_ ?_ | refine' X ?_ ?_ ?_); rotate_left; (· (first | (simp (disch := omega) only [evl, Nat.reduceEqDiff, Nat.reduceAdd, reduceIte, reduceCtorEq, h7] <;> exact rfl) | exact rfl)); all_goals try (refine fun (hb : _ = _) => ?_; try simp only [Zu, ne_eq, reduceCtorEq] at hb)) | (apply rk_gd_u; · simp [evl])))
  refine rn_nil ⟨rfl, T0, 0, [7], f59b0, f59b1, hg, ?_⟩
  unfold f59l1
  have hpB : HP (· ≠ l) H (H.put l (.loop .busy none T0 0 [7] f59b0 f59b1)) := HP.put _ _ _
  have hhB : (H.put l (.loop .busy none T0 0 [7] f59b0 f59b1)).hide = [] := hh
  have hgB : (H.put l (.loop .busy none T0 0 [7] f59b0 f59b1)).get l = some (.loop .busy none T0 0 [7] f59b0 f59b1) := AH.get_put hh _ _
  have hnB : (H.put l (.loop .busy none T0 0 [7] f59b0 f59b1)).next = H.next := rfl
  have hloB : (H.put l (.loop .busy none T0 0 [7] f59b0 f59b1)).lo = H.lo := rfl
  generalize H.put l (.loop .busy none T0 0 [7] f59b0 f59b1) = HB at *
  have hrB := hr.hp hpB (by omega) (fun h => hlb h.symm)
  have hapB := hap.hp hpB fun i hi => by
    obtain ⟨_, ⟨rfl, _⟩ | ⟨i', rfl, _, hN', _⟩⟩ := hap
    · cases hi
    · cases hi; omega
  have hbk : ld1 (.ptr bk 0) HB = some s := hrB.rd rfl
  obtain ⟨H5, hb5, hx5, hn5, hr5⟩ := bs_one (s := 1) (e := 3) (z := .int .i64 0) (v := .int .i64 x) (H := HB) hhB rfl rfl
  obtain ⟨new, hsrc, hnl⟩ := srcRow (z := 1) (n := 1) (c := 1) (op := false) hr5 rfl
  have hap5 := hapB.hx hx5
  obtain ⟨s', H6, happ, hap6, hp6, hn6, hne6⟩ := hap5.app (b := 8) (x := .sl HB.next 0 1 1 false) (m := 1) rfl hsrc (one_of_l (by rw [hnl]; rfl)) (by rw [hnl]; rfl) (Nat.le_refl _) (by omega) (by omega) (hx5.hide.trans hhB) (by rw [hx5.lo, hloB]; omega) (by have := hx5.next; omega)
  have hsb : ∀ j, j < N → blkNe s j := fun j hj => by
    obtain ⟨_, ⟨rfl, _⟩ | ⟨i', rfl, _, hN', _⟩⟩ := hap
    · exact blkNe_nil _
    · exact blkNe_sl (by omega)
  have hr6 : Row H6 bk false false 32 1 [s] := (hrB.hx hx5 (by omega)).hp hp6 (by omega) (hsb _ hbN)
  have hso : s'.oneCell = true := by
    obtain ⟨_, ⟨rfl, _⟩ | ⟨i', rfl, _, _⟩⟩ := hap6 <;> rfl
  obtain ⟨H7, hs7, hr7, hp7, hn7⟩ := hr6.st1 (L := look) (t := 32) (v := s') (k := 0) (hp6.hide.trans (hx5.hide.trans hhB)) (by rw [hp6.lo, hx5.lo, hloB]; exact hlo) z32 hso (by simp)
  have hpT : HP (fun j => j < N ∧ j ≠ bk) HB H7 := ((hx5.hp fun _ => True).trans hp6 (r := fun j => j < N) fun j hj hjN => ⟨trivial, hsb _ hjN⟩).trans hp7 fun j hj h => ⟨h.1, h.2⟩
  (repeat' (first | refine Z ?_ | refine Zq ?_ | refine rn_blk_x (by decide) ?_ | ((first | refine' Y ?_ ?_ | refine' X ?_ ?_ ?_); rotate_left; (· (first | (simp (disch := omega) only [evl, Nat.reduceEqDiff, Nat.reduceAdd, reduceIte, reduceCtorEq, h2, hbk] <;> exact rfl) | exact rfl)); all_goals try (refine fun (hb : _ = _) => ?_; try simp only [Zu, ne_eq, reduceCtorEq] at hb)) | (apply rk_gd_u; · simp [evl])))
  apply rk_hn
  · (simp (disch := omega) only [evl, Nat.reduceEqDiff, Nat.reduceAdd, reduceIte, reduceCtorEq])
    exact hb5
  simp only [hOut_f]
  (repeat' (first | refine Z ?_ | refine Zq ?_ | refine rn_blk_x (by decide) ?_ | ((first | refine' Y ?_ ?_ | refine' X ?_ ?_ ?_); rotate_left; (· (first | (simp (disch := omega) only [evl, Nat.reduceEqDiff, Nat.reduceAdd, reduceIte, reduceCtorEq] <;> exact rfl) | exact rfl)); all_goals try (refine fun (hb : _ = _) => ?_; try simp only [Zu, ne_eq, reduceCtorEq] at hb)) | (apply rk_gd_u; · simp [evl])))
  apply rk_hn
  · (simp (disch := omega) only [evl, Nat.reduceEqDiff, Nat.reduceAdd, reduceIte, reduceCtorEq])
    exact happ
  simp only [hOut_f]
  (repeat' (first | refine Z ?_ | refine Zq ?_ | refine rn_blk_x (by decide) ?_ | ((first | refine' Y ?_ ?_ | refine' X ?_ ?_ ?_); rotate_left; (· (first | (simp (disch := omega) only [evl, Nat.reduceEqDiff, Nat.reduceAdd, reduceIte, reduceCtorEq, h2] <;> exact rfl) | exact rfl)); all_goals try (refine fun (hb : _ = _) => ?_; try simp only [Zu, ne_eq, reduceCtorEq] at hb)) | (apply rk_gd_u; · simp [evl])))
  apply rk_st
  · (simp (disch := omega) only [evl, Nat.reduceEqDiff, Nat.reduceAdd, reduceIte, reduceCtorEq, h2])
    exact hs7
  simp only [hOut_f]
  (repeat' (first | refine Z ?_ | refine Zq ?_ | refine rn_blk_x (by decide) ?_ | ((first | refine' Y ?_ ?_ | refine' X ?_ ?_ ?_); rotate_left; (· (first | (simp (disch := omega) only [evl, Nat.reduceEqDiff, Nat.reduceAdd, reduceIte, reduceCtorEq] <;> exact rfl) | exact rfl)); all_goals try (refine fun (hb : _ = _) => ?_; try simp only [Zu, ne_eq, reduceCtorEq] at hb)) | (apply rk_gd_u; · simp [evl])))
  have hg7 : H7.get l = some (.loop .busy none T0 0 [7] f59b0 f59b1) := (hpT.get (by omega) ⟨hlN, hlb⟩).trans hgB
  have hhT : H7.hide = [] := hpT.hide.trans hhB
  have hpF : HP (· ≠ l) H7 (H7.put l (.loop .ready none T0 0 [7] f59b0 f59b1)) := HP.put _ _ _
  have hnx7 := hpT.next
  refine rn_nil ⟨rfl, none, T0, 0, [7], f59b0, f59b1, hg7, (by first | rfl | trivial), ⟨T0, hT2, AH.get_put hhT _ _⟩, ⟨s', hr7.hp hpF (by omega) (fun h => hlb h.symm), ?_⟩, ?_⟩
  · rw [hnl, show AV.cells (.int .i64 x) = iC [x] from rfl, show iC acc ++ iC [x] = iC (acc ++ [x]) from by simp [iC]] at hap6
    have := (hap6.hp hp7 (fun i hi => by subst hi; exact fun h => hne6 bk (by omega) _ _ _ _ (by rw [h]))).hp hpF fun i hi => by
      intro h; subst h
      exact hne6 i (by omega) _ _ _ _ hi
    simpa using this
  · exact (hpB.trans hpT (r := fun j => j < N ∧ j ≠ bk ∧ j ≠ l) fun j hj h => ⟨h.2.2, h.1, h.2.1⟩).trans hpF fun j hj h => ⟨h, h.2.2⟩
end PQ
end Go.Proofs.Ytnkomaedmblemaa

set_option linter.unusedSimpArgs false
set_option linter.unusedVariables false
set_option maxRecDepth 100000
namespace Go.Proofs.Ytnkomaedmblemaa
open Go.Ev Exl
open Ra Rb Rc Rd Re Rf Rg Rh Ri Rj Rk Rl Rm Rn Ro Rp Rq Rr
namespace PQ

/-- What is so while values are gone through. -/
structure Acc (H0 H : AH) (l bk cell N : Nat) (v : AV) (acc : List Int) : Prop where
  lp : isLoop H l bk
  row : ∃ s, Row H bk false false 32 1 [s] ∧ Ap H s acc.length (iC acc) 3 1 N
  hp : HP (fun j => j < N ∧ j ≠ bk ∧ j ≠ l) H0 H

set_option maxHeartbeats 4000000 in
theorem each_ok (H : AH) (v : AV) (xs : List Int) (l bk cell N : Nat) (hs : SlI H v xs) (hl : isLoop H l bk) (hb : Row H bk false false 32 1 [.nilSl]) (hc : Row H cell false false 32 1 [v]) (hcb : cell ≠ bk ∧ cell ≠ l) (hvb : ∀ i o n c op, v = .sl i o n c op → i < N ∧ i ≠ bk ∧ i ≠ l) (hcN : cell < N) (hbN : bk < N) (hlN : l < N) (hlb : l ≠ bk) (hN : N ≤ H.next) (hlo : H.lo ≤ bk) (hlo2 : H.lo ≤ l) (hh : H.hide = []) (hxl : xs.length ≤ 100000) :
    FnE look 55 [.yld l, .ptr cell 0] H fun r H' => Acc H H' l bk cell N v xs := by
  refine fn_intro f55_eq (noext rfl) rfl ?_
  unfold f55c
  have hlens := fun H' => len_el (H' := H') u32 hs.is
  have hrc := hc.rd (k := 0) rfl
  (repeat' (first | refine Z ?_ | refine Zq ?_ | refine rn_blk_x (by decide) ?_ | ((first | refine' Y ?_ ?_ | refine' X ?_ ?_ ?_); rotate_left; (· (first | (simp (disch := omega) only [evl, Nat.reduceEqDiff, Nat.reduceAdd, reduceIte, reduceCtorEq, hrc, hlens] <;> exact rfl) | exact rfl)); all_goals try (refine fun (hb : _ = _) => ?_; try simp only [Zu, ne_eq, reduceCtorEq] at hb)) | (apply rk_gd_u; · simp [evl])))
  refine rc_loop (R := fun ex T' H' => ex = .exit 0 ∧ Acc H H' l bk cell N v xs) ?_ ?_
  · refine lp_ind f55l0_eq (fun k T H' => ∃ u : Nat, k = xs.length - u ∧ u ≤ xs.length ∧ gT T 0 = .yld l ∧ gT T 5 = v ∧ gT T 6 = .int .i64 xs.length ∧ gT T 7 = .int .i64 u ∧ Acc H H' l bk cell N v (xs.take u)) _ ?_ xs.length _ _ ?_
    · intro k T H1 hI
      obtain ⟨u, hk, hu, h0, h5, h6, h7, hlp, ⟨s, hr, hap⟩, hp⟩ := hI
      unfold f55l0
      by_cases hlt : u < xs.length
      · have his : IsSl H1 v xs.length := by
          rcases hs.is with h | ⟨i, o, c, op, hv, hi, cc, e, z, op', ro, hg, ho⟩
          · exact .inl h
          · exact .inr ⟨i, o, c, op, hv, by have := hp.next; omega, cc, e, z, op', ro, by rw [hp.get hi (hvb _ _ _ _ _ hv)]; exact hg, ho⟩
        have hix := ix_el his (k := .i64) (e := (u : Int)) (z := 1) (by omega) (by omega)
        rw [Int.toNat_natCast] at hix
        have hel : ld1 (elA 1 v u) H1 = some (.int .i64 (g xs u)) := by
          have h := hs.el u hlt
          rcases hs.is with ⟨rfl, h0⟩ | ⟨i, o, c, op, rfl, hi, _⟩
          · omega
          · have h : ld1 (.ptr i (o + u * 1)) H = some (.int .i64 (g xs u)) := h
            show ld1 (.ptr i (o + u * 1)) H1 = _
            rw [ld1_get] at h ⊢
            unfold AH.read1 AH.row at h ⊢
            rw [hp.get hi (hvb _ _ _ _ _ rfl)]; exact h
        have hnx := hp.next
        have htl : (xs.take u).length = u := by simp; omega
        have htk := takeI xs hlt
        (repeat' (first | refine Z ?_ | refine Zq ?_ | refine rn_blk_x (by decide) ?_ | ((first | refine' Y ?_ ?_ | refine' X ?_ ?_ ?_); rotate_left; (· (first | (simp (disch := omega) only [evl, Nat.reduceEqDiff, Nat.reduceAdd, reduceIte, reduceCtorEq, h0, h5, h6, h7, hix, hel] <;> exact rfl) | exact rfl)); all_goals try (refine fun (hb : _ = _) => ?_; try simp only [Zu, ne_eq, reduceCtorEq] at hb)) | (apply rk_gd_u; · simp [evl])))
        refine rk_cr (l := l) (args := [.int .i64 (g xs u)]) (by (simp (disch := omega) only [evl, Nat.reduceEqDiff, Nat.reduceAdd, reduceIte, reduceCtorEq, h0]); rfl) (round_ok H1 s (xs.take u) (g xs u) l bk N hlp hr hap hbN hlN hlb (by omega) (by rw [hp.lo]; exact hlo) (by rw [hp.lo]; exact hlo2) (hp.hide.trans hh) (by omega)) ?_
        rintro r H2 ⟨rfl, hlp2, hr2, hp2⟩
        simp only [hOut_f]
        rw [← htk] at hr2
        (repeat' (first | refine Z ?_ | refine Zq ?_ | refine rn_blk_x (by decide) ?_ | ((first | refine' Y ?_ ?_ | refine' X ?_ ?_ ?_); rotate_left; (· (first | (simp (disch := omega) only [evl, Nat.reduceEqDiff, Nat.reduceAdd, reduceIte, reduceCtorEq, h7] <;> exact rfl) | exact rfl)); all_goals try (refine fun (hb : _ = _) => ?_; try simp only [Zu, ne_eq, reduceCtorEq] at hb)) | (apply rk_gd_u; · simp [evl])))
        refine rn_nil ?_; refine lpq_n (xs.length - (u + 1)) (by omega) ?_
        exact ⟨u + 1, rfl, by omega, (by (first | (simp (disch := omega) only [evl, Nat.reduceEqDiff, Nat.reduceAdd, reduceIte, reduceCtorEq, h0] <;> exact rfl) | exact rfl)), (by (first | (simp (disch := omega) only [evl, Nat.reduceEqDiff, Nat.reduceAdd, reduceIte, reduceCtorEq, h5] <;> exact rfl) | exact rfl)), (by (first | (simp (disch := omega) only [evl, Nat.reduceEqDiff, Nat.reduceAdd, reduceIte, reduceCtorEq, h6] <;> exact rfl) | exact rfl)), (by (first | (simp (disch := omega) only [evl, Nat.reduceEqDiff, Nat.reduceAdd, reduceIte, reduceCtorEq] <;> exact rfl) | exact rfl)), hlp2, hr2, hp.trans hp2 fun j hj h => ⟨h, h⟩⟩
      · (repeat' (first | refine Z ?_ | refine Zq ?_ | refine rn_blk_x (by decide) ?_ | ((first | refine' Y ?_ ?_ | refine' X ?_ ?_ ?_); rotate_left; (· (first | (simp (disch := omega) only [evl, Nat.reduceEqDiff, Nat.reduceAdd, reduceIte, reduceCtorEq, h6, h7] <;> exact rfl) | exact rfl)); all_goals try (refine fun (hb : _ = _) => ?_; try simp only [Zu, ne_eq, reduceCtorEq] at hb)) | (apply rk_gd_u; · simp [evl])))
        refine rn_nil ?_; refine lpq_e ?_
        obtain rfl : u = xs.length := by omega
        rw [List.take_length] at hap
        exact ⟨rfl, hlp, ⟨s, hr, hap⟩, hp⟩
    · exact ⟨0, by omega, Nat.zero_le _, (by (first | (simp (disch := omega) only [evl, Nat.reduceEqDiff, Nat.reduceAdd, reduceIte, reduceCtorEq] <;> exact rfl) | exact rfl)), (by (first | (simp (disch := omega) only [evl, Nat.reduceEqDiff, Nat.reduceAdd, reduceIte, reduceCtorEq, hrc] <;> exact rfl) | exact rfl)), (by (first | (simp (disch := omega) only [evl, Nat.reduceEqDiff, Nat.reduceAdd, reduceIte, reduceCtorEq, hrc, hlens] <;> exact rfl) | exact rfl)), (by (first | (simp (disch := omega) only [evl, Nat.reduceEqDiff, Nat.reduceAdd, reduceIte, reduceCtorEq] <;> exact rfl) | exact rfl)), hl, ⟨.nilSl, hb, Ap.nil _ _ _ _⟩, HP.refl _ _⟩
  · rintro ex T' H' ⟨rfl, hres⟩
    (repeat' (first | refine Z ?_ | refine Zq ?_ | refine rn_blk_x (by decide) ?_ | ((first | refine' Y ?_ ?_ | refine' X ?_ ?_ ?_); rotate_left; (· (first | (simp (disch := omega) only [evl, Nat.reduceEqDiff, Nat.reduceAdd, reduceIte, reduceCtorEq] <;> exact rfl) | exact rfl)); all_goals try (refine fun (hb : _ = _) => ?_; try simp only [Zu, ne_eq, reduceCtorEq] at hb)) | (apply rk_gd_u; · simp [evl])))
    refine rn_nil ?_; exact fq_nor (resV_0 _) hres

set_option maxHeartbeats 4000000 in
theorem appSeq_ok (H : AH) (v : AV) (xs : List Int) (cell : Nat) (hs : SlI H v xs) (hc : Row H cell false false 32 1 [v]) (hcl : cell < H.next) (hlo : H.lo ≤ H.next) (hh : H.hide = []) (hxl : xs.length ≤ 100000) :
    FnE look 59 [.nilSl, .fn (.func 55) [] [.ptr cell 0]] H fun r H' => HX H H' ∧ Ap H' r xs.length (iC xs) 3 1 H.next := by
  refine fn_intro f59_eq (noext rfl) rfl ?_
  unfold f59c
  obtain ⟨H1, hal, hx1, hn1, hr1⟩ := al_box (e := 32) (s := 1) (c := AV.toC .nilSl) hh
  rw [toC_l] at hr1
  have hh1 : H1.hide = [] := hx1.hide.trans hh
  have hlt : ∀ i o n c op, v = .sl i o n c op → i < H.next := fun i o n c op hv => by
    rcases hs.is with ⟨rfl, _⟩ | ⟨i', o', c', op', h, hi, _⟩
    · cases hv
    · rw [h] at hv; cases hv; exact hi
  -- the loop, and what comes behind it
  have rest : ∀ T : Tr AV, gT T 2 = .ptr H.next 0 → gT T 6 = .fn (.func 55) [] [.ptr cell 0] → RC look (.rng (tO 6) [7] f59b0 f59b1) [.blk 0, .seq (.seq (.reg f59r4) .ret)] T H1 (FnQ look [.tmp 4] fun r H' => HX H H' ∧ Ap H' r xs.length (iC xs) 3 1 H.next) := by
    intro T t2 t6
    have hx2 : HX H1 (H1.new (.loop .ready none T 0 [7] f59b0 f59b1)) := HX.new _ _
    refine rc_rng (g := .fn (.func 55) [] [.ptr cell 0]) (fid := 55) (args := [.yld H1.next, .ptr cell 0]) (by (simp (disch := omega) only [evl, Nat.reduceEqDiff, Nat.reduceAdd, reduceIte, reduceCtorEq, t6])) rfl (by kernel_rfl) (each_ok _ v xs H1.next H.next cell (H1.next + 1) ((hs.hx hx1).hx hx2) ⟨T, t2, AH.get_new hh1 _⟩ (hr1.hx hx2 (by omega)) ((hc.hx hx1 hcl).hx hx2 (by omega)) (by omega) (fun i o n c op hv => by have := hlt i o n c op hv; omega) (by omega) (by omega) (by omega) (by omega) (Nat.le_refl _) ?_ ?_ hh1 hxl) ?_
    · show H1.lo ≤ H.next
      rw [hx1.lo]; exact hlo
    · show H1.lo ≤ H1.next
      rw [hx1.lo]; omega
    rintro r H3 ⟨⟨T2, hT2, hg⟩, ⟨s, hr, hap⟩, hp⟩
    have hnx : H1.next + 1 ≤ H3.next := hp.next
    have hlo3 : H3.lo = H.lo := hp.lo.trans hx1.lo
    have hhd3 : H3.hide = [] := hp.hide.trans hh1
    refine ⟨by rw [hlo3]; omega, ⟨T2, 0, [7], f59b0, f59b1, hg⟩, ?_⟩
    have hpD : HP (· ≠ H1.next) H3 (H3.put H1.next .defd) := HP.put _ _ _
    have hrd := (hr.hp hpD (by omega) (by omega)).rd (k := 0) rfl
    have hxF : HX H (H3.put H1.next .defd) := ((((hx1.trans hx2).hp fun _ => True).trans hp (r := fun _ => True) fun j hj _ => ⟨trivial, by omega, by omega, by omega⟩).trans hpD (r := fun _ => True) fun j hj _ => ⟨trivial, by omega⟩).hx fun _ _ => trivial
    have hapF : Ap (H3.put H1.next .defd) s xs.length (iC xs) 3 1 H.next := Ap.le (hap.hp hpD fun i hi => by
      obtain ⟨_, ⟨rfl, _⟩ | ⟨i', rfl, _, hN', _⟩⟩ := hap
      · cases hi
      · cases hi; omega) (show H.next ≤ H1.next + 1 by omega)
    generalize H3.put H1.next .defd = H4 at *
    (repeat' (first | refine Z ?_ | refine Zq ?_ | refine rn_blk_x (by decide) ?_ | ((first | refine' Y ?_ ?_ | refine' X ?_ ?_ ?_); rotate_left; (· (first | (simp (disch := omega) only [evl, Nat.reduceEqDiff, Nat.reduceAdd, reduceIte, reduceCtorEq, t2, hrd] <;> exact rfl) | exact rfl)); all_goals try (refine fun (hb : _ = _) => ?_; try simp only [Zu, ne_eq, reduceCtorEq] at hb)) | (apply rk_gd_u; · simp [evl])))
    refine rn_nil ?_; refine fq_ret (resV_1 _ _) ⟨hxF, ?_⟩
    (simp (disch := omega) only [evl, Nat.reduceEqDiff, Nat.reduceAdd, reduceIte, reduceCtorEq, t2, hrd])
    exact hapF
  (repeat' (first | refine Z ?_ | refine rn_blk_x (by decide) ?_ | ((first | refine' Y ?_ ?_ | refine' X ?_ ?_ ?_); rotate_left; (· (first | (simp (disch := omega) only [evl, Nat.reduceEqDiff, Nat.reduceAdd, reduceIte, reduceCtorEq] <;> exact rfl) | exact rfl)); all_goals try (refine fun (hb : _ = _) => ?_; try simp only [Zu, ne_eq, reduceCtorEq] at hb)) | (apply rk_gd_u; · simp [evl])))
  apply rk_m1
  · (simp (disch := omega) only [evl, Nat.reduceEqDiff, Nat.reduceAdd, reduceIte, reduceCtorEq])
    exact hal
  simp only [hOut_f]
  (repeat' (first | refine Z ?_ | refine rn_blk_x (by decide) ?_ | ((first | refine' Y ?_ ?_ | refine' X ?_ ?_ ?_); rotate_left; (· (first | (simp (disch := omega) only [evl, Nat.reduceEqDiff, Nat.reduceAdd, reduceIte, reduceCtorEq] <;> exact rfl) | exact rfl)); all_goals try (refine fun (hb : _ = _) => ?_; try simp only [Zu, ne_eq, reduceCtorEq] at hb)) | (apply rk_gd_u; · simp [evl])))
  refine rn_seq_n ?_
  (repeat' (first | refine Z ?_ | refine rn_blk_x (by decide) ?_ | ((first | refine' Y ?_ ?_ | refine' X ?_ ?_ ?_); rotate_left; (· (first | (simp (disch := omega) only [evl, Nat.reduceEqDiff, Nat.reduceAdd, reduceIte, reduceCtorEq] <;> exact rfl) | exact rfl)); all_goals try (refine fun (hb : _ = _) => ?_; try simp only [Zu, ne_eq, reduceCtorEq] at hb)) | (apply rk_gd_u; · simp [evl])))
  refine rn_seq_n ?_
  refine rc_blk ?_
  exact rest _ (by (first | (simp (disch := omega) only [evl, Nat.reduceEqDiff, Nat.reduceAdd, reduceIte, reduceCtorEq] <;> exact rfl) | exact rfl)) (by (first | (simp (disch := omega) only [evl, Nat.reduceEqDiff, Nat.reduceAdd, reduceIte, reduceCtorEq] <;> exact rfl) | exact rfl))
theorem collect_ok (H : AH) (v : AV) (xs : List Int) (cell : Nat) (hs : SlI H v xs) (hc : Row H cell false false 32 1 [v]) (hcl : cell < H.next) (hlo : H.lo ≤ H.next) (hh : H.hide = []) (hxl : xs.length ≤ 100000) :
    FnE look 53 [.fn (.func 55) [] [.ptr cell 0]] H fun r H' => HX H H' ∧ Ap H' r xs.length (iC xs) 3 1 H.next := by
  refine fn_intro f53_eq (noext rfl) rfl ?_
  unfold f53c
  (repeat' (first | refine Z ?_ | refine Zq ?_ | refine rn_blk_x (by decide) ?_ | ((first | refine' Y ?_ ?_ | refine' X ?_ ?_ ?_); rotate_left; (· (first | (simp (disch := omega) only [evl, Nat.reduceEqDiff, Nat.reduceAdd, reduceIte, reduceCtorEq] <;> exact rfl) | exact rfl)); all_goals try (refine fun (hb : _ = _) => ?_; try simp only [Zu, ne_eq, reduceCtorEq] at hb)) | (apply rk_gd_u; · simp [evl])))
  refine rk_cl (by (simp (disch := omega) only [evl, Nat.reduceEqDiff, Nat.reduceAdd, reduceIte, reduceCtorEq]); exact appSeq_ok H v xs cell hs hc hcl hlo hh hxl) ?_
  rintro r H1 ⟨hx, hap⟩
  simp only [hOut_f]
  (repeat' (first | refine Z ?_ | refine Zq ?_ | refine rn_blk_x (by decide) ?_ | ((first | refine' Y ?_ ?_ | refine' X ?_ ?_ ?_); rotate_left; (· (first | (simp (disch := omega) only [evl, Nat.reduceEqDiff, Nat.reduceAdd, reduceIte, reduceCtorEq] <;> exact rfl) | exact rfl)); all_goals try (refine fun (hb : _ = _) => ?_; try simp only [Zu, ne_eq, reduceCtorEq] at hb)) | (apply rk_gd_u; · simp [evl])))
  refine rn_nil ?_; refine fq_ret (resV_1 _ _) ⟨hx, ?_⟩
  (simp (disch := omega) only [evl, Nat.reduceEqDiff, Nat.reduceAdd, reduceIte, reduceCtorEq])
  exact hap
theorem sorted_ok (H : AH) (v : AV) (xs : List Int) (cell : Nat) (hs : SlI H v xs) (hc : Row H cell false false 32 1 [v]) (hcl : cell < H.next) (hlo : H.lo ≤ H.next) (hh : H.hide = []) (hxl : xs.length ≤ 60000) :
    FnE look 48 [.fn (.func 55) [] [.ptr cell 0]] H fun r H' => HX H H' ∧ ∃ ys, Ap H' r ys.length (iC ys) 3 1 H.next ∧ ys.Perm xs ∧ srt ys 0 ys.length := by
  refine fn_intro f48_eq (noext rfl) rfl ?_
  unfold f48c
  (repeat' (first | refine Z ?_ | refine Zq ?_ | refine rn_blk_x (by decide) ?_ | ((first | refine' Y ?_ ?_ | refine' X ?_ ?_ ?_); rotate_left; (· (first | (simp (disch := omega) only [evl, Nat.reduceEqDiff, Nat.reduceAdd, reduceIte, reduceCtorEq] <;> exact rfl) | exact rfl)); all_goals try (refine fun (hb : _ = _) => ?_; try simp only [Zu, ne_eq, reduceCtorEq] at hb)) | (apply rk_gd_u; · simp [evl])))
  refine rk_cl (by (simp (disch := omega) only [evl, Nat.reduceEqDiff, Nat.reduceAdd, reduceIte, reduceCtorEq]); exact collect_ok H v xs cell hs hc hcl hlo hh (by omega)) ?_
  rintro r H1 ⟨hx, hap⟩
  simp only [hOut_f]
  (repeat' (first | refine Z ?_ | refine Zq ?_ | refine rn_blk_x (by decide) ?_ | ((first | refine' Y ?_ ?_ | refine' X ?_ ?_ ?_); rotate_left; (· (first | (simp (disch := omega) only [evl, Nat.reduceEqDiff, Nat.reduceAdd, reduceIte, reduceCtorEq] <;> exact rfl) | exact rfl)); all_goals try (refine fun (hb : _ = _) => ?_; try simp only [Zu, ne_eq, reduceCtorEq] at hb)) | (apply rk_gd_u; · simp [evl])))
  refine rk_cl (by (simp (disch := omega) only [evl, Nat.reduceEqDiff, Nat.reduceAdd, reduceIte, reduceCtorEq]); exact sort_ok H1 r xs H.next hap (by rw [hx.lo]; exact hlo) (hx.hide.trans hh) hxl) ?_
  rintro r' H2 ⟨hp, ys, hap2, hperm, hsrt⟩
  simp only [hOut_f]
  rw [← hperm.length_eq] at hap2 hsrt
  (repeat' (first | refine Z ?_ | refine Zq ?_ | refine rn_blk_x (by decide) ?_ | ((first | refine' Y ?_ ?_ | refine' X ?_ ?_ ?_); rotate_left; (· (first | (simp (disch := omega) only [evl, Nat.reduceEqDiff, Nat.reduceAdd, reduceIte, reduceCtorEq] <;> exact rfl) | exact rfl)); all_goals try (refine fun (hb : _ = _) => ?_; try simp only [Zu, ne_eq, reduceCtorEq] at hb)) | (apply rk_gd_u; · simp [evl])))
  refine rn_nil ?_; refine fq_ret (resV_1 _ _) ⟨((hx.hp fun _ => True).trans hp (r := fun _ => True) fun j hj _ => ⟨trivial, hj⟩).hx fun _ _ => trivial, ys, ?_, hperm, hsrt⟩
  (simp (disch := omega) only [evl, Nat.reduceEqDiff, Nat.reduceAdd, reduceIte, reduceCtorEq])
  exact hap2

/-! ### slices.Compact -/
/-- Neighbours that are one, once. -/
def ddG : Int → List Int → List Int
  | _, [] => []
  | p, x :: l => if x = p then ddG p l else x :: ddG x l
def dd : List Int → List Int
  | [] => []
  | x :: l => x :: ddG x l
theorem ddG_snoc : ∀ (l : List Int) (p y : Int), ddG p (l ++ [y]) = if y = (p :: l).getLast (by simp) then ddG p l else ddG p l ++ [y]
  | [], p, y => by
    show ddG p [y] = _
    by_cases h : y = p
    · rw [if_pos (show y = [p].getLast (by simp) from h)]
      show (if y = p then ddG p [] else y :: ddG y []) = _
      rw [if_pos h]
    · rw [if_neg (show ¬ y = [p].getLast (by simp) from h)]
      show (if y = p then ddG p [] else y :: ddG y []) = _
      rw [if_neg h]; rfl
  | x :: l, p, y => by
    have ih := ddG_snoc l x y
    have ep : ∀ m, ddG p (x :: m) = if x = p then ddG p m else x :: ddG x m := fun _ => rfl
    rw [List.cons_append, ep, ep]
    have el : (p :: x :: l).getLast (by simp) = (x :: l).getLast (by simp) := List.getLast_cons (by simp)
    rw [el]
    by_cases h : x = p
    · subst h
      rw [if_pos rfl, if_pos rfl]
      exact ih
    · rw [if_neg h, if_neg h, ih]
      by_cases hy : y = (x :: l).getLast (by simp)
      · rw [if_pos hy, if_pos hy]
      · rw [if_neg hy, if_neg hy]; rfl
theorem dd_step (xs : List Int) {j : Nat} (h1 : 1 ≤ j) (h2 : j < xs.length) : dd (xs.take (j + 1)) = if g xs j = g xs (j - 1) then dd (xs.take j) else dd (xs.take j) ++ [g xs j] := by
  rw [takeI xs h2]
  show dd (xs.take j ++ [g xs j]) = _
  cases xs with
  | nil => simp at h2
  | cons x l =>
    obtain ⟨k, rfl⟩ : ∃ k, j = k + 1 := ⟨j - 1, by omega⟩
    rw [List.take_succ_cons, List.cons_append]
    show x :: ddG x (l.take k ++ [_]) = _
    rw [ddG_snoc]
    have e : (x :: l.take k).getLast (by simp) = g (x :: l) (k + 1 - 1) := by
      rw [List.getLast_eq_getElem]
      rw [g_el (by omega)]
      have hk : k < (x :: l).length := by simp at h2 ⊢; omega
      have : (x :: l.take k) = (x :: l).take (k + 1) := rfl
      simp only [this, List.getElem_take, List.length_take]
      congr 1
      omega
    rw [e]
    by_cases hc : g (x :: l) (k + 1) = g (x :: l) (k + 1 - 1)
    · rw [if_pos hc, if_pos hc]; rfl
    · rw [if_neg hc, if_neg hc]; rfl
theorem dd_one (xs : List Int) (h : 1 ≤ xs.length) : dd (xs.take 1) = xs.take 1 := by
  cases xs with
  | nil => rfl
  | cons x l => rfl
end PQ
end Go.Proofs.Ytnkomaedmblemaa
