import Derived.Test.YtnkomaedmblemaaCtA
import Derived.Test.YtnkomaedmblemaaExl
set_option linter.unusedSimpArgs false
set_option linter.unusedVariables false
set_option maxRecDepth 100000
namespace Go.Proofs.Ytnkomaedmblemaa
open Go.Ev Exl
open Ra Rb Rc Rd Re Rf Rg Rh Ri Rj Rk Rl Rm Rn Ro Rp Rq Rr

def iC (l : List Int) : List AV := l.map (AV.int .i64)
theorem listTo_succ (s : List Bool) (i : Nat) : listTo s (i + 1) = if s.getD i false = true then listTo s i ++ [(i : Int)] else listTo s i := rfl
def ListR (H : AH) (l : List (Int × Int)) (r : AV) (H' : AH) : Prop :=
  HX H H' ∧ ((¬ Ok 0 l ∧ r = .tup [.nilSl, .int .i64 2]) ∨ (Ok 0 l ∧ ∃ s o, MarkOf s l ∧ r = .tup [o, .int .i64 0] ∧ Ap H' o (listTo s 4096).length (iC (listTo s 4096)) 3 1 H.next ∧ (listTo s 4096 = [] → o = .nilSl)))

set_option maxHeartbeats 8000000 in
theorem refList_ok (H : AH) (v : AV) (l : List (Int × Int)) (hs : SlX H v l) (hh : H.hide = []) (hlo : H.lo ≤ H.next) (hl : l.length ≤ 1000000) :
    FnE look 26 [v] H (ListR H l) := by
  refine fn_intro f26_eq (noext rfl) rfl ?_
  unfold f26c
  (repeat' (first | refine Z ?_ | refine Zq ?_ | refine rn_blk_x (by decide) ?_ | ((first | refine' Y ?_ ?_ | refine' X ?_ ?_ ?_); rotate_left; (· (first | (simp (disch := omega) only [evl, Nat.reduceEqDiff, Nat.reduceAdd, reduceIte, reduceCtorEq] <;> exact rfl) | exact rfl)); all_goals try (refine fun (hb : _ = _) => ?_; try simp only [Zu, ne_eq, reduceCtorEq] at hb)) | (apply rk_gd_u; · simp [evl])))
  refine rk_cl (by (simp (disch := omega) only [evl, Nat.reduceEqDiff, Nat.reduceAdd, reduceIte, reduceCtorEq]); exact refCheck_ok H v l hs hh hlo hl) ?_
  rintro r H1 ⟨hx1, ⟨hok, rfl⟩ | ⟨hok, rfl⟩⟩
  rotate_left
  · simp only [hOut_f]
    (repeat' (first | refine Z ?_ | refine Zq ?_ | refine rn_blk_x (by decide) ?_ | ((first | refine' Y ?_ ?_ | refine' X ?_ ?_ ?_); rotate_left; (· (first | (simp (disch := omega) only [evl, Nat.reduceEqDiff, Nat.reduceAdd, reduceIte, reduceCtorEq] <;> exact rfl) | exact rfl)); all_goals try (refine fun (hb : _ = _) => ?_; try simp only [Zu, ne_eq, reduceCtorEq] at hb)) | (apply rk_gd_u; · simp [evl])))
    refine rn_nil ?_; refine fq_ret (resV_2 _ _ _) ⟨hx1, .inl ⟨hok, ?_⟩⟩
    (simp (disch := omega) only [evl, Nat.reduceEqDiff, Nat.reduceAdd, reduceIte, reduceCtorEq])
  simp only [hOut_f]
  (repeat' (first | refine Z ?_ | refine Zq ?_ | refine rn_blk_x (by decide) ?_ | ((first | refine' Y ?_ ?_ | refine' X ?_ ?_ ?_); rotate_left; (· (first | (simp (disch := omega) only [evl, Nat.reduceEqDiff, Nat.reduceAdd, reduceIte, reduceCtorEq] <;> exact rfl) | exact rfl)); all_goals try (refine fun (hb : _ = _) => ?_; try simp only [Zu, ne_eq, reduceCtorEq] at hb)) | (apply rk_gd_u; · simp [evl])))
  refine rk_cl (by (simp (disch := omega) only [evl, Nat.reduceEqDiff, Nat.reduceAdd, reduceIte, reduceCtorEq]); exact marks_ok H1 v l (hs.hx hx1) (hx1.hide.trans hh) (by rw [hx1.lo]; have := hx1.next; omega) hl hok) ?_
  rintro r H2 ⟨hx2, s, c, rfl, hc, hm⟩
  simp only [hOut_f]
  have hxA := hx1.trans hx2
  have hhA : H2.hide = [] := hxA.hide.trans hh
  have hnA := hxA.next
  have hsl := hm.1
  obtain ⟨H3, H4, hal, hst, hx4, hn4, hr4⟩ := boxN look (e := 52) (s := 4096) (z := zC look 52) (v := c.toV) hhA (by rw [hxA.lo]; omega) (by rw [zC52b, bl_len, List.length_replicate]) (by rw [toV_cells, hc, bl_len, hsl]) (by rw [toV_cells, hc]; exact bl_one s)
  rw [toV_cells, hc] at hr4
  apply rk_al
  · (simp (disch := omega) only [evl, Nat.reduceEqDiff, Nat.reduceAdd, reduceIte, reduceCtorEq])
    exact hal
  simp only [hOut_f]
  apply rk_st
  · (simp (disch := omega) only [evl, Nat.reduceEqDiff, Nat.reduceAdd, reduceIte, reduceCtorEq])
    exact hst
  simp only [hOut_f]
  have hxB := hxA.trans hx4
  (repeat' (first | refine Z ?_ | refine Zq ?_ | refine rn_blk_x (by decide) ?_ | ((first | refine' Y ?_ ?_ | refine' X ?_ ?_ ?_); rotate_left; (· (first | (simp (disch := omega) only [evl, Nat.reduceEqDiff, Nat.reduceAdd, reduceIte, reduceCtorEq] <;> exact rfl) | exact rfl)); all_goals try (refine fun (hb : _ = _) => ?_; try simp only [Zu, ne_eq, reduceCtorEq] at hb)) | (apply rk_gd_u; · simp [evl])))
  refine rc_loop (R := fun ex T' H' => ex = .exit 0 ∧ HX H4 H' ∧ ∃ o, gT T' 4 = o ∧ Ap H' o (listTo s 4096).length (iC (listTo s 4096)) 3 1 H4.next ∧ (listTo s 4096 = [] → o = .nilSl)) ?_ ?_
  · refine lp_ind f26l0_eq (fun k T H' => ∃ (i : Nat) (o : AV), k = 4096 - i ∧ i ≤ 4096 ∧ gT T 5 = .ptr H2.next 0 ∧ gT T 4 = o ∧ gT T 6 = .int .i64 i ∧ HX H4 H' ∧ Ap H' o (listTo s i).length (iC (listTo s i)) 3 1 H4.next ∧ (listTo s i = [] → o = .nilSl)) _ ?_ 4096 _ _ ?_
    · intro k T H' hI
      obtain ⟨i, o, hk, hi, h1, h3, h4, hx, hap, hnil⟩ := hI
      unfold f26l0
      have hrl := listTo_len s i
      have Hsu := Hd.mk (listTo_succ s i)
      by_cases hlt : i < 4096
      · have hrd := (hr4.hx hx (by omega)).rd (bl_get s (i := i) (by omega))
        have hixA := ixA_ok (n := 4096) (z := 1) (i := H2.next) (o := 0) (k := .i64) (e := (i : Int)) (by omega) (by omega)
        rw [Nat.zero_add, Nat.mul_one, Int.toNat_natCast] at hixA
        have hnx := hx.next
        have hhB : H'.hide = [] := hx.hide.trans (hxB.hide.trans hh)
        have hloB : H'.lo ≤ H4.next := by rw [hx.lo, hxB.lo]; have := hxB.next; omega
        cases hsi : s.getD i false with
        | false =>
          rw [hsi] at hrd
          (repeat' (first | refine Z ?_ | refine Zq ?_ | refine rn_blk_x (by decide) ?_ | ((first | refine' Y ?_ ?_ | refine' X ?_ ?_ ?_); rotate_left; (· (first | (simp (disch := omega) only [evl, Nat.reduceEqDiff, Nat.reduceAdd, reduceIte, reduceCtorEq, h1, h3, h4, hixA, hrd] <;> exact rfl) | exact rfl)); all_goals try (refine fun (hb : _ = _) => ?_; try simp only [Zu, ne_eq, reduceCtorEq] at hb)) | (apply rk_gd_u; · simp [evl])))
          refine rn_nil ?_; refine lpq_n (4096 - (i + 1)) (by omega) ?_
          refine ⟨i + 1, o, rfl, by omega, (by (first | (simp (disch := omega) only [evl, Nat.reduceEqDiff, Nat.reduceAdd, reduceIte, reduceCtorEq, h1] <;> exact rfl) | exact rfl)), (by (first | (simp (disch := omega) only [evl, Nat.reduceEqDiff, Nat.reduceAdd, reduceIte, reduceCtorEq, h3] <;> exact rfl) | exact rfl)), (by (first | (simp (disch := omega) only [evl, Nat.reduceEqDiff, Nat.reduceAdd, reduceIte, reduceCtorEq] <;> exact rfl) | exact rfl)), hx, ?_⟩
          rw [Hsu.out, if_neg (by rw [hsi]; simp)]
          exact ⟨hap, hnil⟩
        | true =>
          rw [hsi] at hrd
          (repeat' (first | refine Z ?_ | refine Zq ?_ | refine rn_blk_x (by decide) ?_ | ((first | refine' Y ?_ ?_ | refine' X ?_ ?_ ?_); rotate_left; (· (first | (simp (disch := omega) only [evl, Nat.reduceEqDiff, Nat.reduceAdd, reduceIte, reduceCtorEq, h1, h3, h4, hixA, hrd] <;> exact rfl) | exact rfl)); all_goals try (refine fun (hb : _ = _) => ?_; try simp only [Zu, ne_eq, reduceCtorEq] at hb)) | (apply rk_gd_u; · simp [evl])))
          obtain ⟨H5, hb5, hx5, hn5, hr5⟩ := bs_one (s := 1) (e := 3) (z := .int .i64 0) (v := .int .i64 (i : Int)) (H := H') hhB rfl rfl
          apply rk_hn
          · (simp (disch := omega) only [evl, Nat.reduceEqDiff, Nat.reduceAdd, reduceIte, reduceCtorEq])
            exact hb5
          simp only [hOut_f]
          (repeat' (first | refine Z ?_ | refine Zq ?_ | refine rn_blk_x (by decide) ?_ | ((first | refine' Y ?_ ?_ | refine' X ?_ ?_ ?_); rotate_left; (· (first | (simp (disch := omega) only [evl, Nat.reduceEqDiff, Nat.reduceAdd, reduceIte, reduceCtorEq, h3] <;> exact rfl) | exact rfl)); all_goals try (refine fun (hb : _ = _) => ?_; try simp only [Zu, ne_eq, reduceCtorEq] at hb)) | (apply rk_gd_u; · simp [evl])))
          obtain ⟨new, hsrc, hnl⟩ := srcRow (z := 1) (n := 1) (c := 1) (op := false) hr5 rfl
          have hap5 := hap.hx hx5
          obtain ⟨s', H6, happ, hap6, hp6, hn6, hne6⟩ := hap5.app (b := 8) (x := .sl H'.next 0 1 1 false) (m := 1) rfl hsrc (one_of_l (by rw [hnl]; rfl)) (by rw [hnl]; rfl) (Nat.le_refl _) (by omega) (by omega) (hx5.hide.trans hhB) (by rw [hx5.lo]; exact hloB) (by have := hx5.next; omega)
          apply rk_hn
          · (simp (disch := omega) only [evl, Nat.reduceEqDiff, Nat.reduceAdd, reduceIte, reduceCtorEq, h3])
            exact happ
          simp only [hOut_f]
          (repeat' (first | refine Z ?_ | refine Zq ?_ | refine rn_blk_x (by decide) ?_ | ((first | refine' Y ?_ ?_ | refine' X ?_ ?_ ?_); rotate_left; (· (first | (simp (disch := omega) only [evl, Nat.reduceEqDiff, Nat.reduceAdd, reduceIte, reduceCtorEq, h4] <;> exact rfl) | exact rfl)); all_goals try (refine fun (hb : _ = _) => ?_; try simp only [Zu, ne_eq, reduceCtorEq] at hb)) | (apply rk_gd_u; · simp [evl])))
          refine rn_nil ?_; refine lpq_n (4096 - (i + 1)) (by omega) ?_
          refine ⟨i + 1, s', rfl, by omega, (by (first | (simp (disch := omega) only [evl, Nat.reduceEqDiff, Nat.reduceAdd, reduceIte, reduceCtorEq, h1] <;> exact rfl) | exact rfl)), (by (first | (simp (disch := omega) only [evl, Nat.reduceEqDiff, Nat.reduceAdd, reduceIte, reduceCtorEq] <;> exact rfl) | exact rfl)), (by (first | (simp (disch := omega) only [evl, Nat.reduceEqDiff, Nat.reduceAdd, reduceIte, reduceCtorEq] <;> exact rfl) | exact rfl)), ?_, ?_⟩
          · refine (((hx.trans hx5).hp fun _ => True).trans hp6 (r := fun _ => True) fun i hi _ => ⟨trivial, ?_⟩).hx fun _ _ => trivial
            obtain ⟨_, ⟨rfl, _⟩ | ⟨i', rfl, _, hN, _⟩⟩ := hap
            · exact blkNe_nil _
            · exact blkNe_sl (by omega)
          · rw [Hsu.out, if_pos hsi]
            refine ⟨?_, fun h => by simp at h⟩
            rw [hnl, show AV.cells (.int .i64 (i : Int)) = iC [(i : Int)] from rfl, show iC (listTo s i) ++ iC [(i : Int)] = iC (listTo s i ++ [(i : Int)]) from by simp [iC]] at hap6
            simpa using hap6
      · (repeat' (first | refine Z ?_ | refine Zq ?_ | refine rn_blk_x (by decide) ?_ | ((first | refine' Y ?_ ?_ | refine' X ?_ ?_ ?_); rotate_left; (· (first | (simp (disch := omega) only [evl, Nat.reduceEqDiff, Nat.reduceAdd, reduceIte, reduceCtorEq, h4] <;> exact rfl) | exact rfl)); all_goals try (refine fun (hb : _ = _) => ?_; try simp only [Zu, ne_eq, reduceCtorEq] at hb)) | (apply rk_gd_u; · simp [evl])))
        refine rn_nil ?_; refine lpq_e ?_
        obtain rfl : i = 4096 := by omega
        exact ⟨rfl, hx, o, (by (first | (simp (disch := omega) only [evl, Nat.reduceEqDiff, Nat.reduceAdd, reduceIte, reduceCtorEq, h3] <;> exact rfl) | exact rfl)), hap, hnil⟩
    · exact ⟨0, .nilSl, by omega, by omega, (by (first | (simp (disch := omega) only [evl, Nat.reduceEqDiff, Nat.reduceAdd, reduceIte, reduceCtorEq] <;> exact rfl) | exact rfl)), (by (first | (simp (disch := omega) only [evl, Nat.reduceEqDiff, Nat.reduceAdd, reduceIte, reduceCtorEq] <;> exact rfl) | exact rfl)), (by (first | (simp (disch := omega) only [evl, Nat.reduceEqDiff, Nat.reduceAdd, reduceIte, reduceCtorEq] <;> exact rfl) | exact rfl)), HX.refl _, Ap.nil _ _ _ _, fun _ => rfl⟩
  · rintro ex T' H' ⟨rfl, hx, o, h3, hap, hnil⟩
    (repeat' (first | refine Z ?_ | refine Zq ?_ | refine rn_blk_x (by decide) ?_ | ((first | refine' Y ?_ ?_ | refine' X ?_ ?_ ?_); rotate_left; (· (first | (simp (disch := omega) only [evl, Nat.reduceEqDiff, Nat.reduceAdd, reduceIte, reduceCtorEq, h3] <;> exact rfl) | exact rfl)); all_goals try (refine fun (hb : _ = _) => ?_; try simp only [Zu, ne_eq, reduceCtorEq] at hb)) | (apply rk_gd_u; · simp [evl])))
    refine rn_nil ?_; refine fq_ret (resV_2 _ _ _) ⟨hxB.trans hx, .inr ⟨hok, s, o, hm, ?_, Ap.le hap (by omega), hnil⟩⟩
    (simp (disch := omega) only [evl, Nat.reduceEqDiff, Nat.reduceAdd, reduceIte, reduceCtorEq])

def SetOf (s : List Bool) (zs : List Int) : Prop := s.length = 4096 ∧ ∀ i : Nat, i < 4096 → (s.getD i false = true ↔ (i : Int) ∈ zs)
def OfR (H : AH) (zs : List Int) (r : AV) (H' : AH) : Prop :=
  HX H H' ∧ (((∃ x ∈ zs, x < 0 ∨ 4096 ≤ x) ∧ r = .tup [.nilSl, .int .i64 2]) ∨ ((∀ x ∈ zs, 0 ≤ x ∧ x < 4096) ∧ ∃ s o, SetOf s zs ∧ r = .tup [o, .int .i64 0] ∧ Ap H' o (runsTo s 4096).length (exC (runsTo s 4096)) 43 2 H.next))
theorem memI {zs : List Int} {i : Nat} (h : i < zs.length) : zs.getD i 0 ∈ zs := by
  rw [List.getD_eq_getElem?_getD, List.getElem?_eq_getElem h]; exact List.getElem_mem h
theorem takeI (zs : List Int) {i : Nat} (h : i < zs.length) : zs.take (i + 1) = zs.take i ++ [zs.getD i 0] := by
  rw [List.take_add_one, List.getElem?_eq_getElem h]
  simp [List.getD_eq_getElem?_getD, List.getElem?_eq_getElem h]

set_option maxHeartbeats 8000000 in
theorem refOf_ok (H : AH) (v : AV) (zs : List Int) (hs : SlI H v zs) (hh : H.hide = []) (hlo : H.lo ≤ H.next) (hl : zs.length ≤ 1000000) :
    FnE look 28 [v] H (OfR H zs) := by
  refine fn_intro f28_eq (noext rfl) rfl ?_
  unfold f28c
  have hlen := fun H' => len_el (H' := H') u32 hs.is
  obtain ⟨H1, hal1, hx1, hn1, hr1⟩ := al_box (e := 52) (s := 4096) (c := zC look 52) hh
  rw [zC52b] at hr1
  (repeat' (first | refine Z ?_ | refine Zq ?_ | refine rn_blk_x (by decide) ?_ | ((first | refine' Y ?_ ?_ | refine' X ?_ ?_ ?_); rotate_left; (· (first | (simp (disch := omega) only [evl, Nat.reduceEqDiff, Nat.reduceAdd, reduceIte, reduceCtorEq] <;> exact rfl) | exact rfl)); all_goals try (refine fun (hb : _ = _) => ?_; try simp only [Zu, ne_eq, reduceCtorEq] at hb)) | (apply rk_gd_u; · simp [evl])))
  apply rk_al
  · (simp (disch := omega) only [evl, Nat.reduceEqDiff, Nat.reduceAdd, reduceIte, reduceCtorEq])
    exact hal1
  simp only [hOut_f]
  (repeat' (first | refine Z ?_ | refine Zq ?_ | refine rn_blk_x (by decide) ?_ | ((first | refine' Y ?_ ?_ | refine' X ?_ ?_ ?_); rotate_left; (· (first | (simp (disch := omega) only [evl, Nat.reduceEqDiff, Nat.reduceAdd, reduceIte, reduceCtorEq] <;> exact rfl) | exact rfl)); all_goals try (refine fun (hb : _ = _) => ?_; try simp only [Zu, ne_eq, reduceCtorEq] at hb)) | (apply rk_gd_u; · simp [evl])))
  have hh1 : H1.hide = [] := hx1.hide.trans hh
  have hlo1 : H1.lo ≤ H.next := by rw [hx1.lo]; exact hlo
  refine rc_loop (R := fun ex T' H' => HP (· ≠ H.next) H1 H' ∧ ((ex = .exit 0 ∧ (∀ x ∈ zs, 0 ≤ x ∧ x < 4096) ∧ gT T' 4 = .ptr H.next 0 ∧ ∃ s : List Bool, Row H' H.next false false 52 4096 (bl s) ∧ SetOf s zs) ∨ (ex = .ret ∧ (∃ x ∈ zs, x < 0 ∨ 4096 ≤ x) ∧ gT T' 2 = .nilSl ∧ gT T' 3 = .int .i64 2))) ?_ ?_
  · refine lp_ind f28l0_eq (fun k T H' => ∃ (i : Nat) (s : List Bool), k = zs.length - i ∧ i ≤ zs.length ∧ gT T 0 = v ∧ gT T 4 = .ptr H.next 0 ∧ gT T 5 = .int .i64 i ∧ HP (· ≠ H.next) H1 H' ∧ (∀ x ∈ zs.take i, 0 ≤ x ∧ x < 4096) ∧ Row H' H.next false false 52 4096 (bl s) ∧ SetOf s (zs.take i)) _ ?_ zs.length _ _ ?_
    · intro k T H' hI
      obtain ⟨i, s, hk, hi, h0, h4, h5, hp, hall, hr, hset⟩ := hI
      unfold f28l0
      by_cases hlt : i < zs.length
      · have hsx : SlI H' v zs := by
          have h1 : SlI H1 v zs := hs.hx hx1
          refine ⟨?_, fun k hk => ?_⟩
          · rcases hs.is with h | ⟨i2, o2, c2, op2, rfl, hi2, _⟩
            · exact .inl h
            · rcases h1.is with ⟨h, _⟩ | ⟨i3, o3, c3, op3, hv, hi3, cc, e, z, op', ro, hg, ho⟩
              · cases h
              · cases hv
                exact .inr ⟨_, _, _, _, rfl, Nat.lt_of_lt_of_le hi3 hp.next, cc, e, z, op', ro, (hp.get hi3 (by omega)).trans hg, ho⟩
          · have := h1.el k hk
            rcases hs.is with ⟨_, h⟩ | ⟨i2, o2, c2, op2, rfl, hi2, _⟩
            · omega
            · have h2 : ld1 (.ptr i2 (o2 + k * 1)) H1 = some _ := this
              show ld1 (.ptr i2 (o2 + k * 1)) H' = _
              rw [ld1_get] at h2 ⊢
              unfold AH.read1 AH.row at h2 ⊢
              rw [hp.get (by omega) (by omega)]; exact h2
        have hix := @ix_el _ _ _ hsx.is
        have hel : ld1 (elA 1 v i) H' = some (.int .i64 (zs.getD i 0)) := hsx.el i hlt
        have hmem := memI hlt
        have Htk := Hd.mk (takeI zs hlt)
        have Hall := Hd.mk hall
        clear hall
        generalize hz : zs.getD i 0 = z at *
        clear hz
        by_cases hz0 : z < 0
        · (repeat' (first | refine Z ?_ | refine Zq ?_ | refine rn_blk_x (by decide) ?_ | ((first | refine' Y ?_ ?_ | refine' X ?_ ?_ ?_); rotate_left; (· (first | (simp (disch := omega) only [evl, Nat.reduceEqDiff, Nat.reduceAdd, reduceIte, reduceCtorEq, h0, h4, h5, hlen, hix, hel] <;> exact rfl) | exact rfl)); all_goals try (refine fun (hb : _ = _) => ?_; try simp only [Zu, ne_eq, reduceCtorEq] at hb)) | (apply rk_gd_u; · simp [evl])))
          refine rn_nil ?_; refine lpq_r ?_
          exact ⟨hp, .inr ⟨rfl, ⟨z, hmem, .inl hz0⟩, (by (first | (simp (disch := omega) only [evl, Nat.reduceEqDiff, Nat.reduceAdd, reduceIte, reduceCtorEq] <;> exact rfl) | exact rfl)), (by (first | (simp (disch := omega) only [evl, Nat.reduceEqDiff, Nat.reduceAdd, reduceIte, reduceCtorEq] <;> exact rfl) | exact rfl))⟩⟩
        by_cases hz1 : 4096 ≤ z
        · (repeat' (first | refine Z ?_ | refine Zq ?_ | refine rn_blk_x (by decide) ?_ | ((first | refine' Y ?_ ?_ | refine' X ?_ ?_ ?_); rotate_left; (· (first | (simp (disch := omega) only [evl, Nat.reduceEqDiff, Nat.reduceAdd, reduceIte, reduceCtorEq, h0, h4, h5, hlen, hix, hel] <;> exact rfl) | exact rfl)); all_goals try (refine fun (hb : _ = _) => ?_; try simp only [Zu, ne_eq, reduceCtorEq] at hb)) | (apply rk_gd_u; · simp [evl])))
          refine rn_nil ?_; refine lpq_r ?_
          exact ⟨hp, .inr ⟨rfl, ⟨z, hmem, .inr hz1⟩, (by (first | (simp (disch := omega) only [evl, Nat.reduceEqDiff, Nat.reduceAdd, reduceIte, reduceCtorEq] <;> exact rfl) | exact rfl)), (by (first | (simp (disch := omega) only [evl, Nat.reduceEqDiff, Nat.reduceAdd, reduceIte, reduceCtorEq] <;> exact rfl) | exact rfl))⟩⟩
        have hixA := ixA_ok (n := 4096) (z := 1) (i := H.next) (o := 0) (k := .i64) (e := z) (by omega) (by omega)
        rw [Nat.zero_add, Nat.mul_one] at hixA
        have hsl := hset.1
        obtain ⟨H3, hst, hr3, hp3, hn3⟩ := hr.st1 (L := look) (t := 4) (v := .bool true) (k := z.toNat) (hp.hide.trans hh1) (by rw [hp.lo]; omega) z4 rfl (by rw [bl_len, hsl]; omega)
        rw [bl_set] at hr3
        (repeat' (first | refine Z ?_ | refine Zq ?_ | refine rn_blk_x (by decide) ?_ | ((first | refine' Y ?_ ?_ | refine' X ?_ ?_ ?_); rotate_left; (· (first | (simp (disch := omega) only [evl, Nat.reduceEqDiff, Nat.reduceAdd, reduceIte, reduceCtorEq, h0, h4, h5, hlen, hix, hel, hixA] <;> exact rfl) | exact rfl)); all_goals try (refine fun (hb : _ = _) => ?_; try simp only [Zu, ne_eq, reduceCtorEq] at hb)) | (apply rk_gd_u; · simp [evl])))
        apply rk_st
        · (simp (disch := omega) only [evl, Nat.reduceEqDiff, Nat.reduceAdd, reduceIte, reduceCtorEq])
          exact hst
        simp only [hOut_f]
        (repeat' (first | refine Z ?_ | refine Zq ?_ | refine rn_blk_x (by decide) ?_ | ((first | refine' Y ?_ ?_ | refine' X ?_ ?_ ?_); rotate_left; (· (first | (simp (disch := omega) only [evl, Nat.reduceEqDiff, Nat.reduceAdd, reduceIte, reduceCtorEq, h5] <;> exact rfl) | exact rfl)); all_goals try (refine fun (hb : _ = _) => ?_; try simp only [Zu, ne_eq, reduceCtorEq] at hb)) | (apply rk_gd_u; · simp [evl])))
        refine rn_nil ?_; refine lpq_n (zs.length - (i + 1)) (by omega) ?_
        refine ⟨i + 1, _, rfl, by omega, (by (first | (simp (disch := omega) only [evl, Nat.reduceEqDiff, Nat.reduceAdd, reduceIte, reduceCtorEq, h0] <;> exact rfl) | exact rfl)), (by (first | (simp (disch := omega) only [evl, Nat.reduceEqDiff, Nat.reduceAdd, reduceIte, reduceCtorEq, h4] <;> exact rfl) | exact rfl)), (by (first | (simp (disch := omega) only [evl, Nat.reduceEqDiff, Nat.reduceAdd, reduceIte, reduceCtorEq] <;> exact rfl) | exact rfl)), hp.trans hp3 (r := (· ≠ H.next)) fun i hi h => ⟨h, h⟩, ?_, hr3, by rw [List.length_set]; exact hsl, ?_⟩
        · rw [Htk.out]
          intro x hx
          rcases List.mem_append.1 hx with hx | hx
          · exact Hall.out x hx
          · rw [List.mem_singleton] at hx; omega
        · intro x hx
          rw [getD_set _ _ _ _ (by omega), Htk.out]
          by_cases hxe : x = z.toNat
          · rw [if_pos hxe]
            simp only [true_iff]
            exact List.mem_append_right _ (by rw [List.mem_singleton]; omega)
          · rw [if_neg hxe, hset.2 x hx]
            constructor
            · intro h; exact List.mem_append_left _ h
            · intro h
              rcases List.mem_append.1 h with h | h
              · exact h
              · rw [List.mem_singleton] at h; omega
      · (repeat' (first | refine Z ?_ | refine Zq ?_ | refine rn_blk_x (by decide) ?_ | ((first | refine' Y ?_ ?_ | refine' X ?_ ?_ ?_); rotate_left; (· (first | (simp (disch := omega) only [evl, Nat.reduceEqDiff, Nat.reduceAdd, reduceIte, reduceCtorEq, h0, h5, hlen] <;> exact rfl) | exact rfl)); all_goals try (refine fun (hb : _ = _) => ?_; try simp only [Zu, ne_eq, reduceCtorEq] at hb)) | (apply rk_gd_u; · simp [evl])))
        refine rn_nil ?_; refine lpq_e ?_
        obtain rfl : i = zs.length := by omega
        rw [List.take_length] at hset hall
        exact ⟨hp, .inl ⟨rfl, hall, (by (first | (simp (disch := omega) only [evl, Nat.reduceEqDiff, Nat.reduceAdd, reduceIte, reduceCtorEq, h4] <;> exact rfl) | exact rfl)), s, hr, hset⟩⟩
    · refine ⟨0, List.replicate 4096 false, by omega, by omega, (by (first | (simp (disch := omega) only [evl, Nat.reduceEqDiff, Nat.reduceAdd, reduceIte, reduceCtorEq] <;> exact rfl) | exact rfl)), (by (first | (simp (disch := omega) only [evl, Nat.reduceEqDiff, Nat.reduceAdd, reduceIte, reduceCtorEq] <;> exact rfl) | exact rfl)), (by (first | (simp (disch := omega) only [evl, Nat.reduceEqDiff, Nat.reduceAdd, reduceIte, reduceCtorEq] <;> exact rfl) | exact rfl)), HP.refl _ _, by simp, hr1, List.length_replicate, fun x hx => ?_⟩
      rw [repF]; simp
  · rintro ex T' H' ⟨hp, ⟨rfl, hall, h4, s, hr, hset⟩ | ⟨rfl, hbad, h2, h3⟩⟩
    · have hsl := hset.1
      have hxp : HX H H' := ((hx1.hp fun _ => True).trans hp (r := fun _ => True) fun j hj _ => ⟨trivial, by omega⟩).hx fun _ _ => trivial
      obtain ⟨c, hld, hcl⟩ := hr.rdN (o := 0) (s := 4096) (by rw [bl_len, hsl]; omega)
      rw [List.drop_zero, List.take_of_length_le (by rw [bl_len, hsl]; omega)] at hcl
      (repeat' (first | refine Z ?_ | refine Zq ?_ | refine rn_blk_x (by decide) ?_ | ((first | refine' Y ?_ ?_ | refine' X ?_ ?_ ?_); rotate_left; (· (first | (simp (disch := omega) only [evl, Nat.reduceEqDiff, Nat.reduceAdd, reduceIte, reduceCtorEq, h4, hld] <;> exact rfl) | exact rfl)); all_goals try (refine fun (hb : _ = _) => ?_; try simp only [Zu, ne_eq, reduceCtorEq] at hb)) | (apply rk_gd_u; · simp [evl])))
      refine rk_cl (by (simp (disch := omega) only [evl, Nat.reduceEqDiff, Nat.reduceAdd, reduceIte, reduceCtorEq, h4, hld]); exact runs_ok H' c s hcl hsl (hxp.hide.trans hh) (by rw [hxp.lo]; have := hxp.next; omega)) ?_
      rintro r H2 ⟨hx2, hap⟩
      simp only [hOut_f]
      (repeat' (first | refine Z ?_ | refine Zq ?_ | refine rn_blk_x (by decide) ?_ | ((first | refine' Y ?_ ?_ | refine' X ?_ ?_ ?_); rotate_left; (· (first | (simp (disch := omega) only [evl, Nat.reduceEqDiff, Nat.reduceAdd, reduceIte, reduceCtorEq] <;> exact rfl) | exact rfl)); all_goals try (refine fun (hb : _ = _) => ?_; try simp only [Zu, ne_eq, reduceCtorEq] at hb)) | (apply rk_gd_u; · simp [evl])))
      refine rn_nil ?_; refine fq_ret (resV_2 _ _ _) ⟨hxp.trans hx2, .inr ⟨hall, s, r, hset, ?_, Ap.le hap hxp.next⟩⟩
      (simp (disch := omega) only [evl, Nat.reduceEqDiff, Nat.reduceAdd, reduceIte, reduceCtorEq])
    · have hxp : HX H H' := ((hx1.hp fun _ => True).trans hp (r := fun _ => True) fun j hj _ => ⟨trivial, by omega⟩).hx fun _ _ => trivial
      (repeat' (first | refine Z ?_ | refine Zq ?_ | refine rn_blk_x (by decide) ?_ | ((first | refine' Y ?_ ?_ | refine' X ?_ ?_ ?_); rotate_left; (· (first | (simp (disch := omega) only [evl, Nat.reduceEqDiff, Nat.reduceAdd, reduceIte, reduceCtorEq] <;> exact rfl) | exact rfl)); all_goals try (refine fun (hb : _ = _) => ?_; try simp only [Zu, ne_eq, reduceCtorEq] at hb)) | (apply rk_gd_u; · simp [evl])))
      refine rn_nil ?_; refine fq_ret (resV_2 _ _ _) ⟨hxp, .inl ⟨hbad, ?_⟩⟩
      rw [h2, h3]
end Go.Proofs.Ytnkomaedmblemaa

set_option linter.unusedSimpArgs false
set_option linter.unusedVariables false
set_option maxRecDepth 100000
namespace Go.Proofs.Ytnkomaedmblemaa
open Go.Ev Exl
open Ra Rb Rc Rd Re Rf Rg Rh Ri Rj Rk Rl Rm Rn Ro Rp Rq Rr

theorem sl_open {L : Lk} {t e z : Nat} {i o n c : Nat} {k : IntKind} {m : Int} (ht : L.under t = some (.slice e)) (hz : L.size e = some z) (h0 : 0 ≤ m) (h1 : m ≤ c) (hc : c ≠ 0) :
    sliceF L t false true false [.sl i o n c true, .int k m] = some (.sl i o m.toNat c true) := by
  obtain ⟨a, rfl⟩ := Int.eq_ofNat_of_zero_le h0
  show evSlice L t (.sl i o n c true) none (some (.int k a)) none = _
  unfold evSlice
  rw [ht]
  show (match bndOf none 0 with | none => none | some l => _) = _
  show (match L.size e with | none => none | some z => (match some a with
        | none => none
        | some h => match Nat.ble 0 h && Nat.ble h c with
            | true => (match Nat.beq c 0 with | true => none | false => some (AV.sl i (o + 0 * z) (h - 0) (c - 0) true))
            | false => none)) = _
  rw [hz]
  simp only
  rw [show Nat.ble 0 a = true from Nat.ble_eq_true_of_le (Nat.zero_le _), show Nat.ble a c = true from Nat.ble_eq_true_of_le (by omega), show Nat.beq c 0 = false from by cases c with | zero => omega | succ c => rfl]
  simp only [Bool.and_self, Nat.sub_zero, Int.toNat_natCast, Nat.zero_mul, Nat.add_zero]
theorem sameX_ok (H : AH) (v w : AV) (l m : List (Int × Int)) (hs : SlX H v l) (hw : SlX H w m) (hl : l.length ≤ 1000000) (hm : m.length ≤ 1000000) :
    FnE look 14 [v, w] H fun r H' => r = .bool (decide (l = m)) ∧ H' = H := by
  refine fn_intro f14_eq (noext rfl) rfl ?_
  unfold f14c
  have hlen := fun H' => len_el (H' := H') u22 hs.is
  have hlenw := fun H' => len_el (H' := H') u22 hw.is
  by_cases hlm : l.length = m.length
  · (repeat' (first | refine Z ?_ | refine Zq ?_ | refine rn_blk_x (by decide) ?_ | ((first | refine' Y ?_ ?_ | refine' X ?_ ?_ ?_); rotate_left; (· (first | (simp (disch := omega) only [evl, Nat.reduceEqDiff, Nat.reduceAdd, reduceIte, reduceCtorEq, hlen, hlenw] <;> exact rfl) | exact rfl)); all_goals try (refine fun (hb : _ = _) => ?_; try simp only [Zu, ne_eq, reduceCtorEq] at hb)) | (apply rk_gd_u; · simp [evl])))
    refine rc_loop (R := fun ex T' H' => H' = H ∧ ((ex = .exit 0 ∧ l = m) ∨ (ex = .ret ∧ gT T' 4 = .bool false ∧ l ≠ m))) ?_ ?_
    · refine lp_ind f14l0_eq (fun k T H' => ∃ i : Nat, k = l.length - i ∧ i ≤ l.length ∧ gT T 0 = v ∧ gT T 1 = w ∧ gT T 5 = .int .i64 i ∧ (∀ j, j < i → exG l j = exG m j) ∧ H' = H) _ ?_ l.length _ _ ?_
      · intro k T H' hI
        obtain ⟨i, hk, hi, h0, h1, h5, hall, rfl⟩ := hI
        unfold f14l0
        by_cases hlt : i < l.length
        · have hel := SlX.rdN hs hlt
          have helw := SlX.rdN hw (k := i) (by omega)
          have hix := @ix_el _ _ _ hs.is
          have hixw := @ix_el _ _ _ hw.is
          have Hall := Hd.mk hall
          clear hall
          have hnq := fun xo yo => neq43 xo yo (exG l i) (exG m i)
          by_cases hq : exG l i = exG m i
          · rw [decide_eq_false (fun h => h hq)] at hnq
            (repeat' (first | refine Z ?_ | refine Zq ?_ | refine rn_blk_x (by decide) ?_ | ((first | refine' Y ?_ ?_ | refine' X ?_ ?_ ?_); rotate_left; (· (first | (simp (disch := omega) only [evl, Nat.reduceEqDiff, Nat.reduceAdd, reduceIte, reduceCtorEq, h0, h1, h5, hlen, hix, hel, hixw, helw, hnq] <;> exact rfl) | exact rfl)); all_goals try (refine fun (hb : _ = _) => ?_; try simp only [Zu, ne_eq, reduceCtorEq] at hb)) | (apply rk_gd_u; · simp [evl])))
            refine rn_nil ?_; refine lpq_n (l.length - (i + 1)) (by omega) ?_; refine ⟨i + 1, rfl, by omega, (by (first | (simp (disch := omega) only [evl, Nat.reduceEqDiff, Nat.reduceAdd, reduceIte, reduceCtorEq, h0] <;> exact rfl) | exact rfl)), (by (first | (simp (disch := omega) only [evl, Nat.reduceEqDiff, Nat.reduceAdd, reduceIte, reduceCtorEq, h1] <;> exact rfl) | exact rfl)), (by (first | (simp (disch := omega) only [evl, Nat.reduceEqDiff, Nat.reduceAdd, reduceIte, reduceCtorEq] <;> exact rfl) | exact rfl)), fun j hj => ?_, rfl⟩
            rcases Nat.lt_succ_iff_lt_or_eq.1 hj with h | rfl
            · exact Hall.out j h
            · exact hq
          · rw [decide_eq_true hq] at hnq
            (repeat' (first | refine Z ?_ | refine Zq ?_ | refine rn_blk_x (by decide) ?_ | ((first | refine' Y ?_ ?_ | refine' X ?_ ?_ ?_); rotate_left; (· (first | (simp (disch := omega) only [evl, Nat.reduceEqDiff, Nat.reduceAdd, reduceIte, reduceCtorEq, h0, h1, h5, hlen, hix, hel, hixw, helw, hnq] <;> exact rfl) | exact rfl)); all_goals try (refine fun (hb : _ = _) => ?_; try simp only [Zu, ne_eq, reduceCtorEq] at hb)) | (apply rk_gd_u; · simp [evl])))
            refine rn_nil ?_; refine lpq_r ?_; exact ⟨rfl, .inr ⟨rfl, (by (first | (simp (disch := omega) only [evl, Nat.reduceEqDiff, Nat.reduceAdd, reduceIte, reduceCtorEq] <;> exact rfl) | exact rfl)), fun h => hq (by rw [h])⟩⟩
        · (repeat' (first | refine Z ?_ | refine Zq ?_ | refine rn_blk_x (by decide) ?_ | ((first | refine' Y ?_ ?_ | refine' X ?_ ?_ ?_); rotate_left; (· (first | (simp (disch := omega) only [evl, Nat.reduceEqDiff, Nat.reduceAdd, reduceIte, reduceCtorEq, h0, h1, h5, hlen] <;> exact rfl) | exact rfl)); all_goals try (refine fun (hb : _ = _) => ?_; try simp only [Zu, ne_eq, reduceCtorEq] at hb)) | (apply rk_gd_u; · simp [evl])))
          refine rn_nil ?_; refine lpq_e ?_
          refine ⟨rfl, .inl ⟨rfl, ?_⟩⟩
          refine List.ext_getElem hlm fun j h1 h2 => ?_
          have := hall j (by omega)
          simpa [exG, List.getD_eq_getElem?_getD, h1, h2] using this
      · exact ⟨0, by omega, by omega, (by (first | (simp (disch := omega) only [evl, Nat.reduceEqDiff, Nat.reduceAdd, reduceIte, reduceCtorEq] <;> exact rfl) | exact rfl)), (by (first | (simp (disch := omega) only [evl, Nat.reduceEqDiff, Nat.reduceAdd, reduceIte, reduceCtorEq] <;> exact rfl) | exact rfl)), (by (first | (simp (disch := omega) only [evl, Nat.reduceEqDiff, Nat.reduceAdd, reduceIte, reduceCtorEq] <;> exact rfl) | exact rfl)), fun j hj => by omega, rfl⟩
    · rintro ex T' H' ⟨rfl, h⟩
      rcases h with ⟨rfl, h⟩ | ⟨rfl, h4, h⟩
      · (repeat' (first | refine Z ?_ | refine Zq ?_ | refine rn_blk_x (by decide) ?_ | ((first | refine' Y ?_ ?_ | refine' X ?_ ?_ ?_); rotate_left; (· (first | (simp (disch := omega) only [evl, Nat.reduceEqDiff, Nat.reduceAdd, reduceIte, reduceCtorEq] <;> exact rfl) | exact rfl)); all_goals try (refine fun (hb : _ = _) => ?_; try simp only [Zu, ne_eq, reduceCtorEq] at hb)) | (apply rk_gd_u; · simp [evl])))
        refine rn_nil ?_
        refine fq_ret (resV_1 _ _) ⟨?_, rfl⟩
        (simp (disch := omega) only [evl, Nat.reduceEqDiff, Nat.reduceAdd, reduceIte, reduceCtorEq]) <;> simp [h]
      · (repeat' (first | refine Z ?_ | refine Zq ?_ | refine rn_blk_x (by decide) ?_ | ((first | refine' Y ?_ ?_ | refine' X ?_ ?_ ?_); rotate_left; (· (first | (simp (disch := omega) only [evl, Nat.reduceEqDiff, Nat.reduceAdd, reduceIte, reduceCtorEq] <;> exact rfl) | exact rfl)); all_goals try (refine fun (hb : _ = _) => ?_; try simp only [Zu, ne_eq, reduceCtorEq] at hb)) | (apply rk_gd_u; · simp [evl])))
        refine rn_nil ?_
        refine fq_ret (resV_1 _ _) ⟨?_, rfl⟩
        rw [h4]; simp [h]
  · (repeat' (first | refine Z ?_ | refine Zq ?_ | refine rn_blk_x (by decide) ?_ | ((first | refine' Y ?_ ?_ | refine' X ?_ ?_ ?_); rotate_left; (· (first | (simp (disch := omega) only [evl, Nat.reduceEqDiff, Nat.reduceAdd, reduceIte, reduceCtorEq, hlen, hlenw] <;> exact rfl) | exact rfl)); all_goals try (refine fun (hb : _ = _) => ?_; try simp only [Zu, ne_eq, reduceCtorEq] at hb)) | (apply rk_gd_u; · simp [evl])))
    refine rn_nil ?_
    refine fq_ret (resV_1 _ _) ⟨?_, rfl⟩
    (simp (disch := omega) only [evl, Nat.reduceEqDiff, Nat.reduceAdd, reduceIte, reduceCtorEq])
    simp only [show ¬ l = m from fun h => hlm (by rw [h]), decide_false]

theorem app_zero {e z b i : Nat} {H : AH} {x : AV} {new : Ce} {op' : Bool} {e' z' : Nat} {row : List AV} (hx : lenOf x = some 0) (hsrc : srcCells z x 0 H = some new) (h1 : new.one = true) (hnl : new.l = []) (hr : Row H i false op' e' z' row) (hh : H.hide = []) (hlo : H.lo ≤ i) :
    ∃ H', appX e z b [.sl i 0 0 0 false, x] H = some (.sl i 0 0 0 false, H') ∧ Row H' i false op' e' z' row ∧ HP (· ≠ i) H H' ∧ H'.next = H.next := by
  obtain ⟨cc, h2, rfl⟩ := hr
  obtain ⟨c', h3, h4⟩ := Ce.over_ex (x := new) (c := cc) (o := 0) (by rw [hnl]; exact Nat.zero_le _)
  refine ⟨H.put i (.cells c' e' z' op' false), ?_, ⟨c', AH.get_put hh _ _, by rw [h4, hnl]; simp⟩, HP.put _ _ _, rfl⟩
  show orec none (fun n => orec none (fun new => brec none (appS e z b n new (.sl i 0 0 0 false) H) new.one) (srcF z x n H)) (lenOf x) = _
  rw [hx]
  show orec none (fun new => brec none (appS e z b 0 new (.sl i 0 0 0 false) H) new.one) (srcF z x 0 H) = _
  rw [srcF_eq, hsrc]
  show brec none (appS e z b 0 new (.sl i 0 0 0 false) H) new.one = _
  rw [h1]
  show orec none (fun H' => some (AV.sl i 0 (Nat.add 0 0) 0 false, H')) (writeCF H i (Nat.add 0 (Nat.mul 0 z)) new) = _
  rw [writeCF_eq, show Nat.add 0 (Nat.mul 0 z) = 0 from by rw [show Nat.mul 0 z = 0 from Nat.zero_mul z]]
  have : H.writeC i 0 new = some (H.put i (.cells c' e' z' op' false)) := by
    unfold AH.writeC
    rw [show Nat.ble H.lo i = true from Nat.ble_eq_true_of_le hlo, h2]
    simp only [h1, h3]
  rw [this]; rfl

theorem copyX_ok (H : AH) (v : AV) (l : List (Int × Int)) (hs : SlX H v l) (hh : H.hide = []) (hlo : H.lo ≤ H.next) (hl : l.length ≤ 1000000) :
    FnE look 11 [v] H fun r H' => HX H H' ∧ ∃ i c op op' e z, r = .sl i 0 l.length c op ∧ Row H' i false op' e z (exC l) ∧ H.next ≤ i ∧ i < H'.next := by
  refine fn_intro f11_eq (noext rfl) rfl ?_
  unfold f11c
  (repeat' (first | refine Z ?_ | refine Zq ?_ | refine rn_blk_x (by decide) ?_ | ((first | refine' Y ?_ ?_ | refine' X ?_ ?_ ?_); rotate_left; (· (first | (simp (disch := omega) only [evl, Nat.reduceEqDiff, Nat.reduceAdd, reduceIte, reduceCtorEq] <;> exact rfl) | exact rfl)); all_goals try (refine fun (hb : _ = _) => ?_; try simp only [Zu, ne_eq, reduceCtorEq] at hb)) | (apply rk_gd_u; · simp [evl])))
  obtain ⟨H1, hb1, hx1, hn1, hr1⟩ := bs_nil (s := 2) (e := 43) (z := .agg [.int .i64 0, .int .i64 0]) hh
  apply rk_hn
  · (simp (disch := omega) only [evl, Nat.reduceEqDiff, Nat.reduceAdd, reduceIte, reduceCtorEq])
    exact hb1
  simp only [hOut_f]
  (repeat' (first | refine Z ?_ | refine Zq ?_ | refine rn_blk_x (by decide) ?_ | ((first | refine' Y ?_ ?_ | refine' X ?_ ?_ ?_); rotate_left; (· (first | (simp (disch := omega) only [evl, Nat.reduceEqDiff, Nat.reduceAdd, reduceIte, reduceCtorEq] <;> exact rfl) | exact rfl)); all_goals try (refine fun (hb : _ = _) => ?_; try simp only [Zu, ne_eq, reduceCtorEq] at hb)) | (apply rk_gd_u; · simp [evl])))
  have hs1 : SlX H1 v l := hs.hx hx1
  obtain ⟨new, hsrc, hnl⟩ := hs1.src
  have hone : new.one = true := one_of_l (by rw [hnl]; exact exC_one l)
  by_cases he : l = []
  · subst he
    obtain ⟨H2, happ, hr2, hp2, hn2⟩ := app_zero (e := 43) (z := 2) (b := 16) (x := v) hs1.is.lenOf hsrc hone hnl hr1 (hx1.hide.trans hh) (by rw [hx1.lo]; exact hlo)
    apply rk_hn
    · (simp (disch := omega) only [evl, Nat.reduceEqDiff, Nat.reduceAdd, reduceIte, reduceCtorEq])
      exact happ
    simp only [hOut_f]
    (repeat' (first | refine Z ?_ | refine Zq ?_ | refine rn_blk_x (by decide) ?_ | ((first | refine' Y ?_ ?_ | refine' X ?_ ?_ ?_); rotate_left; (· (first | (simp (disch := omega) only [evl, Nat.reduceEqDiff, Nat.reduceAdd, reduceIte, reduceCtorEq] <;> exact rfl) | exact rfl)); all_goals try (refine fun (hb : _ = _) => ?_; try simp only [Zu, ne_eq, reduceCtorEq] at hb)) | (apply rk_gd_u; · simp [evl])))
    refine rn_nil ?_; refine fq_ret (resV_1 _ _) ⟨?_, H.next, 0, false, false, 43, 2, ?_, hr2, Nat.le_refl _, by omega⟩
    · exact ((hx1.hp fun _ => True).trans hp2 (r := fun _ => True) fun j hj _ => ⟨trivial, by omega⟩).hx fun _ _ => trivial
    · (simp (disch := omega) only [evl, Nat.reduceEqDiff, Nat.reduceAdd, reduceIte, reduceCtorEq]); rfl
  · have hl0 : l.length ≠ 0 := fun h => he (List.eq_nil_of_length_eq_zero h)
    obtain ⟨H2, happ, hx2, hn2, hr2⟩ := app_new (e := 43) (z := 2) (b := 16) (i := H.next) (o := 0) (l := 0) (c := 0) (x := v) hs1.is.lenOf hsrc hone hr1 (by simp) (by omega) (by omega) (by omega) (hx1.hide.trans hh)
    apply rk_hn
    · (simp (disch := omega) only [evl, Nat.reduceEqDiff, Nat.reduceAdd, reduceIte, reduceCtorEq])
      exact happ
    simp only [hOut_f]
    (repeat' (first | refine Z ?_ | refine Zq ?_ | refine rn_blk_x (by decide) ?_ | ((first | refine' Y ?_ ?_ | refine' X ?_ ?_ ?_); rotate_left; (· (first | (simp (disch := omega) only [evl, Nat.reduceEqDiff, Nat.reduceAdd, reduceIte, reduceCtorEq] <;> exact rfl) | exact rfl)); all_goals try (refine fun (hb : _ = _) => ?_; try simp only [Zu, ne_eq, reduceCtorEq] at hb)) | (apply rk_gd_u; · simp [evl])))
    refine rn_nil ?_; refine fq_ret (resV_1 _ _) ⟨hx1.trans hx2, H1.next, 0 + l.length, true, true, 43, 2, ?_, ?_, by omega, by omega⟩
    · (simp (disch := omega) only [evl, Nat.reduceEqDiff, Nat.reduceAdd, reduceIte, reduceCtorEq])
    · rw [hnl] at hr2; simpa using hr2

theorem Ap.stN {H : AH} {s : AV} {n e z N k : Nat} {l : List AV} {v : AV} (h : Ap H s n l e z N) (hk : k < n) (hh : H.hide = []) (hlo : H.lo ≤ N) (hv : v.cells.length = z) (h1 : v.cells.all AV.oneCell = true) :
    ∃ H' l', Go.Ev.stN z (elA z s k) v H = some H' ∧ Ap H' s n l' e z N ∧ HP (blkNe s) H H' ∧ H'.next = H.next := by
  obtain ⟨h0, ⟨rfl, rfl⟩ | ⟨i, rfl, hr, hN, hi⟩⟩ := h
  · omega
  · have hle : (k + 1) * z ≤ n * z := Nat.mul_le_mul_right z hk
    rw [Nat.add_mul] at hle
    obtain ⟨H', h1, h2, h3, h4⟩ := hr.stN (L := look) (t := 0) (v := v) (k := k * z) (s := z) hh (by omega) hv (one_of_l (by rw [toC_l]; exact h1)) (by omega)
    refine ⟨H', _, ?_, ⟨?_, .inr ⟨i, rfl, h2, hN, by omega⟩⟩, h3.mono fun j hj hb => fun h => hb 0 n n true (by rw [h]), h4⟩
    · show Go.Ev.stN z (.ptr i (0 + k * z)) v H = _
      rw [Nat.zero_add]; exact h1
    · simp only [List.length_append, List.length_take, List.length_drop, hv]; omega

theorem overX_ok (H : AH) (o : AV) (n N : Nat) (cs : List AV) (hap : Ap H o n cs 43 2 N) (hh : H.hide = []) (hlo : H.lo ≤ N) (hn : n ≤ 1000000) :
    FnE look 15 [o] H fun r H' => HP (blkNe o) H H' := by
  refine fn_intro f15_eq (noext rfl) rfl ?_
  unfold f15c
  have hlen : ∀ H', fstO (builtinF .len look [22] [o] H') = some (.int .i64 n) := fun H' => len_el u22 hap.isSl
  (repeat' (first | refine Z ?_ | refine Zq ?_ | refine rn_blk_x (by decide) ?_ | ((first | refine' Y ?_ ?_ | refine' X ?_ ?_ ?_); rotate_left; (· (first | (simp (disch := omega) only [evl, Nat.reduceEqDiff, Nat.reduceAdd, reduceIte, reduceCtorEq] <;> exact rfl) | exact rfl)); all_goals try (refine fun (hb : _ = _) => ?_; try simp only [Zu, ne_eq, reduceCtorEq] at hb)) | (apply rk_gd_u; · simp [evl])))
  refine rc_loop (R := fun ex T' H' => ex = .exit 0 ∧ HP (blkNe o) H H') ?_ ?_
  · refine lp_ind f15l0_eq (fun k T H' => ∃ (i : Nat) (cs : List AV), k = n - i ∧ i ≤ n ∧ gT T 0 = o ∧ gT T 2 = .int .i64 i ∧ HP (blkNe o) H H' ∧ Ap H' o n cs 43 2 N) _ ?_ n _ _ ?_
    · intro k T H' hI
      obtain ⟨i, cs, hk, hi, h0, h2, hp, hap⟩ := hI
      unfold f15l0
      by_cases hlt : i < n
      · have hix := @ix_el _ _ _ hap.isSl
        have hb7 := build43 (-7) (-7)
        (repeat' (first | refine Z ?_ | refine Zq ?_ | refine rn_blk_x (by decide) ?_ | ((first | refine' Y ?_ ?_ | refine' X ?_ ?_ ?_); rotate_left; (· (first | (simp (disch := omega) only [evl, Nat.reduceEqDiff, Nat.reduceAdd, reduceIte, reduceCtorEq, h0, h2, hlen, hix, hb7] <;> exact rfl) | exact rfl)); all_goals try (refine fun (hb : _ = _) => ?_; try simp only [Zu, ne_eq, reduceCtorEq] at hb)) | (apply rk_gd_u; · simp [evl])))
        obtain ⟨H3, cs3, hst, hap3, hp3, hn3⟩ := Ap.stN (v := exV (-7, -7)) hap hlt (hp.hide.trans hh) (by rw [hp.lo]; exact hlo) rfl rfl
        apply rk_st
        · (simp (disch := omega) only [evl, Nat.reduceEqDiff, Nat.reduceAdd, reduceIte, reduceCtorEq])
          exact hst
        simp only [hOut_f]
        (repeat' (first | refine Z ?_ | refine Zq ?_ | refine rn_blk_x (by decide) ?_ | ((first | refine' Y ?_ ?_ | refine' X ?_ ?_ ?_); rotate_left; (· (first | (simp (disch := omega) only [evl, Nat.reduceEqDiff, Nat.reduceAdd, reduceIte, reduceCtorEq, h2] <;> exact rfl) | exact rfl)); all_goals try (refine fun (hb : _ = _) => ?_; try simp only [Zu, ne_eq, reduceCtorEq] at hb)) | (apply rk_gd_u; · simp [evl])))
        refine rn_nil ?_; refine lpq_n (n - (i + 1)) (by omega) ?_
        exact ⟨i + 1, cs3, rfl, by omega, (by (first | (simp (disch := omega) only [evl, Nat.reduceEqDiff, Nat.reduceAdd, reduceIte, reduceCtorEq, h0] <;> exact rfl) | exact rfl)), (by (first | (simp (disch := omega) only [evl, Nat.reduceEqDiff, Nat.reduceAdd, reduceIte, reduceCtorEq] <;> exact rfl) | exact rfl)), hp.trans hp3 (r := blkNe o) fun j hj h => ⟨h, h⟩, hap3⟩
      · (repeat' (first | refine Z ?_ | refine Zq ?_ | refine rn_blk_x (by decide) ?_ | ((first | refine' Y ?_ ?_ | refine' X ?_ ?_ ?_); rotate_left; (· (first | (simp (disch := omega) only [evl, Nat.reduceEqDiff, Nat.reduceAdd, reduceIte, reduceCtorEq, h0, h2, hlen] <;> exact rfl) | exact rfl)); all_goals try (refine fun (hb : _ = _) => ?_; try simp only [Zu, ne_eq, reduceCtorEq] at hb)) | (apply rk_gd_u; · simp [evl])))
        refine rn_nil ?_; refine lpq_e ?_
        exact ⟨rfl, hp⟩
    · exact ⟨0, cs, by omega, by omega, (by (first | (simp (disch := omega) only [evl, Nat.reduceEqDiff, Nat.reduceAdd, reduceIte, reduceCtorEq] <;> exact rfl) | exact rfl)), (by (first | (simp (disch := omega) only [evl, Nat.reduceEqDiff, Nat.reduceAdd, reduceIte, reduceCtorEq] <;> exact rfl) | exact rfl)), HP.refl _ _, hap⟩
  · rintro ex T' H' ⟨rfl, hp⟩
    (repeat' (first | refine Z ?_ | refine Zq ?_ | refine rn_blk_x (by decide) ?_ | ((first | refine' Y ?_ ?_ | refine' X ?_ ?_ ?_); rotate_left; (· (first | (simp (disch := omega) only [evl, Nat.reduceEqDiff, Nat.reduceAdd, reduceIte, reduceCtorEq] <;> exact rfl) | exact rfl)); all_goals try (refine fun (hb : _ = _) => ?_; try simp only [Zu, ne_eq, reduceCtorEq] at hb)) | (apply rk_gd_u; · simp [evl])))
    refine rn_nil ?_; exact fq_nor (resV_0 _) hp
end Go.Proofs.Ytnkomaedmblemaa

set_option linter.unusedSimpArgs false
set_option linter.unusedVariables false
set_option maxRecDepth 100000
namespace Go.Proofs.Ytnkomaedmblemaa
open Go.Ev Exl
open Ra Rb Rc Rd Re Rf Rg Rh Ri Rj Rk Rl Rm Rn Ro Rp Rq Rr

theorem Ap.blk {H : AH} {s : AV} {n e z N : Nat} {l : List AV} (h : Ap H s n l e z N) {j : Nat} (hj : j < N) : blkNe s j := by
  obtain ⟨_, ⟨rfl, _⟩ | ⟨i, rfl, _, hN, _⟩⟩ := h
  · exact blkNe_nil _
  · exact blkNe_sl (by omega)
theorem SlZ.lt {H : AH} {v : AV} {n z : Nat} {cs : List AV} (h : SlZ H v n z cs) {i o m c : Nat} {op : Bool} (hv : v = .sl i o m c op) : i < H.next := by
  subst hv
  rcases h.is with ⟨h, _⟩ | ⟨i', o', c', op', h, hi, _⟩
  · cases h
  · cases h; exact hi

end Go.Proofs.Ytnkomaedmblemaa
