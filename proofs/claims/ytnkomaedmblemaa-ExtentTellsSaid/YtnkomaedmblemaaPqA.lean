import Derived.Test.YtnkomaedmblemaaExB
set_option linter.unusedSimpArgs false
set_option linter.unusedVariables false
set_option maxRecDepth 100000
namespace Go.Proofs.Ytnkomaedmblemaa
open Go.Ev Exl
open Ra Rb Rc Rd Re Rf Rg Rh Ri Rj Rk Rl Rm Rn Ro Rp Rq Rr

/-! ### Rows of whole numbers, and their order -/
namespace PQ
abbrev g (xs : List Int) (k : Nat) : Int := xs.getD k 0
theorem g_el {xs : List Int} {a : Nat} (h : a < xs.length) : g xs a = xs[a] := by
  simp [g, List.getD_eq_getElem?_getD, List.getElem?_eq_getElem h]
theorem g_get {xs : List Int} {k : Nat} (h : k < xs.length) : xs[k]? = some (g xs k) := by
  rw [g_el h, List.getElem?_eq_getElem h]
theorem g_mem {xs : List Int} {k : Nat} (h : k < xs.length) : g xs k ∈ xs := by rw [g_el h]; exact List.getElem_mem h
/-- Sorted from a on, ahead of b. -/
def srt (xs : List Int) (a b : Nat) : Prop := ∀ s t, a ≤ s → s < t → t < b → g xs s ≤ g xs t
/-- The same elements; outside of [a, b) at their places. -/
structure Kp (xs ys : List Int) (a b : Nat) : Prop where
  len : ys.length = xs.length
  perm : ys.Perm xs
  out : ∀ j, j < a ∨ b ≤ j → ys[j]? = xs[j]?
theorem Kp.refl (xs : List Int) (a b : Nat) : Kp xs xs a b := ⟨rfl, List.Perm.refl _, fun _ _ => rfl⟩
theorem Kp.trans {xs ys zs : List Int} {a b a1 b1 a2 b2 : Nat} (h : Kp xs ys a1 b1) (h' : Kp ys zs a2 b2) (h1 : a ≤ a1) (h2 : b1 ≤ b) (h3 : a ≤ a2) (h4 : b2 ≤ b) : Kp xs zs a b :=
  ⟨h'.len.trans h.len, h'.perm.trans h.perm, fun j hj => (h'.out j (by omega)).trans (h.out j (by omega))⟩
theorem Kp.wide {xs ys : List Int} {a b a1 b1 : Nat} (h : Kp xs ys a1 b1) (h1 : a ≤ a1) (h2 : b1 ≤ b) : Kp xs ys a b := ⟨h.len, h.perm, fun j hj => h.out j (by omega)⟩
theorem Kp.key {xs ys : List Int} {a b : Nat} (h : Kp xs ys a b) {j : Nat} (hj : j < a ∨ b ≤ j) : g ys j = g xs j := by
  unfold g
  rw [List.getD_eq_getElem?_getD, List.getD_eq_getElem?_getD, h.out j hj]
theorem Kp.mid {xs ys : List Int} {a b : Nat} (h : Kp xs ys a b) (hab : a ≤ b) (hb : b ≤ xs.length) : ((ys.drop a).take (b - a)).Perm ((xs.drop a).take (b - a)) := by
  have hl := h.len
  have e : ∀ zs : List Int, zs = zs.take a ++ (zs.drop a).take (b - a) ++ zs.drop b := fun zs => by
    have h1 : (zs.drop a).take (b - a) ++ (zs.drop a).drop (b - a) = zs.drop a := List.take_append_drop _ _
    rw [List.drop_drop, show a + (b - a) = b from by omega] at h1
    rw [List.append_assoc, h1, List.take_append_drop]
  have e1 : ys.take a = xs.take a := List.ext_getElem? fun j => by
    by_cases hj : j < a
    · rw [List.getElem?_take_of_lt hj, List.getElem?_take_of_lt hj, h.out j (.inl hj)]
    · rw [List.getElem?_eq_none (by simp; omega), List.getElem?_eq_none (by simp; omega)]
  have e2 : ys.drop b = xs.drop b := List.ext_getElem? fun j => by
    rw [List.getElem?_drop, List.getElem?_drop, h.out _ (.inr (by omega))]
  have hp := h.perm
  rw [e ys, e xs, e1, e2] at hp
  exact (List.perm_append_left_iff _).1 ((List.perm_append_right_iff _).1 hp)
theorem Kp.inn {xs ys : List Int} {a b : Nat} (h : Kp xs ys a b) (hab : a ≤ b) (hb : b ≤ xs.length) {s : Nat} (h1 : a ≤ s) (h2 : s < b) : ∃ s', a ≤ s' ∧ s' < b ∧ g ys s = g xs s' := by
  have hl := h.len
  have hm := (h.mid hab hb).mem_iff (a := g ys s)
  have hin : g ys s ∈ (ys.drop a).take (b - a) := by
    rw [g_el (by omega)]
    rw [List.mem_iff_getElem?]
    exact ⟨s - a, by rw [List.getElem?_take_of_lt (by omega), List.getElem?_drop, show a + (s - a) = s from by omega, List.getElem?_eq_getElem (by omega)]⟩
  obtain ⟨k, hk⟩ := List.mem_iff_getElem?.1 (hm.1 hin)
  have hkl : k < b - a := by
    have := (List.getElem?_eq_some_iff.1 hk).1
    simp at this; omega
  rw [List.getElem?_take_of_lt hkl, List.getElem?_drop] at hk
  refine ⟨a + k, by omega, by omega, ?_⟩
  rw [g_get (by omega)] at hk
  exact (Option.some.inj hk).symm
theorem srt_kp {xs ys : List Int} {a b lo hi : Nat} (h : srt xs lo hi) (hk : Kp xs ys a b) (hd : hi ≤ a ∨ b ≤ lo) : srt ys lo hi := fun s t h1 h2 h3 => by
  rw [hk.key (by omega), hk.key (by omega)]; exact h s t h1 h2 h3
/-- All of [a, b) have a property, that holds of numbers. -/
def al (p : Int → Prop) (xs : List Int) (a b : Nat) : Prop := ∀ s, a ≤ s → s < b → p (g xs s)
theorem al_kp {p : Int → Prop} {xs ys : List Int} {a b : Nat} (h : al p xs a b) (hk : Kp xs ys a b) (hb : b ≤ xs.length) : al p ys a b := fun s h1 h2 => by
  obtain ⟨s', h3, h4, h5⟩ := hk.inn (by omega) hb h1 h2
  rw [h5]; exact h s' h3 h4
theorem al_out {p : Int → Prop} {xs ys : List Int} {a b lo hi : Nat} (h : al p xs lo hi) (hk : Kp xs ys a b) (hd : hi ≤ a ∨ b ≤ lo) : al p ys lo hi := fun s h1 h2 => by
  rw [hk.key (by omega)]; exact h s h1 h2
theorem al_sub {p : Int → Prop} {xs : List Int} {a b lo hi : Nat} (h : al p xs a b) (h1 : a ≤ lo) (h2 : hi ≤ b) : al p xs lo hi := fun s h3 h4 => h s (by omega) (by omega)
/-- Two elements put for each other. -/
def sw (xs : List Int) (a b : Nat) : List Int := (xs.set a (g xs b)).set b (g xs a)
theorem sw_len (xs : List Int) (a b : Nat) : (sw xs a b).length = xs.length := by simp [sw]
theorem sw_kp {xs : List Int} {a b lo hi : Nat} (ha : a < xs.length) (hb : b < xs.length) (h1 : lo ≤ a) (h2 : a < hi) (h3 : lo ≤ b) (h4 : b < hi) : Kp xs (sw xs a b) lo hi := by
  refine ⟨by simp [sw], ?_, fun j hj => ?_⟩
  · unfold sw
    rw [g_el ha, g_el hb]
    exact List.set_set_perm ha hb
  · unfold sw
    rw [List.getElem?_set, if_neg (by omega), List.getElem?_set, if_neg (by omega)]
theorem sw_key {xs : List Int} {a b : Nat} (ha : a < xs.length) (hb : b < xs.length) (j : Nat) : g (sw xs a b) j = if j = b then g xs a else if j = a then g xs b else g xs j := by
  unfold sw g
  rw [List.getD_eq_getElem?_getD, List.getElem?_set]
  by_cases hj : j = b
  · subst hj; rw [if_pos rfl, if_pos rfl, if_pos (by rw [List.length_set]; exact hb)]; rfl
  · rw [if_neg (fun h => hj h.symm), if_neg hj, List.getElem?_set]
    by_cases hj2 : j = a
    · subst hj2; rw [if_pos rfl, if_pos rfl, if_pos ha]; rfl
    · rw [if_neg (fun h => hj2 h.symm), if_neg hj2, List.getD_eq_getElem?_getD]
theorem iC_len (xs : List Int) : (iC xs).length = xs.length := by simp [iC]
theorem iC_set (xs : List Int) (k : Nat) (v : Int) : (iC xs).set k (.int .i64 v) = iC (xs.set k v) := by simp [iC, List.map_set]
theorem rd {H : AH} {i e z k : Nat} {ro op : Bool} {xs : List Int} (h : Row H i ro op e z (iC xs)) (hk : k < xs.length) : ld1 (.ptr i k) H = some (.int .i64 (g xs k)) :=
  h.rd (by unfold iC; rw [List.getElem?_map, g_get hk]; rfl)
theorem ix {i n c : Nat} {op : Bool} {e : Int} (h0 : 0 ≤ e) (h1 : e < n) : ixS 1 (.sl i 0 n c op) (.int .i64 e) = some (.ptr i e.toNat) := by
  obtain ⟨m, rfl⟩ := Int.eq_ofNat_of_zero_le h0
  show brec none (some (AV.ptr i (0 + m * 1))) (Nat.blt m n) = _
  rw [show Nat.blt m n = true from by rw [Nat.blt_eq]; omega, Nat.zero_add, Nat.mul_one, Int.toNat_natCast]; rfl
theorem ixn {i n c : Nat} {op : Bool} {k : Nat} (h1 : k < n) : ixS 1 (.sl i 0 n c op) (.int .i64 k) = some (.ptr i k) := by
  rw [ix (by omega) (by omega), Int.toNat_natCast]
/-- data[a], data[b] = data[b], data[a] -/
theorem swap {H : AH} {i e z a b : Nat} {op : Bool} {xs : List Int} (hr : Row H i false op e z (iC xs)) (hh : H.hide = []) (hlo : H.lo ≤ i) (ha : a < xs.length) (hb : b < xs.length) :
    ∃ H1 H2, st1 look 3 (.ptr i a) (.int .i64 (g xs b)) H = some H1 ∧ st1 look 3 (.ptr i b) (.int .i64 (g xs a)) H1 = some H2 ∧ Row H2 i false op e z (iC (sw xs a b)) ∧ HP (· ≠ i) H H2 ∧ H2.next = H.next := by
  obtain ⟨H1, h1, r1, p1, n1⟩ := hr.st1 (L := look) (t := 3) (v := .int .i64 (g xs b)) (k := a) hh hlo z3 rfl (by rw [iC_len]; exact ha)
  rw [iC_set] at r1
  obtain ⟨H2, h2, r2, p2, n2⟩ := r1.st1 (L := look) (t := 3) (v := .int .i64 (g xs a)) (k := b) (p1.hide.trans hh) (by rw [p1.lo]; exact hlo) z3 rfl (by rw [iC_len, List.length_set]; exact hb)
  rw [iC_set] at r2
  exact ⟨H1, H2, h1, h2, r2, p1.trans p2 (r := (· ≠ i)) fun j hj h => ⟨h, h⟩, by omega⟩

theorem nan_ok (H : AH) (x : Int) : FnE look 81 [.int .i64 x] H fun r H' => r = .bool false ∧ H' = H := by
  refine fn_intro f81_eq (noext rfl) rfl ?_
  unfold f81c
  (repeat' (first | refine Z ?_ | refine Zq ?_ | refine rn_blk_x (by decide) ?_ | ((first | refine' Y ?_ ?_ | refine' X ?_ ?_ ?_); rotate_left; (· (first | (simp (disch := omega) only [evl, Nat.reduceEqDiff, Nat.reduceAdd, reduceIte, reduceCtorEq] <;> exact rfl) | exact rfl)); all_goals try (refine fun (hb : _ = _) => ?_; try simp only [Zu, ne_eq, reduceCtorEq] at hb)) | (apply rk_gd_u; · simp [evl])))
  refine rn_nil ?_; refine fq_ret (resV_1 _ _) ⟨?_, rfl⟩
  (simp (disch := omega) only [evl, Nat.reduceEqDiff, Nat.reduceAdd, reduceIte, reduceCtorEq])
theorem less_ok (H : AH) (x y : Int) : FnE look 69 [.int .i64 x, .int .i64 y] H fun r H' => r = .bool (decide (x < y)) ∧ H' = H := by
  refine fn_intro f69_eq (noext rfl) rfl ?_
  unfold f69c
  (repeat' (first | refine Z ?_ | refine Zq ?_ | refine rn_blk_x (by decide) ?_ | ((first | refine' Y ?_ ?_ | refine' X ?_ ?_ ?_); rotate_left; (· (first | (simp (disch := omega) only [evl, Nat.reduceEqDiff, Nat.reduceAdd, reduceIte, reduceCtorEq] <;> exact rfl) | exact rfl)); all_goals try (refine fun (hb : _ = _) => ?_; try simp only [Zu, ne_eq, reduceCtorEq] at hb)) | (apply rk_gd_u; · simp [evl])))
  refine rk_cl (by (simp (disch := omega) only [evl, Nat.reduceEqDiff, Nat.reduceAdd, reduceIte, reduceCtorEq]); exact nan_ok H x) ?_
  rintro r H1 ⟨rfl, rfl⟩
  simp only [hOut_f]
  (repeat' (first | refine Z ?_ | refine Zq ?_ | refine rn_blk_x (by decide) ?_ | ((first | refine' Y ?_ ?_ | refine' X ?_ ?_ ?_); rotate_left; (· (first | (simp (disch := omega) only [evl, Nat.reduceEqDiff, Nat.reduceAdd, reduceIte, reduceCtorEq] <;> exact rfl) | exact rfl)); all_goals try (refine fun (hb : _ = _) => ?_; try simp only [Zu, ne_eq, reduceCtorEq] at hb)) | (apply rk_gd_u; · simp [evl])))
  by_cases h : x < y
  · (repeat' (first | refine Z ?_ | refine Zq ?_ | refine rn_blk_x (by decide) ?_ | ((first | refine' Y ?_ ?_ | refine' X ?_ ?_ ?_); rotate_left; (· (first | (simp (disch := omega) only [evl, Nat.reduceEqDiff, Nat.reduceAdd, reduceIte, reduceCtorEq] <;> exact rfl) | exact rfl)); all_goals try (refine fun (hb : _ = _) => ?_; try simp only [Zu, ne_eq, reduceCtorEq] at hb)) | (apply rk_gd_u; · simp [evl])))
    refine rn_nil ?_; refine fq_ret (resV_1 _ _) ⟨?_, rfl⟩
    (simp (disch := omega) only [evl, Nat.reduceEqDiff, Nat.reduceAdd, reduceIte, reduceCtorEq])
  · (repeat' (first | refine Z ?_ | refine Zq ?_ | refine rn_blk_x (by decide) ?_ | ((first | refine' Y ?_ ?_ | refine' X ?_ ?_ ?_); rotate_left; (· (first | (simp (disch := omega) only [evl, Nat.reduceEqDiff, Nat.reduceAdd, reduceIte, reduceCtorEq] <;> exact rfl) | exact rfl)); all_goals try (refine fun (hb : _ = _) => ?_; try simp only [Zu, ne_eq, reduceCtorEq] at hb)) | (apply rk_gd_u; · simp [evl])))
    refine rn_nil ?_; refine fq_ret (resV_1 _ _) ⟨?_, rfl⟩
    (simp (disch := omega) only [evl, Nat.reduceEqDiff, Nat.reduceAdd, reduceIte, reduceCtorEq])
end PQ
end Go.Proofs.Ytnkomaedmblemaa

set_option linter.unusedSimpArgs false
set_option linter.unusedVariables false
set_option maxRecDepth 100000
namespace Go.Proofs.Ytnkomaedmblemaa
open Go.Ev Exl
open Ra Rb Rc Rd Re Rf Rg Rh Ri Rj Rk Rl Rm Rn Ro Rp Rq Rr
namespace PQ

/-- What a function on a row's part may do. -/
def Done (xs : List Int) (i a b : Nat) (op' : Bool) (H H' : AH) (q : List Int → Prop) : Prop := HP (· ≠ i) H H' ∧ ∃ ys, Row H' i false op' 3 1 (iC ys) ∧ Kp xs ys a b ∧ q ys

set_option maxHeartbeats 8000000 in
theorem insI_ok (H : AH) (xs : List Int) (i c a b : Nat) (op op' : Bool) (hr : Row H i false op' 3 1 (iC xs)) (hi : i < H.next) (hlo : H.lo ≤ i) (hh : H.hide = [])
    (hab : a ≤ b) (hb : b ≤ xs.length) (hl : xs.length ≤ 1000000) :
    FnE look 63 [.sl i 0 xs.length c op, .int .i64 a, .int .i64 b] H fun r H' => Done xs i a b op' H H' fun ys => srt ys a b := by
  refine fn_intro f63_eq (noext rfl) rfl ?_
  unfold f63c
  (repeat' (first | refine Z ?_ | refine Zq ?_ | refine rn_blk_x (by decide) ?_ | ((first | refine' Y ?_ ?_ | refine' X ?_ ?_ ?_); rotate_left; (· (first | (simp (disch := omega) only [evl, Nat.reduceEqDiff, Nat.reduceAdd, reduceIte, reduceCtorEq] <;> exact rfl) | exact rfl)); all_goals try (refine fun (hb : _ = _) => ?_; try simp only [Zu, ne_eq, reduceCtorEq] at hb)) | (apply rk_gd_u; · simp [evl])))
  refine rc_loop (R := fun ex T' H' => ex = .exit 0 ∧ Done xs i a b op' H H' fun ys => srt ys a b) ?_ ?_
  · refine lp_ind f63l0_eq (fun k T H' => ∃ (u : Nat) (ys : List Int), k = b - u ∧ a + 1 ≤ u ∧ gT T 0 = .sl i 0 xs.length c op ∧ gT T 1 = .int .i64 a ∧ gT T 2 = .int .i64 b ∧ gT T 6 = .int .i64 u ∧ u ≤ b + 1 ∧ HP (· ≠ i) H H' ∧ Row H' i false op' 3 1 (iC ys) ∧ Kp xs ys a b ∧ srt ys a u) _ ?_ (b - (a + 1)) _ _ ?_
    · intro k T H1 hI
      obtain ⟨u, ys, hk, hu, h0, h1, h2, h8, hub, hp, hrow, hkp, hst⟩ := hI
      unfold f63l0
      by_cases hlt : u < b
      · (repeat' (first | refine Z ?_ | refine Zq ?_ | refine rn_blk_x (by decide) ?_ | ((first | refine' Y ?_ ?_ | refine' X ?_ ?_ ?_); rotate_left; (· (first | (simp (disch := omega) only [evl, Nat.reduceEqDiff, Nat.reduceAdd, reduceIte, reduceCtorEq, h0, h1, h2, h8] <;> exact rfl) | exact rfl)); all_goals try (refine fun (hb : _ = _) => ?_; try simp only [Zu, ne_eq, reduceCtorEq] at hb)) | (apply rk_gd_u; · simp [evl])))
        refine rc_loop (R := fun ex T' H' => ex = .exit 2 ∧ gT T' 0 = .sl i 0 xs.length c op ∧ gT T' 1 = .int .i64 a ∧ gT T' 2 = .int .i64 b ∧ gT T' 6 = .int .i64 u ∧ HP (· ≠ i) H H' ∧ ∃ ys, Row H' i false op' 3 1 (iC ys) ∧ Kp xs ys a b ∧ srt ys a (u + 1)) ?_ ?_
        · refine lp_ind f63l1_eq (fun k T H' => ∃ (j : Nat) (ys : List Int), k = j ∧ a ≤ j ∧ j ≤ u ∧ gT T 0 = .sl i 0 xs.length c op ∧ gT T 1 = .int .i64 a ∧ gT T 2 = .int .i64 b ∧ gT T 6 = .int .i64 u ∧ gT T 7 = .int .i64 j ∧ HP (· ≠ i) H H' ∧ Row H' i false op' 3 1 (iC ys) ∧ Kp xs ys a b ∧
              (∀ s t, a ≤ s → s < t → t < u + 1 → t ≠ j → g ys s ≤ g ys t)) _ ?_ u _ _ ?_
          · intro k T H1 hI
            obtain ⟨j, ys, hk, haj, hju, h0, h1, h2, h8, h9, hp, hrow, hkp, hst⟩ := hI
            unfold f63l1
            have hyl := hkp.len
            have Hst := Hd.mk hst
            clear hst
            by_cases hja : a < j
            · have hixA := ixn (i := i) (n := xs.length) (c := c) (op := op) (k := j) (by omega)
              have hixB := ix (i := i) (n := xs.length) (c := c) (op := op) (e := (j : Int) - 1) (by omega) (by omega)
              rw [show ((j : Int) - 1).toNat = j - 1 from by omega] at hixB
              have hrdA := rd hrow (k := j) (by omega)
              have hrdB := rd hrow (k := j - 1) (by omega)
              (repeat' (first | refine Z ?_ | refine Zq ?_ | refine rn_blk_x (by decide) ?_ | ((first | refine' Y ?_ ?_ | refine' X ?_ ?_ ?_); rotate_left; (· (first | (simp (disch := omega) only [evl, Nat.reduceEqDiff, Nat.reduceAdd, reduceIte, reduceCtorEq, h0, h1, h2, h8, h9, hixA, hixB, hrdA, hrdB] <;> exact rfl) | exact rfl)); all_goals try (refine fun (hb : _ = _) => ?_; try simp only [Zu, ne_eq, reduceCtorEq] at hb)) | (apply rk_gd_u; · simp [evl])))
              refine rk_cl (by (simp (disch := omega) only [evl, Nat.reduceEqDiff, Nat.reduceAdd, reduceIte, reduceCtorEq]); exact less_ok H1 (g ys j) (g ys (j - 1))) ?_
              rintro r H2 ⟨rfl, rfl⟩
              simp only [hOut_f]
              have hsw := sw_kp (xs := ys) (a := j) (b := j - 1) (lo := a) (hi := b) (by omega) (by omega) (by omega) (by omega) (by omega) (by omega)
              have hsk := fun s => sw_key (xs := ys) (a := j) (b := j - 1) (by omega) (by omega) s
              by_cases hc : g ys j < g ys (j - 1)
              · obtain ⟨H3, H4, hs3, hs4, hr4, hp4, hn4⟩ := swap hrow (a := j) (b := j - 1) (hp.hide.trans hh) (by rw [hp.lo]; exact hlo) (by omega) (by omega)
                (repeat' (first | refine Z ?_ | refine Zq ?_ | refine rn_blk_x (by decide) ?_ | ((first | refine' Y ?_ ?_ | refine' X ?_ ?_ ?_); rotate_left; (· (first | (simp (disch := omega) only [evl, Nat.reduceEqDiff, Nat.reduceAdd, reduceIte, reduceCtorEq, h0, h1, h2, h8, h9, hixA, hixB, hrdA, hrdB] <;> exact rfl) | exact rfl)); all_goals try (refine fun (hb : _ = _) => ?_; try simp only [Zu, ne_eq, reduceCtorEq] at hb)) | (apply rk_gd_u; · simp [evl])))
                apply rk_st
                · (simp (disch := omega) only [evl, Nat.reduceEqDiff, Nat.reduceAdd, reduceIte, reduceCtorEq])
                  exact hs3
                simp only [hOut_f]
                (repeat' (first | refine Z ?_ | refine Zq ?_ | refine rn_blk_x (by decide) ?_ | ((first | refine' Y ?_ ?_ | refine' X ?_ ?_ ?_); rotate_left; (· (first | (simp (disch := omega) only [evl, Nat.reduceEqDiff, Nat.reduceAdd, reduceIte, reduceCtorEq, hixB] <;> exact rfl) | exact rfl)); all_goals try (refine fun (hb : _ = _) => ?_; try simp only [Zu, ne_eq, reduceCtorEq] at hb)) | (apply rk_gd_u; · simp [evl])))
                apply rk_st
                · (simp (disch := omega) only [evl, Nat.reduceEqDiff, Nat.reduceAdd, reduceIte, reduceCtorEq])
                  exact hs4
                simp only [hOut_f]
                (repeat' (first | refine Z ?_ | refine Zq ?_ | refine rn_blk_x (by decide) ?_ | ((first | refine' Y ?_ ?_ | refine' X ?_ ?_ ?_); rotate_left; (· (first | (simp (disch := omega) only [evl, Nat.reduceEqDiff, Nat.reduceAdd, reduceIte, reduceCtorEq, h9] <;> exact rfl) | exact rfl)); all_goals try (refine fun (hb : _ = _) => ?_; try simp only [Zu, ne_eq, reduceCtorEq] at hb)) | (apply rk_gd_u; · simp [evl])))
                refine rn_nil ?_; refine lpq_n (j - 1) (by omega) ?_
                refine ⟨j - 1, sw ys j (j - 1), rfl, by omega, by omega, (by (first | (simp (disch := omega) only [evl, Nat.reduceEqDiff, Nat.reduceAdd, reduceIte, reduceCtorEq, h0] <;> exact rfl) | exact rfl)), (by (first | (simp (disch := omega) only [evl, Nat.reduceEqDiff, Nat.reduceAdd, reduceIte, reduceCtorEq, h1] <;> exact rfl) | exact rfl)), (by (first | (simp (disch := omega) only [evl, Nat.reduceEqDiff, Nat.reduceAdd, reduceIte, reduceCtorEq, h2] <;> exact rfl) | exact rfl)), (by (first | (simp (disch := omega) only [evl, Nat.reduceEqDiff, Nat.reduceAdd, reduceIte, reduceCtorEq, h8] <;> exact rfl) | exact rfl)), ?_, hp.trans hp4 (r := (· ≠ i)) fun i hi h => ⟨h, h⟩, hr4, hkp.trans hsw (Nat.le_refl _) (Nat.le_refl _) (Nat.le_refl _) (Nat.le_refl _), ?_⟩
                · (simp (disch := omega) only [evl, Nat.reduceEqDiff, Nat.reduceAdd, reduceIte, reduceCtorEq])
                  rw [show (j : Int) - 1 = ((j - 1 : Nat) : Int) from by omega]
                · intro s t hs hst htu htj
                  rw [hsk s, hsk t]
                  by_cases h1 : t = j
                  · rw [if_neg htj, if_pos h1]
                    by_cases h2 : s = j - 1
                    · rw [if_pos h2]; omega
                    · rw [if_neg h2, if_neg (by omega)]
                      exact Hst.out s (j - 1) hs (by omega) (by omega) (by omega)
                  · rw [if_neg htj, if_neg h1]
                    by_cases h2 : s = j - 1
                    · rw [if_pos h2]; exact Hst.out j t (by omega) (by omega) htu h1
                    · rw [if_neg h2]
                      by_cases h3 : s = j
                      · rw [if_pos h3]; exact Hst.out (j - 1) t (by omega) (by omega) htu h1
                      · rw [if_neg h3]; exact Hst.out s t hs hst htu h1
              · (repeat' (first | refine Z ?_ | refine Zq ?_ | refine rn_blk_x (by decide) ?_ | ((first | refine' Y ?_ ?_ | refine' X ?_ ?_ ?_); rotate_left; (· (first | (simp (disch := omega) only [evl, Nat.reduceEqDiff, Nat.reduceAdd, reduceIte, reduceCtorEq, h0, h1, h2, h8, h9, hixA, hixB, hrdA, hrdB] <;> exact rfl) | exact rfl)); all_goals try (refine fun (hb : _ = _) => ?_; try simp only [Zu, ne_eq, reduceCtorEq] at hb)) | (apply rk_gd_u; · simp [evl])))
                refine rn_nil ?_; refine lpq_e ?_
                refine ⟨rfl, (by (first | (simp (disch := omega) only [evl, Nat.reduceEqDiff, Nat.reduceAdd, reduceIte, reduceCtorEq, h0] <;> exact rfl) | exact rfl)), (by (first | (simp (disch := omega) only [evl, Nat.reduceEqDiff, Nat.reduceAdd, reduceIte, reduceCtorEq, h1] <;> exact rfl) | exact rfl)), (by (first | (simp (disch := omega) only [evl, Nat.reduceEqDiff, Nat.reduceAdd, reduceIte, reduceCtorEq, h2] <;> exact rfl) | exact rfl)), (by (first | (simp (disch := omega) only [evl, Nat.reduceEqDiff, Nat.reduceAdd, reduceIte, reduceCtorEq, h8] <;> exact rfl) | exact rfl)), hp, ys, hrow, hkp, ?_⟩
                intro s t hs hst htu
                by_cases htj : t = j
                · subst htj
                  by_cases h2 : s = t - 1
                  · subst h2; omega
                  · have := Hst.out s (t - 1) hs (by omega) (by omega) (by omega); omega
                · exact Hst.out s t hs hst htu htj
            · (repeat' (first | refine Z ?_ | refine Zq ?_ | refine rn_blk_x (by decide) ?_ | ((first | refine' Y ?_ ?_ | refine' X ?_ ?_ ?_); rotate_left; (· (first | (simp (disch := omega) only [evl, Nat.reduceEqDiff, Nat.reduceAdd, reduceIte, reduceCtorEq, h0, h1, h2, h8, h9] <;> exact rfl) | exact rfl)); all_goals try (refine fun (hb : _ = _) => ?_; try simp only [Zu, ne_eq, reduceCtorEq] at hb)) | (apply rk_gd_u; · simp [evl])))
              refine rn_nil ?_; refine lpq_e ?_
              refine ⟨rfl, (by (first | (simp (disch := omega) only [evl, Nat.reduceEqDiff, Nat.reduceAdd, reduceIte, reduceCtorEq, h0] <;> exact rfl) | exact rfl)), (by (first | (simp (disch := omega) only [evl, Nat.reduceEqDiff, Nat.reduceAdd, reduceIte, reduceCtorEq, h1] <;> exact rfl) | exact rfl)), (by (first | (simp (disch := omega) only [evl, Nat.reduceEqDiff, Nat.reduceAdd, reduceIte, reduceCtorEq, h2] <;> exact rfl) | exact rfl)), (by (first | (simp (disch := omega) only [evl, Nat.reduceEqDiff, Nat.reduceAdd, reduceIte, reduceCtorEq, h8] <;> exact rfl) | exact rfl)), hp, ys, hrow, hkp, ?_⟩
              intro s t hs hst htu
              exact Hst.out s t hs hst htu (by omega)
          · exact ⟨u, ys, rfl, by omega, Nat.le_refl _, (by (first | (simp (disch := omega) only [evl, Nat.reduceEqDiff, Nat.reduceAdd, reduceIte, reduceCtorEq, h0] <;> exact rfl) | exact rfl)), (by (first | (simp (disch := omega) only [evl, Nat.reduceEqDiff, Nat.reduceAdd, reduceIte, reduceCtorEq, h1] <;> exact rfl) | exact rfl)), (by (first | (simp (disch := omega) only [evl, Nat.reduceEqDiff, Nat.reduceAdd, reduceIte, reduceCtorEq, h2] <;> exact rfl) | exact rfl)), (by (first | (simp (disch := omega) only [evl, Nat.reduceEqDiff, Nat.reduceAdd, reduceIte, reduceCtorEq, h8] <;> exact rfl) | exact rfl)), (by (first | (simp (disch := omega) only [evl, Nat.reduceEqDiff, Nat.reduceAdd, reduceIte, reduceCtorEq] <;> exact rfl) | exact rfl)), hp, hrow, hkp, fun s t hs hst' htu htj => hst s t hs hst' (by omega)⟩
        · rintro ex T' H2 ⟨rfl, h0, h1, h2, h8, hp, ys', hrow, hkp, hst⟩
          (repeat' (first | refine Z ?_ | refine Zq ?_ | refine rn_blk_x (by decide) ?_ | ((first | refine' Y ?_ ?_ | refine' X ?_ ?_ ?_); rotate_left; (· (first | (simp (disch := omega) only [evl, Nat.reduceEqDiff, Nat.reduceAdd, reduceIte, reduceCtorEq, h8] <;> exact rfl) | exact rfl)); all_goals try (refine fun (hb : _ = _) => ?_; try simp only [Zu, ne_eq, reduceCtorEq] at hb)) | (apply rk_gd_u; · simp [evl])))
          refine rn_nil ?_; refine lpq_n (b - (u + 1)) (by omega) ?_
          exact ⟨u + 1, ys', rfl, by omega, (by (first | (simp (disch := omega) only [evl, Nat.reduceEqDiff, Nat.reduceAdd, reduceIte, reduceCtorEq, h0] <;> exact rfl) | exact rfl)), (by (first | (simp (disch := omega) only [evl, Nat.reduceEqDiff, Nat.reduceAdd, reduceIte, reduceCtorEq, h1] <;> exact rfl) | exact rfl)), (by (first | (simp (disch := omega) only [evl, Nat.reduceEqDiff, Nat.reduceAdd, reduceIte, reduceCtorEq, h2] <;> exact rfl) | exact rfl)), (by (first | (simp (disch := omega) only [evl, Nat.reduceEqDiff, Nat.reduceAdd, reduceIte, reduceCtorEq] <;> exact rfl) | exact rfl)), by omega, hp, hrow, hkp, hst⟩
      · (repeat' (first | refine Z ?_ | refine Zq ?_ | refine rn_blk_x (by decide) ?_ | ((first | refine' Y ?_ ?_ | refine' X ?_ ?_ ?_); rotate_left; (· (first | (simp (disch := omega) only [evl, Nat.reduceEqDiff, Nat.reduceAdd, reduceIte, reduceCtorEq, h2, h8] <;> exact rfl) | exact rfl)); all_goals try (refine fun (hb : _ = _) => ?_; try simp only [Zu, ne_eq, reduceCtorEq] at hb)) | (apply rk_gd_u; · simp [evl])))
        refine rn_nil ?_; refine lpq_e ?_
        exact ⟨rfl, hp, ys, hrow, hkp, fun s t hs hst' htb => hst s t hs hst' (by omega)⟩
    · exact ⟨a + 1, xs, rfl, Nat.le_refl _, (by (first | (simp (disch := omega) only [evl, Nat.reduceEqDiff, Nat.reduceAdd, reduceIte, reduceCtorEq] <;> exact rfl) | exact rfl)), (by (first | (simp (disch := omega) only [evl, Nat.reduceEqDiff, Nat.reduceAdd, reduceIte, reduceCtorEq] <;> exact rfl) | exact rfl)), (by (first | (simp (disch := omega) only [evl, Nat.reduceEqDiff, Nat.reduceAdd, reduceIte, reduceCtorEq] <;> exact rfl) | exact rfl)), (by (first | (simp (disch := omega) only [evl, Nat.reduceEqDiff, Nat.reduceAdd, reduceIte, reduceCtorEq] <;> exact rfl) | exact rfl)), by omega, HP.refl _ _, hr, Kp.refl _ _ _, fun s t hs hst htb => by omega⟩
  · rintro ex T' H' ⟨rfl, hres⟩
    (repeat' (first | refine Z ?_ | refine Zq ?_ | refine rn_blk_x (by decide) ?_ | ((first | refine' Y ?_ ?_ | refine' X ?_ ?_ ?_); rotate_left; (· (first | (simp (disch := omega) only [evl, Nat.reduceEqDiff, Nat.reduceAdd, reduceIte, reduceCtorEq] <;> exact rfl) | exact rfl)); all_goals try (refine fun (hb : _ = _) => ?_; try simp only [Zu, ne_eq, reduceCtorEq] at hb)) | (apply rk_gd_u; · simp [evl])))
    refine rn_nil ?_; exact fq_nor (resV_0 _) hres

set_option maxHeartbeats 4000000 in
theorem rev_ok (H : AH) (xs : List Int) (i c a b : Nat) (op op' : Bool) (hr : Row H i false op' 3 1 (iC xs)) (hi : i < H.next) (hlo : H.lo ≤ i) (hh : H.hide = [])
    (hab : a < b) (hb : b ≤ xs.length) (hl : xs.length ≤ 1000000) :
    FnE look 67 [.sl i 0 xs.length c op, .int .i64 a, .int .i64 b] H fun r H' => Done xs i a b op' H H' fun _ => True := by
  refine fn_intro f67_eq (noext rfl) rfl ?_
  unfold f67c
  (repeat' (first | refine Z ?_ | refine Zq ?_ | refine rn_blk_x (by decide) ?_ | ((first | refine' Y ?_ ?_ | refine' X ?_ ?_ ?_); rotate_left; (· (first | (simp (disch := omega) only [evl, Nat.reduceEqDiff, Nat.reduceAdd, reduceIte, reduceCtorEq] <;> exact rfl) | exact rfl)); all_goals try (refine fun (hb : _ = _) => ?_; try simp only [Zu, ne_eq, reduceCtorEq] at hb)) | (apply rk_gd_u; · simp [evl])))
  refine rc_loop (R := fun ex T' H' => ex = .exit 0 ∧ Done xs i a b op' H H' fun _ => True) ?_ ?_
  · refine lp_ind f67l0_eq (fun k T H' => ∃ (p q : Nat) (ys : List Int), k = q - p ∧ a ≤ p ∧ p ≤ b ∧ a ≤ q + 1 ∧ q < b ∧ gT T 0 = .sl i 0 xs.length c op ∧ gT T 6 = .int .i64 p ∧ gT T 7 = .int .i64 q ∧ HP (· ≠ i) H H' ∧ Row H' i false op' 3 1 (iC ys) ∧ Kp xs ys a b) _ ?_ (b - 1 - a) _ _ ?_
    · intro k T H1 hI
      obtain ⟨p, q, ys, hk, h1, h2, h3, h4, h0, h6, h7, hp, hrow, hkp⟩ := hI
      unfold f67l0
      have hyl := hkp.len
      by_cases hlt : p < q
      · have hixA := ixn (i := i) (n := xs.length) (c := c) (op := op) (k := p) (by omega)
        have hixB := ixn (i := i) (n := xs.length) (c := c) (op := op) (k := q) (by omega)
        have hrdA := rd hrow (k := p) (by omega)
        have hrdB := rd hrow (k := q) (by omega)
        obtain ⟨H3, H4, hs3, hs4, hr4, hp4, hn4⟩ := swap hrow (a := p) (b := q) (hp.hide.trans hh) (by rw [hp.lo]; exact hlo) (by omega) (by omega)
        have hsw := sw_kp (xs := ys) (a := p) (b := q) (lo := a) (hi := b) (by omega) (by omega) (by omega) (by omega) (by omega) (by omega)
        (repeat' (first | refine Z ?_ | refine Zq ?_ | refine rn_blk_x (by decide) ?_ | ((first | refine' Y ?_ ?_ | refine' X ?_ ?_ ?_); rotate_left; (· (first | (simp (disch := omega) only [evl, Nat.reduceEqDiff, Nat.reduceAdd, reduceIte, reduceCtorEq, h0, h6, h7, hixA, hixB, hrdA, hrdB] <;> exact rfl) | exact rfl)); all_goals try (refine fun (hb : _ = _) => ?_; try simp only [Zu, ne_eq, reduceCtorEq] at hb)) | (apply rk_gd_u; · simp [evl])))
        apply rk_st
        · (simp (disch := omega) only [evl, Nat.reduceEqDiff, Nat.reduceAdd, reduceIte, reduceCtorEq])
          exact hs3
        simp only [hOut_f]
        (repeat' (first | refine Z ?_ | refine Zq ?_ | refine rn_blk_x (by decide) ?_ | ((first | refine' Y ?_ ?_ | refine' X ?_ ?_ ?_); rotate_left; (· (first | (simp (disch := omega) only [evl, Nat.reduceEqDiff, Nat.reduceAdd, reduceIte, reduceCtorEq, hixB] <;> exact rfl) | exact rfl)); all_goals try (refine fun (hb : _ = _) => ?_; try simp only [Zu, ne_eq, reduceCtorEq] at hb)) | (apply rk_gd_u; · simp [evl])))
        apply rk_st
        · (simp (disch := omega) only [evl, Nat.reduceEqDiff, Nat.reduceAdd, reduceIte, reduceCtorEq])
          exact hs4
        simp only [hOut_f]
        (repeat' (first | refine Z ?_ | refine Zq ?_ | refine rn_blk_x (by decide) ?_ | ((first | refine' Y ?_ ?_ | refine' X ?_ ?_ ?_); rotate_left; (· (first | (simp (disch := omega) only [evl, Nat.reduceEqDiff, Nat.reduceAdd, reduceIte, reduceCtorEq, h6, h7] <;> exact rfl) | exact rfl)); all_goals try (refine fun (hb : _ = _) => ?_; try simp only [Zu, ne_eq, reduceCtorEq] at hb)) | (apply rk_gd_u; · simp [evl])))
        refine rn_nil ?_; refine lpq_n (q - 1 - (p + 1)) (by omega) ?_
        refine ⟨p + 1, q - 1, _, rfl, by omega, by omega, by omega, by omega, (by (first | (simp (disch := omega) only [evl, Nat.reduceEqDiff, Nat.reduceAdd, reduceIte, reduceCtorEq, h0] <;> exact rfl) | exact rfl)), (by (first | (simp (disch := omega) only [evl, Nat.reduceEqDiff, Nat.reduceAdd, reduceIte, reduceCtorEq] <;> exact rfl) | exact rfl)), ?_, hp.trans hp4 (r := (· ≠ i)) fun i hi h => ⟨h, h⟩, hr4, hkp.trans hsw (Nat.le_refl _) (Nat.le_refl _) (Nat.le_refl _) (Nat.le_refl _)⟩
        (simp (disch := omega) only [evl, Nat.reduceEqDiff, Nat.reduceAdd, reduceIte, reduceCtorEq])
        rw [show (q : Int) - 1 = ((q - 1 : Nat) : Int) from by omega]
      · (repeat' (first | refine Z ?_ | refine Zq ?_ | refine rn_blk_x (by decide) ?_ | ((first | refine' Y ?_ ?_ | refine' X ?_ ?_ ?_); rotate_left; (· (first | (simp (disch := omega) only [evl, Nat.reduceEqDiff, Nat.reduceAdd, reduceIte, reduceCtorEq, h6, h7] <;> exact rfl) | exact rfl)); all_goals try (refine fun (hb : _ = _) => ?_; try simp only [Zu, ne_eq, reduceCtorEq] at hb)) | (apply rk_gd_u; · simp [evl])))
        refine rn_nil ?_; refine lpq_e ?_
        exact ⟨rfl, hp, ys, hrow, hkp, trivial⟩
    · refine ⟨a, b - 1, xs, rfl, Nat.le_refl _, by omega, by omega, by omega, (by (first | (simp (disch := omega) only [evl, Nat.reduceEqDiff, Nat.reduceAdd, reduceIte, reduceCtorEq] <;> exact rfl) | exact rfl)), (by (first | (simp (disch := omega) only [evl, Nat.reduceEqDiff, Nat.reduceAdd, reduceIte, reduceCtorEq] <;> exact rfl) | exact rfl)), ?_, HP.refl _ _, hr, Kp.refl _ _ _⟩
      (simp (disch := omega) only [evl, Nat.reduceEqDiff, Nat.reduceAdd, reduceIte, reduceCtorEq])
      rw [show (b : Int) - 1 = ((b - 1 : Nat) : Int) from by omega]
  · rintro ex T' H' ⟨rfl, hres⟩
    (repeat' (first | refine Z ?_ | refine Zq ?_ | refine rn_blk_x (by decide) ?_ | ((first | refine' Y ?_ ?_ | refine' X ?_ ?_ ?_); rotate_left; (· (first | (simp (disch := omega) only [evl, Nat.reduceEqDiff, Nat.reduceAdd, reduceIte, reduceCtorEq] <;> exact rfl) | exact rfl)); all_goals try (refine fun (hb : _ = _) => ?_; try simp only [Zu, ne_eq, reduceCtorEq] at hb)) | (apply rk_gd_u; · simp [evl])))
    refine rn_nil ?_; exact fq_nor (resV_0 _) hres
end PQ
end Go.Proofs.Ytnkomaedmblemaa

set_option linter.unusedSimpArgs false
set_option linter.unusedVariables false
set_option maxRecDepth 100000
namespace Go.Proofs.Ytnkomaedmblemaa
open Go.Ev Exl
open Ra Rb Rc Rd Re Rf Rg Rh Ri Rj Rk Rl Rm Rn Ro Rp Rq Rr
namespace PQ

/-! ### The heap -/
theorem quoN (s : AV → AV → Option AV) (m d : Nat) (hm : m ≤ 1000000) (hd : 0 < d) : binF .quo s (.int .i64 (m : Int)) (.int .i64 (d : Int)) = some (.int .i64 ((m / d : Nat) : Int)) := by
  have h1 : m / d ≤ m := Nat.div_le_self _ _
  have h2 : ((m : Int).tdiv (d : Int)) = ((m / d : Nat) : Int) := by rw [Int.tdiv_eq_ediv_of_nonneg (by omega)]; rfl
  rw [bin_quo (by omega), h2]
  generalize m / d = q at *
  rw [fw64 (by omega) (by omega)]
/-- Below k, from lo on, no child is greater than k. -/
def hpk (ys : List Int) (f hi k : Nat) : Prop := ∀ ch, (ch = 2 * k + 1 ∨ ch = 2 * k + 2) → ch < hi → g ys (f + ch) ≤ g ys (f + k)
def heap (ys : List Int) (f lo hi : Nat) : Prop := ∀ k, lo ≤ k → hpk ys f hi k
theorem heap_max {ys : List Int} {f hi : Nat} (h : heap ys f 0 hi) : ∀ k, k < hi → g ys (f + k) ≤ g ys f := by
  intro k
  induction k using Nat.strongRecOn with
  | _ k ih =>
    intro hk
    by_cases h0 : k = 0
    · subst h0; exact Int.le_refl _
    · have h1 := h ((k - 1) / 2) (Nat.zero_le _) k (by omega) hk
      have h2 := ih ((k - 1) / 2) (by omega) (by omega)
      omega

set_option maxHeartbeats 8000000 in
theorem sift_ok (H : AH) (xs : List Int) (i c lo hi f : Nat) (op op' : Bool) (hr : Row H i false op' 3 1 (iC xs)) (hi' : i < H.next) (hlo : H.lo ≤ i) (hh : H.hide = [])
    (hlh : lo ≤ hi) (hb : f + hi ≤ xs.length) (hl : xs.length ≤ 1000000) (hhp : heap xs f (lo + 1) hi) :
    FnE look 76 [.sl i 0 xs.length c op, .int .i64 lo, .int .i64 hi, .int .i64 f] H fun r H' => Done xs i (f + lo) (f + hi) op' H H' fun ys => heap ys f lo hi := by
  refine fn_intro f76_eq (noext rfl) rfl ?_
  unfold f76c
  (repeat' (first | refine Z ?_ | refine Zq ?_ | refine rn_blk_x (by decide) ?_ | ((first | refine' Y ?_ ?_ | refine' X ?_ ?_ ?_); rotate_left; (· (first | (simp (disch := omega) only [evl, Nat.reduceEqDiff, Nat.reduceAdd, reduceIte, reduceCtorEq] <;> exact rfl) | exact rfl)); all_goals try (refine fun (hb : _ = _) => ?_; try simp only [Zu, ne_eq, reduceCtorEq] at hb)) | (apply rk_gd_u; · simp [evl])))
  refine rc_loop (R := fun ex T' H' => (ex = .exit 0 ∨ ex = .ret) ∧ Done xs i (f + lo) (f + hi) op' H H' fun ys => heap ys f lo hi) ?_ ?_
  · refine lp_ind f76l0_eq (fun k T H' => ∃ (r : Nat) (ys : List Int), k = hi - r ∧ lo ≤ r ∧ r ≤ hi ∧ gT T 0 = .sl i 0 xs.length c op ∧ gT T 2 = .int .i64 hi ∧ gT T 3 = .int .i64 f ∧ gT T 8 = .int .i64 r ∧ HP (· ≠ i) H H' ∧ Row H' i false op' 3 1 (iC ys) ∧ Kp xs ys (f + lo) (f + hi) ∧
        (∀ k, lo ≤ k → k ≠ r → hpk ys f hi k) ∧ (∀ k, lo ≤ k → (r = 2 * k + 1 ∨ r = 2 * k + 2) → ∀ ch, (ch = 2 * r + 1 ∨ ch = 2 * r + 2) → ch < hi → g ys (f + ch) ≤ g ys (f + k))) _ ?_ (hi - lo) _ _ ?_
    · intro k T H1 hI
      obtain ⟨r, ys, hk, hr1, hr2, h0, h2, h3, h8, hp, hrow, hkp, hA, hB⟩ := hI
      unfold f76l0
      have hyl := hkp.len
      have HA := Hd.mk hA
      have HB := Hd.mk hB
      clear hA hB
      by_cases hend : hi ≤ 2 * r + 1
      · (repeat' (first | refine Z ?_ | refine Zq ?_ | refine rn_blk_x (by decide) ?_ | ((first | refine' Y ?_ ?_ | refine' X ?_ ?_ ?_); rotate_left; (· (first | (simp (disch := omega) only [evl, Nat.reduceEqDiff, Nat.reduceAdd, reduceIte, reduceCtorEq, h0, h2, h3, h8] <;> exact rfl) | exact rfl)); all_goals try (refine fun (hb : _ = _) => ?_; try simp only [Zu, ne_eq, reduceCtorEq] at hb)) | (apply rk_gd_u; · simp [evl])))
        refine rn_nil ?_; refine lpq_e ?_
        refine ⟨.inl rfl, hp, ys, hrow, hkp, fun k hk => ?_⟩
        by_cases hkr : k = r
        · subst hkr; intro ch h1 h2; omega
        · exact HA.out k hk hkr
      · -- from the greater child on
        have tail : ∀ (T : Tr AV) (ch : Nat), gT T 0 = .sl i 0 xs.length c op → gT T 2 = .int .i64 hi → gT T 3 = .int .i64 f → gT T 8 = .int .i64 r → gT T 9 = .int .i64 ch → (ch = 2 * r + 1 ∨ ch = 2 * r + 2) → ch < hi → (∀ c2, (c2 = 2 * r + 1 ∨ c2 = 2 * r + 2) → c2 < hi → g ys (f + c2) ≤ g ys (f + ch)) →
            RC look (.seq (.seq (.reg f76r5) (.cond (tO 52) .ret .skip)) (.seq (.reg f76r6) (.reg f76r7))) [.blk 1] T H1 (LpQ (fun k T H' => ∃ (r : Nat) (ys : List Int), k = hi - r ∧ lo ≤ r ∧ r ≤ hi ∧ gT T 0 = .sl i 0 xs.length c op ∧ gT T 2 = .int .i64 hi ∧ gT T 3 = .int .i64 f ∧ gT T 8 = .int .i64 r ∧ HP (· ≠ i) H H' ∧ Row H' i false op' 3 1 (iC ys) ∧ Kp xs ys (f + lo) (f + hi) ∧
        (∀ k, lo ≤ k → k ≠ r → hpk ys f hi k) ∧ (∀ k, lo ≤ k → (r = 2 * k + 1 ∨ r = 2 * k + 2) → ∀ ch, (ch = 2 * r + 1 ∨ ch = 2 * r + 2) → ch < hi → g ys (f + ch) ≤ g ys (f + k))) (fun ex T' H' => (ex = .exit 0 ∨ ex = .ret) ∧ Done xs i (f + lo) (f + hi) op' H H' fun ys => heap ys f lo hi) k) := by
          intro T ch h0 h2 h3 h8 h9 hch hchi hmx
          have Hmx := Hd.mk hmx
          clear hmx
          have hixA := ixn (i := i) (n := xs.length) (c := c) (op := op) (k := f + r) (by omega)
          have hixB := ixn (i := i) (n := xs.length) (c := c) (op := op) (k := f + ch) (by omega)
          rw [Int.natCast_add] at hixA hixB
          have hrdA := rd hrow (k := f + r) (by omega)
          have hrdB := rd hrow (k := f + ch) (by omega)
          (repeat' (first | refine Z ?_ | refine Zq ?_ | refine rn_blk_x (by decide) ?_ | ((first | refine' Y ?_ ?_ | refine' X ?_ ?_ ?_); rotate_left; (· (first | (simp (disch := omega) only [evl, Nat.reduceEqDiff, Nat.reduceAdd, reduceIte, reduceCtorEq, h0, h3, h8, h9, hixA, hixB, hrdA, hrdB] <;> exact rfl) | exact rfl)); all_goals try (refine fun (hb : _ = _) => ?_; try simp only [Zu, ne_eq, reduceCtorEq] at hb)) | (apply rk_gd_u; · simp [evl])))
          refine rk_cl (by (simp (disch := omega) only [evl, Nat.reduceEqDiff, Nat.reduceAdd, reduceIte, reduceCtorEq]); exact less_ok H1 (g ys (f + r)) (g ys (f + ch))) ?_
          rintro rr H2 ⟨rfl, rfl⟩
          simp only [hOut_f]
          by_cases hc : g ys (f + r) < g ys (f + ch)
          · obtain ⟨H3, H4, hs3, hs4, hr4, hp4, hn4⟩ := swap hrow (a := f + r) (b := f + ch) (hp.hide.trans hh) (by rw [hp.lo]; exact hlo) (by omega) (by omega)
            have hsw := sw_kp (xs := ys) (a := f + r) (b := f + ch) (lo := f + lo) (hi := f + hi) (by omega) (by omega) (by omega) (by omega) (by omega) (by omega)
            have hsk := fun s => sw_key (xs := ys) (a := f + r) (b := f + ch) (by omega) (by omega) s
            (repeat' (first | refine Z ?_ | refine Zq ?_ | refine rn_blk_x (by decide) ?_ | ((first | refine' Y ?_ ?_ | refine' X ?_ ?_ ?_); rotate_left; (· (first | (simp (disch := omega) only [evl, Nat.reduceEqDiff, Nat.reduceAdd, reduceIte, reduceCtorEq, h0, h3, h8, h9, hixA, hixB, hrdA, hrdB] <;> exact rfl) | exact rfl)); all_goals try (refine fun (hb : _ = _) => ?_; try simp only [Zu, ne_eq, reduceCtorEq] at hb)) | (apply rk_gd_u; · simp [evl])))
            apply rk_st
            · (simp (disch := omega) only [evl, Nat.reduceEqDiff, Nat.reduceAdd, reduceIte, reduceCtorEq])
              exact hs3
            simp only [hOut_f]
            (repeat' (first | refine Z ?_ | refine Zq ?_ | refine rn_blk_x (by decide) ?_ | ((first | refine' Y ?_ ?_ | refine' X ?_ ?_ ?_); rotate_left; (· (first | (simp (disch := omega) only [evl, Nat.reduceEqDiff, Nat.reduceAdd, reduceIte, reduceCtorEq, hixB] <;> exact rfl) | exact rfl)); all_goals try (refine fun (hb : _ = _) => ?_; try simp only [Zu, ne_eq, reduceCtorEq] at hb)) | (apply rk_gd_u; · simp [evl])))
            apply rk_st
            · (simp (disch := omega) only [evl, Nat.reduceEqDiff, Nat.reduceAdd, reduceIte, reduceCtorEq])
              exact hs4
            simp only [hOut_f]
            (repeat' (first | refine Z ?_ | refine Zq ?_ | refine rn_blk_x (by decide) ?_ | ((first | refine' Y ?_ ?_ | refine' X ?_ ?_ ?_); rotate_left; (· (first | (simp (disch := omega) only [evl, Nat.reduceEqDiff, Nat.reduceAdd, reduceIte, reduceCtorEq, h9] <;> exact rfl) | exact rfl)); all_goals try (refine fun (hb : _ = _) => ?_; try simp only [Zu, ne_eq, reduceCtorEq] at hb)) | (apply rk_gd_u; · simp [evl])))
            refine rn_nil ?_; refine lpq_n (hi - ch) (by omega) ?_
            refine ⟨ch, _, rfl, by omega, by omega, (by (first | (simp (disch := omega) only [evl, Nat.reduceEqDiff, Nat.reduceAdd, reduceIte, reduceCtorEq, h0] <;> exact rfl) | exact rfl)), (by (first | (simp (disch := omega) only [evl, Nat.reduceEqDiff, Nat.reduceAdd, reduceIte, reduceCtorEq, h2] <;> exact rfl) | exact rfl)), (by (first | (simp (disch := omega) only [evl, Nat.reduceEqDiff, Nat.reduceAdd, reduceIte, reduceCtorEq, h3] <;> exact rfl) | exact rfl)), (by (first | (simp (disch := omega) only [evl, Nat.reduceEqDiff, Nat.reduceAdd, reduceIte, reduceCtorEq] <;> exact rfl) | exact rfl)), hp.trans hp4 (r := (· ≠ i)) fun i hi h => ⟨h, h⟩, hr4, hkp.trans hsw (Nat.le_refl _) (Nat.le_refl _) (Nat.le_refl _) (Nat.le_refl _), ?_, ?_⟩
            · intro k hk hkc c2 h1 h2
              rw [hsk, hsk]
              by_cases e1 : k = r
              · subst e1
                rw [if_neg (show ¬ f + k = f + ch by omega), if_pos rfl]
                by_cases e2 : c2 = ch
                · subst e2; rw [if_pos rfl]; omega
                · rw [if_neg (by omega), if_neg (by omega)]
                  exact Hmx.out c2 h1 h2
              · rw [if_neg (show ¬ f + k = f + ch by omega), if_neg (show ¬ f + k = f + r by omega)]
                by_cases e2 : c2 = ch
                · exfalso; omega
                · rw [if_neg (show ¬ f + c2 = f + ch by omega)]
                  by_cases e3 : c2 = r
                  · rw [if_pos (by omega)]
                    exact HB.out k hk (by omega) ch hch hchi
                  · rw [if_neg (show ¬ f + c2 = f + r by omega)]
                    exact HA.out k hk e1 c2 h1 h2
            · intro k hk hkc c2 h1 h2
              have e1 : k = r := by omega
              subst e1
              rw [hsk, hsk, if_neg (show ¬ f + c2 = f + ch by omega), if_neg (show ¬ f + c2 = f + k by omega), if_neg (show ¬ f + k = f + ch by omega), if_pos rfl]
              exact HA.out ch (by omega) (by omega) c2 h1 h2
          · (repeat' (first | refine Z ?_ | refine Zq ?_ | refine rn_blk_x (by decide) ?_ | ((first | refine' Y ?_ ?_ | refine' X ?_ ?_ ?_); rotate_left; (· (first | (simp (disch := omega) only [evl, Nat.reduceEqDiff, Nat.reduceAdd, reduceIte, reduceCtorEq, h0, h3, h8, h9, hixA, hixB, hrdA, hrdB] <;> exact rfl) | exact rfl)); all_goals try (refine fun (hb : _ = _) => ?_; try simp only [Zu, ne_eq, reduceCtorEq] at hb)) | (apply rk_gd_u; · simp [evl])))
            refine rn_nil ?_; refine lpq_r ?_
            refine ⟨.inr rfl, hp, ys, hrow, hkp, fun k hk => ?_⟩
            by_cases hkr : k = r
            · subst hkr; intro c2 h1 h2
              have := Hmx.out c2 h1 h2; omega
            · exact HA.out k hk hkr
        have Htail := Hd.mk tail
        clear tail
        have h2r : (2 : Int) * r + 1 = ((2 * r + 1 : Nat) : Int) := by omega
        have hixA := ixn (i := i) (n := xs.length) (c := c) (op := op) (k := f + (2 * r + 1)) (by omega)
        rw [Int.natCast_add] at hixA
        have hrdA := rd hrow (k := f + (2 * r + 1)) (by omega)
        by_cases h2nd : 2 * r + 2 < hi
        · have hixB := ix (i := i) (n := xs.length) (c := c) (op := op) (e := (f : Int) + ((2 * r + 1 : Nat) : Int) + 1) (by omega) (by omega)
          rw [show ((f : Int) + ((2 * r + 1 : Nat) : Int) + 1).toNat = f + (2 * r + 2) from by omega] at hixB
          have hrdB := rd hrow (k := f + (2 * r + 2)) (by omega)
          (repeat' (first | refine Z ?_ | refine rn_blk_x (by decide) ?_ | ((first | refine' Y ?_ ?_ | refine' X ?_ ?_ ?_); rotate_left; (· (first | (simp (disch := omega) only [evl, Nat.reduceEqDiff, Nat.reduceAdd, reduceIte, reduceCtorEq, h0, h2, h3, h8, h2r, hixA, hixB, hrdA, hrdB] <;> exact rfl) | exact rfl)); all_goals try (refine fun (hb : _ = _) => ?_; try simp only [Zu, ne_eq, reduceCtorEq] at hb)) | (apply rk_gd_u; · simp [evl])))
          refine rn_seq_n ?_
          (repeat' (first | refine Z ?_ | refine rn_blk_x (by decide) ?_ | ((first | refine' Y ?_ ?_ | refine' X ?_ ?_ ?_); rotate_left; (· (first | (simp (disch := omega) only [evl, Nat.reduceEqDiff, Nat.reduceAdd, reduceIte, reduceCtorEq, h0, h2, h3, h8, h2r, hixA, hixB, hrdA, hrdB] <;> exact rfl) | exact rfl)); all_goals try (refine fun (hb : _ = _) => ?_; try simp only [Zu, ne_eq, reduceCtorEq] at hb)) | (apply rk_gd_u; · simp [evl])))
          refine rn_seq_n ?_
          (repeat' (first | refine Z ?_ | refine rn_blk_x (by decide) ?_ | ((first | refine' Y ?_ ?_ | refine' X ?_ ?_ ?_); rotate_left; (· (first | (simp (disch := omega) only [evl, Nat.reduceEqDiff, Nat.reduceAdd, reduceIte, reduceCtorEq, h0, h2, h3, h8, h2r, hixA, hixB, hrdA, hrdB] <;> exact rfl) | exact rfl)); all_goals try (refine fun (hb : _ = _) => ?_; try simp only [Zu, ne_eq, reduceCtorEq] at hb)) | (apply rk_gd_u; · simp [evl])))
          refine rn_seq_n ?_
          (repeat' (first | refine Z ?_ | refine rn_blk_x (by decide) ?_ | ((first | refine' Y ?_ ?_ | refine' X ?_ ?_ ?_); rotate_left; (· (first | (simp (disch := omega) only [evl, Nat.reduceEqDiff, Nat.reduceAdd, reduceIte, reduceCtorEq, h0, h2, h3, h8, h2r, hixA, hixB, hrdA, hrdB] <;> exact rfl) | exact rfl)); all_goals try (refine fun (hb : _ = _) => ?_; try simp only [Zu, ne_eq, reduceCtorEq] at hb)) | (apply rk_gd_u; · simp [evl])))
          refine rk_cl (by (simp (disch := omega) only [evl, Nat.reduceEqDiff, Nat.reduceAdd, reduceIte, reduceCtorEq]); exact less_ok H1 (g ys (f + (2 * r + 1))) (g ys (f + (2 * r + 2)))) ?_
          rintro rr H2 ⟨rfl, rfl⟩
          simp only [hOut_f]
          by_cases hc : g ys (f + (2 * r + 1)) < g ys (f + (2 * r + 2))
          · (repeat' (first | refine Z ?_ | refine rn_blk_x (by decide) ?_ | ((first | refine' Y ?_ ?_ | refine' X ?_ ?_ ?_); rotate_left; (· (first | (simp (disch := omega) only [evl, Nat.reduceEqDiff, Nat.reduceAdd, reduceIte, reduceCtorEq, h2r] <;> exact rfl) | exact rfl)); all_goals try (refine fun (hb : _ = _) => ?_; try simp only [Zu, ne_eq, reduceCtorEq] at hb)) | (apply rk_gd_u; · simp [evl])))
            refine rn_seq_n ?_
            (repeat' (first | refine Z ?_ | refine rn_blk_x (by decide) ?_ | ((first | refine' Y ?_ ?_ | refine' X ?_ ?_ ?_); rotate_left; (· (first | (simp (disch := omega) only [evl, Nat.reduceEqDiff, Nat.reduceAdd, reduceIte, reduceCtorEq, h2r] <;> exact rfl) | exact rfl)); all_goals try (refine fun (hb : _ = _) => ?_; try simp only [Zu, ne_eq, reduceCtorEq] at hb)) | (apply rk_gd_u; · simp [evl])))
            refine rn_seq_n ?_
            refine Htail.out _ (2 * r + 2) (by (first | (simp (disch := omega) only [evl, Nat.reduceEqDiff, Nat.reduceAdd, reduceIte, reduceCtorEq, h0] <;> exact rfl) | exact rfl)) (by (first | (simp (disch := omega) only [evl, Nat.reduceEqDiff, Nat.reduceAdd, reduceIte, reduceCtorEq, h2] <;> exact rfl) | exact rfl)) (by (first | (simp (disch := omega) only [evl, Nat.reduceEqDiff, Nat.reduceAdd, reduceIte, reduceCtorEq, h3] <;> exact rfl) | exact rfl)) (by (first | (simp (disch := omega) only [evl, Nat.reduceEqDiff, Nat.reduceAdd, reduceIte, reduceCtorEq, h8] <;> exact rfl) | exact rfl)) ?_ (.inr rfl) h2nd ?_
            · (simp (disch := omega) only [evl, Nat.reduceEqDiff, Nat.reduceAdd, reduceIte, reduceCtorEq, h2r])
              rw [show ((2 * r + 1 : Nat) : Int) + 1 = ((2 * r + 2 : Nat) : Int) from by omega]
            · intro c2 h1 h2
              rcases h1 with rfl | rfl
              · omega
              · exact Int.le_refl _
          · (repeat' (first | refine Z ?_ | refine rn_blk_x (by decide) ?_ | ((first | refine' Y ?_ ?_ | refine' X ?_ ?_ ?_); rotate_left; (· (first | (simp (disch := omega) only [evl, Nat.reduceEqDiff, Nat.reduceAdd, reduceIte, reduceCtorEq, h2r] <;> exact rfl) | exact rfl)); all_goals try (refine fun (hb : _ = _) => ?_; try simp only [Zu, ne_eq, reduceCtorEq] at hb)) | (apply rk_gd_u; · simp [evl])))
            refine rn_seq_n ?_
            (repeat' (first | refine Z ?_ | refine rn_blk_x (by decide) ?_ | ((first | refine' Y ?_ ?_ | refine' X ?_ ?_ ?_); rotate_left; (· (first | (simp (disch := omega) only [evl, Nat.reduceEqDiff, Nat.reduceAdd, reduceIte, reduceCtorEq, h2r] <;> exact rfl) | exact rfl)); all_goals try (refine fun (hb : _ = _) => ?_; try simp only [Zu, ne_eq, reduceCtorEq] at hb)) | (apply rk_gd_u; · simp [evl])))
            refine rn_seq_n ?_
            refine Htail.out _ (2 * r + 1) (by (first | (simp (disch := omega) only [evl, Nat.reduceEqDiff, Nat.reduceAdd, reduceIte, reduceCtorEq, h0] <;> exact rfl) | exact rfl)) (by (first | (simp (disch := omega) only [evl, Nat.reduceEqDiff, Nat.reduceAdd, reduceIte, reduceCtorEq, h2] <;> exact rfl) | exact rfl)) (by (first | (simp (disch := omega) only [evl, Nat.reduceEqDiff, Nat.reduceAdd, reduceIte, reduceCtorEq, h3] <;> exact rfl) | exact rfl)) (by (first | (simp (disch := omega) only [evl, Nat.reduceEqDiff, Nat.reduceAdd, reduceIte, reduceCtorEq, h8] <;> exact rfl) | exact rfl)) (by (first | (simp (disch := omega) only [evl, Nat.reduceEqDiff, Nat.reduceAdd, reduceIte, reduceCtorEq, h2r] <;> exact rfl) | exact rfl)) (.inl rfl) (by omega) ?_
            intro c2 h1 h2
            rcases h1 with rfl | rfl
            · exact Int.le_refl _
            · omega
        · (repeat' (first | refine Z ?_ | refine rn_blk_x (by decide) ?_ | ((first | refine' Y ?_ ?_ | refine' X ?_ ?_ ?_); rotate_left; (· (first | (simp (disch := omega) only [evl, Nat.reduceEqDiff, Nat.reduceAdd, reduceIte, reduceCtorEq, h0, h2, h3, h8, h2r] <;> exact rfl) | exact rfl)); all_goals try (refine fun (hb : _ = _) => ?_; try simp only [Zu, ne_eq, reduceCtorEq] at hb)) | (apply rk_gd_u; · simp [evl])))
          refine rn_seq_n ?_
          (repeat' (first | refine Z ?_ | refine rn_blk_x (by decide) ?_ | ((first | refine' Y ?_ ?_ | refine' X ?_ ?_ ?_); rotate_left; (· (first | (simp (disch := omega) only [evl, Nat.reduceEqDiff, Nat.reduceAdd, reduceIte, reduceCtorEq, h0, h2, h3, h8, h2r] <;> exact rfl) | exact rfl)); all_goals try (refine fun (hb : _ = _) => ?_; try simp only [Zu, ne_eq, reduceCtorEq] at hb)) | (apply rk_gd_u; · simp [evl])))
          refine rn_seq_n ?_
          (repeat' (first | refine Z ?_ | refine rn_blk_x (by decide) ?_ | ((first | refine' Y ?_ ?_ | refine' X ?_ ?_ ?_); rotate_left; (· (first | (simp (disch := omega) only [evl, Nat.reduceEqDiff, Nat.reduceAdd, reduceIte, reduceCtorEq, h0, h2, h3, h8, h2r] <;> exact rfl) | exact rfl)); all_goals try (refine fun (hb : _ = _) => ?_; try simp only [Zu, ne_eq, reduceCtorEq] at hb)) | (apply rk_gd_u; · simp [evl])))
          refine rn_seq_n ?_
          (repeat' (first | refine Z ?_ | refine rn_blk_x (by decide) ?_ | ((first | refine' Y ?_ ?_ | refine' X ?_ ?_ ?_); rotate_left; (· (first | (simp (disch := omega) only [evl, Nat.reduceEqDiff, Nat.reduceAdd, reduceIte, reduceCtorEq, h0, h2, h3, h8, h2r] <;> exact rfl) | exact rfl)); all_goals try (refine fun (hb : _ = _) => ?_; try simp only [Zu, ne_eq, reduceCtorEq] at hb)) | (apply rk_gd_u; · simp [evl])))
          refine rn_seq_n ?_
          (repeat' (first | refine Z ?_ | refine rn_blk_x (by decide) ?_ | ((first | refine' Y ?_ ?_ | refine' X ?_ ?_ ?_); rotate_left; (· (first | (simp (disch := omega) only [evl, Nat.reduceEqDiff, Nat.reduceAdd, reduceIte, reduceCtorEq, h0, h2, h3, h8, h2r] <;> exact rfl) | exact rfl)); all_goals try (refine fun (hb : _ = _) => ?_; try simp only [Zu, ne_eq, reduceCtorEq] at hb)) | (apply rk_gd_u; · simp [evl])))
          refine rn_seq_n ?_
          refine Htail.out _ (2 * r + 1) (by (first | (simp (disch := omega) only [evl, Nat.reduceEqDiff, Nat.reduceAdd, reduceIte, reduceCtorEq, h0] <;> exact rfl) | exact rfl)) (by (first | (simp (disch := omega) only [evl, Nat.reduceEqDiff, Nat.reduceAdd, reduceIte, reduceCtorEq, h2] <;> exact rfl) | exact rfl)) (by (first | (simp (disch := omega) only [evl, Nat.reduceEqDiff, Nat.reduceAdd, reduceIte, reduceCtorEq, h3] <;> exact rfl) | exact rfl)) (by (first | (simp (disch := omega) only [evl, Nat.reduceEqDiff, Nat.reduceAdd, reduceIte, reduceCtorEq, h8] <;> exact rfl) | exact rfl)) (by (first | (simp (disch := omega) only [evl, Nat.reduceEqDiff, Nat.reduceAdd, reduceIte, reduceCtorEq, h2r] <;> exact rfl) | exact rfl)) (.inl rfl) (by omega) ?_
          intro c2 h1 h2
          rcases h1 with rfl | rfl
          · exact Int.le_refl _
          · omega
    · exact ⟨lo, xs, rfl, Nat.le_refl _, hlh, (by (first | (simp (disch := omega) only [evl, Nat.reduceEqDiff, Nat.reduceAdd, reduceIte, reduceCtorEq] <;> exact rfl) | exact rfl)), (by (first | (simp (disch := omega) only [evl, Nat.reduceEqDiff, Nat.reduceAdd, reduceIte, reduceCtorEq] <;> exact rfl) | exact rfl)), (by (first | (simp (disch := omega) only [evl, Nat.reduceEqDiff, Nat.reduceAdd, reduceIte, reduceCtorEq] <;> exact rfl) | exact rfl)), (by (first | (simp (disch := omega) only [evl, Nat.reduceEqDiff, Nat.reduceAdd, reduceIte, reduceCtorEq] <;> exact rfl) | exact rfl)), HP.refl _ _, hr, Kp.refl _ _ _, fun k hk hkr => hhp k (by omega), fun k hk hkr => by omega⟩
  · rintro ex T' H' ⟨rfl | rfl, hres⟩
    · (repeat' (first | refine Z ?_ | refine Zq ?_ | refine rn_blk_x (by decide) ?_ | ((first | refine' Y ?_ ?_ | refine' X ?_ ?_ ?_); rotate_left; (· (first | (simp (disch := omega) only [evl, Nat.reduceEqDiff, Nat.reduceAdd, reduceIte, reduceCtorEq] <;> exact rfl) | exact rfl)); all_goals try (refine fun (hb : _ = _) => ?_; try simp only [Zu, ne_eq, reduceCtorEq] at hb)) | (apply rk_gd_u; · simp [evl])))
      refine rn_nil ?_; exact fq_nor (resV_0 _) hres
    · (repeat' (first | refine Z ?_ | refine Zq ?_ | refine rn_blk_x (by decide) ?_ | ((first | refine' Y ?_ ?_ | refine' X ?_ ?_ ?_); rotate_left; (· (first | (simp (disch := omega) only [evl, Nat.reduceEqDiff, Nat.reduceAdd, reduceIte, reduceCtorEq] <;> exact rfl) | exact rfl)); all_goals try (refine fun (hb : _ = _) => ?_; try simp only [Zu, ne_eq, reduceCtorEq] at hb)) | (apply rk_gd_u; · simp [evl])))
      refine rn_nil ?_; exact fq_ret (resV_0 _) hres
end PQ
end Go.Proofs.Ytnkomaedmblemaa

set_option linter.unusedSimpArgs false
set_option linter.unusedVariables false
set_option maxRecDepth 100000
namespace Go.Proofs.Ytnkomaedmblemaa
open Go.Ev Exl
open Ra Rb Rc Rd Re Rf Rg Rh Ri Rj Rk Rl Rm Rn Ro Rp Rq Rr
namespace PQ

set_option maxHeartbeats 8000000 in
theorem heapS_ok (H : AH) (xs : List Int) (i c a b : Nat) (op op' : Bool) (hr : Row H i false op' 3 1 (iC xs)) (hi : i < H.next) (hlo : H.lo ≤ i) (hh : H.hide = [])
    (hab : a < b) (hb' : b ≤ xs.length) (hl : xs.length ≤ 1000000) :
    FnE look 64 [.sl i 0 xs.length c op, .int .i64 a, .int .i64 b] H fun r H' => Done xs i a b op' H H' fun ys => srt ys a b := by
  refine fn_intro f64_eq (noext rfl) rfl ?_
  unfold f64c
  obtain ⟨n, hn⟩ : ∃ n : Nat, n = b - a := ⟨_, rfl⟩
  have hni : (b : Int) - a = (n : Int) := by omega
  have hn1 : (n : Int) - 1 = ((n - 1 : Nat) : Int) := by omega
  have hq : ∀ s, binF .quo s (.int .i64 ((n - 1 : Nat) : Int)) (.int .i64 2) = some (.int .i64 (((n - 1) / 2 : Nat) : Int)) := fun s => quoN s (n - 1) 2 (by omega) (by omega)
  (repeat' (first | refine Z ?_ | refine Zq ?_ | refine rn_blk_x (by decide) ?_ | ((first | refine' Y ?_ ?_ | refine' X ?_ ?_ ?_); rotate_left; (· (first | (simp (disch := omega) only [evl, Nat.reduceEqDiff, Nat.reduceAdd, reduceIte, reduceCtorEq, hni, hn1, hq] <;> exact rfl) | exact rfl)); all_goals try (refine fun (hb : _ = _) => ?_; try simp only [Zu, ne_eq, reduceCtorEq] at hb)) | (apply rk_gd_u; · simp [evl])))
  refine rc_loop (R := fun ex T' H' => ex = .exit 0 ∧ gT T' 0 = .sl i 0 xs.length c op ∧ gT T' 6 = .int .i64 a ∧ gT T' 7 = .int .i64 0 ∧ gT T' 8 = .int .i64 n ∧ Done xs i a b op' H H' fun ys => heap ys a 0 n) ?_ ?_
  · refine lp_ind f64l0_eq (fun k T H' => ∃ (u : Nat) (ys : List Int), k = u ∧ u ≤ n ∧ gT T 0 = .sl i 0 xs.length c op ∧ gT T 6 = .int .i64 a ∧ gT T 7 = .int .i64 0 ∧ gT T 8 = .int .i64 n ∧ gT T 9 = .int .i64 ((u : Int) - 1) ∧ HP (· ≠ i) H H' ∧ Row H' i false op' 3 1 (iC ys) ∧ Kp xs ys a b ∧ heap ys a u n) _ ?_ ((n - 1) / 2 + 1) _ _ ?_
    · intro k T H1 hI
      obtain ⟨u, ys, hk, hun, h0, h6, h7, h8, h9, hp, hrow, hkp, hhp⟩ := hI
      unfold f64l0
      have hyl := hkp.len
      by_cases hu : 1 ≤ u
      · have hu1 : (u : Int) - 1 = ((u - 1 : Nat) : Int) := by omega
        rw [hu1] at h9
        (repeat' (first | refine Z ?_ | refine Zq ?_ | refine rn_blk_x (by decide) ?_ | ((first | refine' Y ?_ ?_ | refine' X ?_ ?_ ?_); rotate_left; (· (first | (simp (disch := omega) only [evl, Nat.reduceEqDiff, Nat.reduceAdd, reduceIte, reduceCtorEq, h0, h6, h7, h8, h9] <;> exact rfl) | exact rfl)); all_goals try (refine fun (hb : _ = _) => ?_; try simp only [Zu, ne_eq, reduceCtorEq] at hb)) | (apply rk_gd_u; · simp [evl])))
        refine rk_cl (by (simp (disch := omega) only [evl, Nat.reduceEqDiff, Nat.reduceAdd, reduceIte, reduceCtorEq, h0, h6, h7, h8, h9]); rw [← hyl]; exact sift_ok H1 ys i c (u - 1) n a op op' hrow (by have := hp.next; omega) (by rw [hp.lo]; exact hlo) (hp.hide.trans hh) (by omega) (by omega) (by omega) (by rw [show u - 1 + 1 = u from by omega]; exact hhp)) ?_
        rintro r H2 ⟨hp2, zs, hr2, hk2, hz⟩
        simp only [hOut_f]
        (repeat' (first | refine Z ?_ | refine Zq ?_ | refine rn_blk_x (by decide) ?_ | ((first | refine' Y ?_ ?_ | refine' X ?_ ?_ ?_); rotate_left; (· (first | (simp (disch := omega) only [evl, Nat.reduceEqDiff, Nat.reduceAdd, reduceIte, reduceCtorEq, h9] <;> exact rfl) | exact rfl)); all_goals try (refine fun (hb : _ = _) => ?_; try simp only [Zu, ne_eq, reduceCtorEq] at hb)) | (apply rk_gd_u; · simp [evl])))
        refine rn_nil ?_; refine lpq_n (u - 1) (by omega) ?_
        exact ⟨u - 1, zs, rfl, by omega, (by (first | (simp (disch := omega) only [evl, Nat.reduceEqDiff, Nat.reduceAdd, reduceIte, reduceCtorEq, h0] <;> exact rfl) | exact rfl)), (by (first | (simp (disch := omega) only [evl, Nat.reduceEqDiff, Nat.reduceAdd, reduceIte, reduceCtorEq, h6] <;> exact rfl) | exact rfl)), (by (first | (simp (disch := omega) only [evl, Nat.reduceEqDiff, Nat.reduceAdd, reduceIte, reduceCtorEq, h7] <;> exact rfl) | exact rfl)), (by (first | (simp (disch := omega) only [evl, Nat.reduceEqDiff, Nat.reduceAdd, reduceIte, reduceCtorEq, h8] <;> exact rfl) | exact rfl)), by (simp (disch := omega) only [evl, Nat.reduceEqDiff, Nat.reduceAdd, reduceIte, reduceCtorEq, h9]), hp.trans hp2 (r := (· ≠ i)) fun i hi h => ⟨h, h⟩, hr2, hkp.trans (hk2.wide (by omega) (by omega)) (Nat.le_refl _) (Nat.le_refl _) (Nat.le_refl _) (Nat.le_refl _), hz⟩
      · obtain rfl : u = 0 := by omega
        have h9' : gT T 9 = .int .i64 (-1) := h9
        (repeat' (first | refine Z ?_ | refine Zq ?_ | refine rn_blk_x (by decide) ?_ | ((first | refine' Y ?_ ?_ | refine' X ?_ ?_ ?_); rotate_left; (· (first | (simp (disch := omega) only [evl, Nat.reduceEqDiff, Nat.reduceAdd, reduceIte, reduceCtorEq, h9'] <;> exact rfl) | exact rfl)); all_goals try (refine fun (hb : _ = _) => ?_; try simp only [Zu, ne_eq, reduceCtorEq] at hb)) | (apply rk_gd_u; · simp [evl])))
        refine rn_nil ?_; refine lpq_e ?_
        exact ⟨rfl, (by (first | (simp (disch := omega) only [evl, Nat.reduceEqDiff, Nat.reduceAdd, reduceIte, reduceCtorEq, h0] <;> exact rfl) | exact rfl)), (by (first | (simp (disch := omega) only [evl, Nat.reduceEqDiff, Nat.reduceAdd, reduceIte, reduceCtorEq, h6] <;> exact rfl) | exact rfl)), (by (first | (simp (disch := omega) only [evl, Nat.reduceEqDiff, Nat.reduceAdd, reduceIte, reduceCtorEq, h7] <;> exact rfl) | exact rfl)), (by (first | (simp (disch := omega) only [evl, Nat.reduceEqDiff, Nat.reduceAdd, reduceIte, reduceCtorEq, h8] <;> exact rfl) | exact rfl)), hp, ys, hrow, hkp, hhp⟩
    · refine ⟨(n - 1) / 2 + 1, xs, rfl, by omega, (by (first | (simp (disch := omega) only [evl, Nat.reduceEqDiff, Nat.reduceAdd, reduceIte, reduceCtorEq] <;> exact rfl) | exact rfl)), (by (first | (simp (disch := omega) only [evl, Nat.reduceEqDiff, Nat.reduceAdd, reduceIte, reduceCtorEq] <;> exact rfl) | exact rfl)), (by (first | (simp (disch := omega) only [evl, Nat.reduceEqDiff, Nat.reduceAdd, reduceIte, reduceCtorEq] <;> exact rfl) | exact rfl)), (by (first | (simp (disch := omega) only [evl, Nat.reduceEqDiff, Nat.reduceAdd, reduceIte, reduceCtorEq, hni] <;> exact rfl) | exact rfl)), ?_, HP.refl _ _, hr, Kp.refl _ _ _, ?_⟩
      · (simp (disch := omega) only [evl, Nat.reduceEqDiff, Nat.reduceAdd, reduceIte, reduceCtorEq, hni, hn1, hq])
        rw [show (((n - 1) / 2 + 1 : Nat) : Int) - 1 = (((n - 1) / 2 : Nat) : Int) from by omega]
      · intro k hk ch h1 h2; omega
  · rintro ex T' H1 ⟨rfl, h0, h6, h7, h8, hp, ys, hrow, hkp, hhp⟩
    (repeat' (first | refine Z ?_ | refine Zq ?_ | refine rn_blk_x (by decide) ?_ | ((first | refine' Y ?_ ?_ | refine' X ?_ ?_ ?_); rotate_left; (· (first | (simp (disch := omega) only [evl, Nat.reduceEqDiff, Nat.reduceAdd, reduceIte, reduceCtorEq, h8, hn1] <;> exact rfl) | exact rfl)); all_goals try (refine fun (hb : _ = _) => ?_; try simp only [Zu, ne_eq, reduceCtorEq] at hb)) | (apply rk_gd_u; · simp [evl])))
    refine rc_loop (R := fun ex T' H' => ex = .exit 2 ∧ Done xs i a b op' H H' fun ys => srt ys a b) ?_ ?_
    · refine lp_ind f64l1_eq (fun k T H' => ∃ (u : Nat) (ys : List Int), k = u ∧ u ≤ n ∧ gT T 0 = .sl i 0 xs.length c op ∧ gT T 6 = .int .i64 a ∧ gT T 7 = .int .i64 0 ∧ gT T 10 = .int .i64 ((u : Int) - 1) ∧ HP (· ≠ i) H H' ∧ Row H' i false op' 3 1 (iC ys) ∧ Kp xs ys a b ∧ heap ys a 0 u ∧ srt ys (a + u) b ∧ (∀ s t, s < u → a + u ≤ t → t < b → g ys (a + s) ≤ g ys t)) _ ?_ n _ _ ?_
      · intro k T H2 hI
        obtain ⟨u, zs, hk, hun, h0, h6, h7, h10, hp, hrow, hkp, hhp, hst, hle⟩ := hI
        unfold f64l1
        have hzl := hkp.len
        by_cases hu : 1 ≤ u
        · have hu1 : (u : Int) - 1 = ((u - 1 : Nat) : Int) := by omega
          rw [hu1] at h10
          have Hst := Hd.mk hst
          have Hle := Hd.mk hle
          have Hhp := Hd.mk hhp
          clear hst hle hhp
          have hixA := ixn (i := i) (n := xs.length) (c := c) (op := op) (k := a) (by omega)
          have hixB := ixn (i := i) (n := xs.length) (c := c) (op := op) (k := a + (u - 1)) (by omega)
          rw [Int.natCast_add] at hixB
          have hrdA := rd hrow (k := a) (by omega)
          have hrdB := rd hrow (k := a + (u - 1)) (by omega)
          obtain ⟨H3, H4, hs3, hs4, hr4, hp4, hn4⟩ := swap hrow (a := a) (b := a + (u - 1)) (hp.hide.trans hh) (by rw [hp.lo]; exact hlo) (by omega) (by omega)
          have hsw := sw_kp (xs := zs) (a := a) (b := a + (u - 1)) (lo := a) (hi := b) (by omega) (by omega) (by omega) (by omega) (by omega) (by omega)
          have hsk := fun s => sw_key (xs := zs) (a := a) (b := a + (u - 1)) (by omega) (by omega) s
          have hswl := sw_len zs a (a + (u - 1))
          have hpB := hp.trans hp4 (r := (· ≠ i)) fun i hi h => ⟨h, h⟩
          (repeat' (first | refine Z ?_ | refine Zq ?_ | refine rn_blk_x (by decide) ?_ | ((first | refine' Y ?_ ?_ | refine' X ?_ ?_ ?_); rotate_left; (· (first | (simp (disch := omega) only [evl, Nat.reduceEqDiff, Nat.reduceAdd, reduceIte, reduceCtorEq, h0, h6, h10, hixA, hixB, hrdA, hrdB] <;> exact rfl) | exact rfl)); all_goals try (refine fun (hb : _ = _) => ?_; try simp only [Zu, ne_eq, reduceCtorEq] at hb)) | (apply rk_gd_u; · simp [evl])))
          apply rk_st
          · (simp (disch := omega) only [evl, Nat.reduceEqDiff, Nat.reduceAdd, reduceIte, reduceCtorEq])
            exact hs3
          simp only [hOut_f]
          (repeat' (first | refine Z ?_ | refine Zq ?_ | refine rn_blk_x (by decide) ?_ | ((first | refine' Y ?_ ?_ | refine' X ?_ ?_ ?_); rotate_left; (· (first | (simp (disch := omega) only [evl, Nat.reduceEqDiff, Nat.reduceAdd, reduceIte, reduceCtorEq, hixB] <;> exact rfl) | exact rfl)); all_goals try (refine fun (hb : _ = _) => ?_; try simp only [Zu, ne_eq, reduceCtorEq] at hb)) | (apply rk_gd_u; · simp [evl])))
          apply rk_st
          · (simp (disch := omega) only [evl, Nat.reduceEqDiff, Nat.reduceAdd, reduceIte, reduceCtorEq])
            exact hs4
          simp only [hOut_f]
          (repeat' (first | refine Z ?_ | refine Zq ?_ | refine rn_blk_x (by decide) ?_ | ((first | refine' Y ?_ ?_ | refine' X ?_ ?_ ?_); rotate_left; (· (first | (simp (disch := omega) only [evl, Nat.reduceEqDiff, Nat.reduceAdd, reduceIte, reduceCtorEq, h0, h6, h7, h10] <;> exact rfl) | exact rfl)); all_goals try (refine fun (hb : _ = _) => ?_; try simp only [Zu, ne_eq, reduceCtorEq] at hb)) | (apply rk_gd_u; · simp [evl])))
          refine rk_cl (by (simp (disch := omega) only [evl, Nat.reduceEqDiff, Nat.reduceAdd, reduceIte, reduceCtorEq, h0, h6, h7, h10]); rw [← hzl, ← hswl]; exact sift_ok H4 _ i c 0 (u - 1) a op op' hr4 (by have := hpB.next; omega) (by rw [hpB.lo]; exact hlo) (hpB.hide.trans hh) (by omega) (by omega) (by omega) (fun k hk ch h1 h2 => by
              rw [hsk, hsk, if_neg (by omega), if_neg (by omega), if_neg (by omega), if_neg (by omega)]
              exact Hhp.out k (by omega) ch h1 (by omega))) ?_
          rintro r H5 ⟨hp5, us, hr5, hk5, hz⟩
          simp only [hOut_f]
          (repeat' (first | refine Z ?_ | refine Zq ?_ | refine rn_blk_x (by decide) ?_ | ((first | refine' Y ?_ ?_ | refine' X ?_ ?_ ?_); rotate_left; (· (first | (simp (disch := omega) only [evl, Nat.reduceEqDiff, Nat.reduceAdd, reduceIte, reduceCtorEq, h10] <;> exact rfl) | exact rfl)); all_goals try (refine fun (hb : _ = _) => ?_; try simp only [Zu, ne_eq, reduceCtorEq] at hb)) | (apply rk_gd_u; · simp [evl])))
          refine rn_nil ?_; refine lpq_n (u - 1) (by omega) ?_
          refine ⟨u - 1, us, rfl, by omega, (by (first | (simp (disch := omega) only [evl, Nat.reduceEqDiff, Nat.reduceAdd, reduceIte, reduceCtorEq, h0] <;> exact rfl) | exact rfl)), (by (first | (simp (disch := omega) only [evl, Nat.reduceEqDiff, Nat.reduceAdd, reduceIte, reduceCtorEq, h6] <;> exact rfl) | exact rfl)), (by (first | (simp (disch := omega) only [evl, Nat.reduceEqDiff, Nat.reduceAdd, reduceIte, reduceCtorEq, h7] <;> exact rfl) | exact rfl)), by (simp (disch := omega) only [evl, Nat.reduceEqDiff, Nat.reduceAdd, reduceIte, reduceCtorEq, h10]), hpB.trans hp5 (r := (· ≠ i)) fun i hi h => ⟨h, h⟩, hr5, (hkp.trans hsw (Nat.le_refl _) (Nat.le_refl _) (Nat.le_refl _) (Nat.le_refl _)).trans hk5 (Nat.le_refl _) (Nat.le_refl _) (by omega) (by omega), hz, ?_, ?_⟩
          · intro s t g1 g2 g3
            rw [hk5.key (by omega), hk5.key (by omega), hsk, hsk, if_neg (show ¬ t = a + (u - 1) by omega), if_neg (show ¬ t = a by omega)]
            by_cases e : s = a + (u - 1)
            · rw [if_pos e]
              have := Hle.out 0 t (by omega) (by omega) g3
              exact this
            · rw [if_neg e, if_neg (by omega)]
              exact Hst.out s t (by omega) g2 g3
          · intro s t g1 g2 g3
            obtain ⟨s', q1, q2, q3⟩ := hk5.inn (s := a + s) (by omega) (by omega) (by omega) (by omega)
            rw [q3, hk5.key (j := t) (by omega), hsk, hsk, if_neg (show ¬ s' = a + (u - 1) by omega), if_neg (show ¬ t = a by omega)]
            -- where the element of [a, a + u) stood
            have hmx : ∀ w, w < u → g zs (a + w) ≤ g zs a := fun w hw => heap_max Hhp.out w hw
            by_cases e1 : t = a + (u - 1)
            · rw [if_pos e1]
              by_cases e2 : s' = a
              · rw [if_pos e2]; exact hmx (u - 1) (by omega)
              · rw [if_neg e2]
                have := hmx (s' - a) (by omega)
                rw [show a + (s' - a) = s' from by omega] at this
                exact this
            · rw [if_neg e1]
              by_cases e2 : s' = a
              · rw [if_pos e2]; exact Hle.out (u - 1) t (by omega) (by omega) g3
              · rw [if_neg e2]
                have := Hle.out (s' - a) t (by omega) (by omega) g3
                rw [show a + (s' - a) = s' from by omega] at this
                exact this
        · obtain rfl : u = 0 := by omega
          have h10' : gT T 10 = .int .i64 (-1) := h10
          (repeat' (first | refine Z ?_ | refine Zq ?_ | refine rn_blk_x (by decide) ?_ | ((first | refine' Y ?_ ?_ | refine' X ?_ ?_ ?_); rotate_left; (· (first | (simp (disch := omega) only [evl, Nat.reduceEqDiff, Nat.reduceAdd, reduceIte, reduceCtorEq, h10'] <;> exact rfl) | exact rfl)); all_goals try (refine fun (hb : _ = _) => ?_; try simp only [Zu, ne_eq, reduceCtorEq] at hb)) | (apply rk_gd_u; · simp [evl])))
          refine rn_nil ?_; refine lpq_e ?_
          exact ⟨rfl, hp, zs, hrow, hkp, hst⟩
      · refine ⟨n, ys, rfl, Nat.le_refl _, (by (first | (simp (disch := omega) only [evl, Nat.reduceEqDiff, Nat.reduceAdd, reduceIte, reduceCtorEq, h0] <;> exact rfl) | exact rfl)), (by (first | (simp (disch := omega) only [evl, Nat.reduceEqDiff, Nat.reduceAdd, reduceIte, reduceCtorEq, h6] <;> exact rfl) | exact rfl)), (by (first | (simp (disch := omega) only [evl, Nat.reduceEqDiff, Nat.reduceAdd, reduceIte, reduceCtorEq, h7] <;> exact rfl) | exact rfl)), ?_, hp, hrow, hkp, hhp, fun s t g1 g2 g3 => by omega, fun s t g1 g2 g3 => by omega⟩
        (simp (disch := omega) only [evl, Nat.reduceEqDiff, Nat.reduceAdd, reduceIte, reduceCtorEq, h8, hn1])
    · rintro ex T'' H' ⟨rfl, hres⟩
      (repeat' (first | refine Z ?_ | refine Zq ?_ | refine rn_blk_x (by decide) ?_ | ((first | refine' Y ?_ ?_ | refine' X ?_ ?_ ?_); rotate_left; (· (first | (simp (disch := omega) only [evl, Nat.reduceEqDiff, Nat.reduceAdd, reduceIte, reduceCtorEq] <;> exact rfl) | exact rfl)); all_goals try (refine fun (hb : _ = _) => ?_; try simp only [Zu, ne_eq, reduceCtorEq] at hb)) | (apply rk_gd_u; · simp [evl])))
      refine rn_nil ?_; exact fq_nor (resV_0 _) hres
end PQ
end Go.Proofs.Ytnkomaedmblemaa

set_option linter.unusedSimpArgs false
set_option linter.unusedVariables false
set_option maxRecDepth 100000
namespace Go.Proofs.Ytnkomaedmblemaa
open Go.Ev Exl
open Ra Rb Rc Rd Re Rf Rg Rh Ri Rj Rk Rl Rm Rn Ro Rp Rq Rr
namespace PQ

/-! ### The pivot -/
def Ord (i sw s x y : Nat) (H : AH) (r : AV) (H' : AH) : Prop := HP (· ≠ sw) H H' ∧ H'.next = H.next ∧ ∃ p q s' : Nat, r = .tup [.int .i64 p, .int .i64 q] ∧ ((p = x ∧ q = y) ∨ (p = y ∧ q = x)) ∧ Row H' sw false false 3 1 [.int .i64 (s' : Int)] ∧ s' ≤ s + 1
theorem order2_ok (H : AH) (xs : List Int) (i c x y sw s : Nat) (op op' : Bool) (hr : Row H i false op' 3 1 (iC xs)) (hs : Row H sw false false 3 1 [.int .i64 (s : Int)]) (hne : i ≠ sw) (hsw : sw < H.next) (hlo : H.lo ≤ sw) (hh : H.hide = []) (hx : x < xs.length) (hy : y < xs.length) (hl : xs.length ≤ 1000000) (hs1 : s ≤ 1000) :
    FnE look 83 [.sl i 0 xs.length c op, .int .i64 x, .int .i64 y, .ptr sw 0] H (Ord i sw s x y H) := by
  refine fn_intro f83_eq (noext rfl) rfl ?_
  unfold f83c
  have hixA := ixn (i := i) (n := xs.length) (c := c) (op := op) (k := x) (by omega)
  have hixB := ixn (i := i) (n := xs.length) (c := c) (op := op) (k := y) (by omega)
  have hrdA := rd hr (k := x) (by omega)
  have hrdB := rd hr (k := y) (by omega)
  have hsd := hs.rd (k := 0) rfl
  (repeat' (first | refine Z ?_ | refine Zq ?_ | refine rn_blk_x (by decide) ?_ | ((first | refine' Y ?_ ?_ | refine' X ?_ ?_ ?_); rotate_left; (· (first | (simp (disch := omega) only [evl, Nat.reduceEqDiff, Nat.reduceAdd, reduceIte, reduceCtorEq, hixA, hixB, hrdA, hrdB] <;> exact rfl) | exact rfl)); all_goals try (refine fun (hb : _ = _) => ?_; try simp only [Zu, ne_eq, reduceCtorEq] at hb)) | (apply rk_gd_u; · simp [evl])))
  refine rk_cl (by (simp (disch := omega) only [evl, Nat.reduceEqDiff, Nat.reduceAdd, reduceIte, reduceCtorEq]); exact less_ok H (g xs y) (g xs x)) ?_
  rintro r H1 ⟨rfl, rfl⟩
  simp only [hOut_f]
  by_cases hc : g xs y < g xs x
  · obtain ⟨H2, hst, hr2, hp2, hn2⟩ := hs.st1 (L := look) (t := 3) (v := .int .i64 ((s : Int) + 1)) (k := 0) hh hlo z3 rfl (by simp)
    (repeat' (first | refine Z ?_ | refine Zq ?_ | refine rn_blk_x (by decide) ?_ | ((first | refine' Y ?_ ?_ | refine' X ?_ ?_ ?_); rotate_left; (· (first | (simp (disch := omega) only [evl, Nat.reduceEqDiff, Nat.reduceAdd, reduceIte, reduceCtorEq, hsd] <;> exact rfl) | exact rfl)); all_goals try (refine fun (hb : _ = _) => ?_; try simp only [Zu, ne_eq, reduceCtorEq] at hb)) | (apply rk_gd_u; · simp [evl])))
    apply rk_st
    · (simp (disch := omega) only [evl, Nat.reduceEqDiff, Nat.reduceAdd, reduceIte, reduceCtorEq])
      exact hst
    simp only [hOut_f]
    (repeat' (first | refine Z ?_ | refine Zq ?_ | refine rn_blk_x (by decide) ?_ | ((first | refine' Y ?_ ?_ | refine' X ?_ ?_ ?_); rotate_left; (· (first | (simp (disch := omega) only [evl, Nat.reduceEqDiff, Nat.reduceAdd, reduceIte, reduceCtorEq] <;> exact rfl) | exact rfl)); all_goals try (refine fun (hb : _ = _) => ?_; try simp only [Zu, ne_eq, reduceCtorEq] at hb)) | (apply rk_gd_u; · simp [evl])))
    refine rn_nil ?_; refine fq_ret (resV_2 _ _ _) ⟨hp2, hn2, y, x, s + 1, ?_, .inr ⟨rfl, rfl⟩, ?_, Nat.le_refl _⟩
    · (simp (disch := omega) only [evl, Nat.reduceEqDiff, Nat.reduceAdd, reduceIte, reduceCtorEq])
    · rw [Int.natCast_add]; exact hr2
  · (repeat' (first | refine Z ?_ | refine Zq ?_ | refine rn_blk_x (by decide) ?_ | ((first | refine' Y ?_ ?_ | refine' X ?_ ?_ ?_); rotate_left; (· (first | (simp (disch := omega) only [evl, Nat.reduceEqDiff, Nat.reduceAdd, reduceIte, reduceCtorEq] <;> exact rfl) | exact rfl)); all_goals try (refine fun (hb : _ = _) => ?_; try simp only [Zu, ne_eq, reduceCtorEq] at hb)) | (apply rk_gd_u; · simp [evl])))
    refine rn_nil ?_; refine fq_ret (resV_2 _ _ _) ⟨HP.refl _ _, rfl, x, y, s, ?_, .inl ⟨rfl, rfl⟩, hs, Nat.le_succ _⟩
    (simp (disch := omega) only [evl, Nat.reduceEqDiff, Nat.reduceAdd, reduceIte, reduceCtorEq])
def Med (sw s lo hi : Nat) (H : AH) (r : AV) (H' : AH) : Prop := HP (· ≠ sw) H H' ∧ H'.next = H.next ∧ ∃ p s' : Nat, r = .int .i64 p ∧ lo ≤ p ∧ p < hi ∧ Row H' sw false false 3 1 [.int .i64 (s' : Int)] ∧ s' ≤ s + 3
set_option maxHeartbeats 4000000 in
theorem median_ok (H : AH) (xs : List Int) (i c x y z sw s lo hi : Nat) (op op' : Bool) (hr : Row H i false op' 3 1 (iC xs)) (hs : Row H sw false false 3 1 [.int .i64 (s : Int)]) (hne : i ≠ sw) (hi' : i < H.next) (hsw : sw < H.next) (hlo : H.lo ≤ sw) (hh : H.hide = []) (hx : lo ≤ x ∧ x < hi) (hy : lo ≤ y ∧ y < hi) (hz : lo ≤ z ∧ z < hi) (hhi : hi ≤ xs.length) (hl : xs.length ≤ 1000000) (hs1 : s ≤ 900) :
    FnE look 80 [.sl i 0 xs.length c op, .int .i64 x, .int .i64 y, .int .i64 z, .ptr sw 0] H (Med sw s lo hi H) := by
  refine fn_intro f80_eq (noext rfl) rfl ?_
  unfold f80c
  (repeat' (first | refine Z ?_ | refine Zq ?_ | refine rn_blk_x (by decide) ?_ | ((first | refine' Y ?_ ?_ | refine' X ?_ ?_ ?_); rotate_left; (· (first | (simp (disch := omega) only [evl, Nat.reduceEqDiff, Nat.reduceAdd, reduceIte, reduceCtorEq] <;> exact rfl) | exact rfl)); all_goals try (refine fun (hb : _ = _) => ?_; try simp only [Zu, ne_eq, reduceCtorEq] at hb)) | (apply rk_gd_u; · simp [evl])))
  refine rk_cl (by (simp (disch := omega) only [evl, Nat.reduceEqDiff, Nat.reduceAdd, reduceIte, reduceCtorEq]); exact order2_ok H xs i c x y sw s op op' hr hs hne hsw hlo hh (by omega) (by omega) hl (by omega)) ?_
  rintro r H1 ⟨hp1, hn1, p1, q1, s1, rfl, hpq1, hs1', hb1⟩
  simp only [hOut_f]
  have hq1 : lo ≤ p1 ∧ p1 < hi ∧ lo ≤ q1 ∧ q1 < hi := by omega
  clear hpq1
  (repeat' (first | refine Z ?_ | refine Zq ?_ | refine rn_blk_x (by decide) ?_ | ((first | refine' Y ?_ ?_ | refine' X ?_ ?_ ?_); rotate_left; (· (first | (simp (disch := omega) only [evl, Nat.reduceEqDiff, Nat.reduceAdd, reduceIte, reduceCtorEq] <;> exact rfl) | exact rfl)); all_goals try (refine fun (hb : _ = _) => ?_; try simp only [Zu, ne_eq, reduceCtorEq] at hb)) | (apply rk_gd_u; · simp [evl])))
  refine rk_cl (by (simp (disch := omega) only [evl, Nat.reduceEqDiff, Nat.reduceAdd, reduceIte, reduceCtorEq]); exact order2_ok H1 xs i c q1 z sw s1 op op' (hr.hp hp1 hi' hne) hs1' hne (by omega) (by rw [hp1.lo]; exact hlo) (hp1.hide.trans hh) (by omega) (by omega) hl (by omega)) ?_
  rintro r H2 ⟨hp2, hn2, p2, q2, s2, rfl, hpq2, hs2', hb2⟩
  simp only [hOut_f]
  have hq2 : lo ≤ p2 ∧ p2 < hi ∧ lo ≤ q2 ∧ q2 < hi := by omega
  clear hpq2
  have hpA := hp1.trans hp2 (r := (· ≠ sw)) fun j hj h => ⟨h, h⟩
  (repeat' (first | refine Z ?_ | refine Zq ?_ | refine rn_blk_x (by decide) ?_ | ((first | refine' Y ?_ ?_ | refine' X ?_ ?_ ?_); rotate_left; (· (first | (simp (disch := omega) only [evl, Nat.reduceEqDiff, Nat.reduceAdd, reduceIte, reduceCtorEq] <;> exact rfl) | exact rfl)); all_goals try (refine fun (hb : _ = _) => ?_; try simp only [Zu, ne_eq, reduceCtorEq] at hb)) | (apply rk_gd_u; · simp [evl])))
  refine rk_cl (by (simp (disch := omega) only [evl, Nat.reduceEqDiff, Nat.reduceAdd, reduceIte, reduceCtorEq]); exact order2_ok H2 xs i c p1 p2 sw s2 op op' (hr.hp hpA hi' hne) hs2' hne (by omega) (by rw [hpA.lo]; exact hlo) (hpA.hide.trans hh) (by omega) (by omega) hl (by omega)) ?_
  rintro r H3 ⟨hp3, hn3, p3, q3, s3, rfl, hpq3, hs3', hb3⟩
  simp only [hOut_f]
  have hq3 : lo ≤ p3 ∧ p3 < hi ∧ lo ≤ q3 ∧ q3 < hi := by omega
  (repeat' (first | refine Z ?_ | refine Zq ?_ | refine rn_blk_x (by decide) ?_ | ((first | refine' Y ?_ ?_ | refine' X ?_ ?_ ?_); rotate_left; (· (first | (simp (disch := omega) only [evl, Nat.reduceEqDiff, Nat.reduceAdd, reduceIte, reduceCtorEq] <;> exact rfl) | exact rfl)); all_goals try (refine fun (hb : _ = _) => ?_; try simp only [Zu, ne_eq, reduceCtorEq] at hb)) | (apply rk_gd_u; · simp [evl])))
  refine rn_nil ?_; refine fq_ret (resV_1 _ _) ⟨hpA.trans hp3 (r := (· ≠ sw)) fun j hj h => ⟨h, h⟩, by omega, q3, s3, ?_, by omega, by omega, hs3', by omega⟩
  (simp (disch := omega) only [evl, Nat.reduceEqDiff, Nat.reduceAdd, reduceIte, reduceCtorEq])
theorem medAdj_ok (H : AH) (xs : List Int) (i c x sw s lo hi : Nat) (op op' : Bool) (hr : Row H i false op' 3 1 (iC xs)) (hs : Row H sw false false 3 1 [.int .i64 (s : Int)]) (hne : i ≠ sw) (hi' : i < H.next) (hsw : sw < H.next) (hlo : H.lo ≤ sw) (hh : H.hide = []) (hx : lo + 1 ≤ x ∧ x + 1 < hi) (hhi : hi ≤ xs.length) (hl : xs.length ≤ 1000000) (hs1 : s ≤ 900) :
    FnE look 79 [.sl i 0 xs.length c op, .int .i64 x, .ptr sw 0] H (Med sw s lo hi H) := by
  refine fn_intro f79_eq (noext rfl) rfl ?_
  unfold f79c
  have e1 : (x : Int) - 1 = ((x - 1 : Nat) : Int) := by omega
  have e2 : (x : Int) + 1 = ((x + 1 : Nat) : Int) := by omega
  (repeat' (first | refine Z ?_ | refine Zq ?_ | refine rn_blk_x (by decide) ?_ | ((first | refine' Y ?_ ?_ | refine' X ?_ ?_ ?_); rotate_left; (· (first | (simp (disch := omega) only [evl, Nat.reduceEqDiff, Nat.reduceAdd, reduceIte, reduceCtorEq, e1, e2] <;> exact rfl) | exact rfl)); all_goals try (refine fun (hb : _ = _) => ?_; try simp only [Zu, ne_eq, reduceCtorEq] at hb)) | (apply rk_gd_u; · simp [evl])))
  refine rk_cl (by (simp (disch := omega) only [evl, Nat.reduceEqDiff, Nat.reduceAdd, reduceIte, reduceCtorEq]); exact median_ok H xs i c (x - 1) x (x + 1) sw s lo hi op op' hr hs hne hi' hsw hlo hh (by omega) (by omega) (by omega) hhi hl hs1) ?_
  rintro r H1 ⟨hp1, hn1, p1, s1, rfl, h1, h2, h3, h4⟩
  simp only [hOut_f]
  (repeat' (first | refine Z ?_ | refine Zq ?_ | refine rn_blk_x (by decide) ?_ | ((first | refine' Y ?_ ?_ | refine' X ?_ ?_ ?_); rotate_left; (· (first | (simp (disch := omega) only [evl, Nat.reduceEqDiff, Nat.reduceAdd, reduceIte, reduceCtorEq] <;> exact rfl) | exact rfl)); all_goals try (refine fun (hb : _ = _) => ?_; try simp only [Zu, ne_eq, reduceCtorEq] at hb)) | (apply rk_gd_u; · simp [evl])))
  refine rn_nil ?_; refine fq_ret (resV_1 _ _) ⟨hp1, hn1, p1, s1, ?_, h1, h2, h3, h4⟩
  (simp (disch := omega) only [evl, Nat.reduceEqDiff, Nat.reduceAdd, reduceIte, reduceCtorEq])
def Piv (a b : Nat) (H : AH) (r : AV) (H' : AH) : Prop := HX H H' ∧ ∃ (p : Nat) (h : Int), r = .tup [.int .i64 p, .int .i64 h] ∧ a ≤ p ∧ p < b
set_option maxHeartbeats 8000000 in
theorem pivot_ok (H : AH) (xs : List Int) (i c a b : Nat) (op op' : Bool) (hr : Row H i false op' 3 1 (iC xs)) (hi : i < H.next) (hlo : H.lo ≤ i) (hh : H.hide = [])
    (hab : a < b) (hb' : b ≤ xs.length) (hl : xs.length ≤ 1000000) :
    FnE look 66 [.sl i 0 xs.length c op, .int .i64 a, .int .i64 b] H (Piv a b H) := by
  refine fn_intro f66_eq (noext rfl) rfl ?_
  unfold f66c
  obtain ⟨n, hn⟩ : ∃ n : Nat, n = b - a := ⟨_, rfl⟩
  have hni : (b : Int) - a = (n : Int) := by omega
  obtain ⟨q, hq⟩ : ∃ q : Nat, q = n / 4 := ⟨_, rfl⟩
  have hqd : ∀ s, binF .quo s (.int .i64 (n : Int)) (.int .i64 4) = some (.int .i64 (q : Int)) := fun s => by rw [hq]; exact quoN s n 4 (by omega) (by omega)
  have e1 : (a : Int) + (q : Int) * 1 = ((a + q : Nat) : Int) := by omega
  have e2 : (a : Int) + (q : Int) * 2 = ((a + 2 * q : Nat) : Int) := by omega
  have e3 : (a : Int) + (q : Int) * 3 = ((a + 3 * q : Nat) : Int) := by omega
  obtain ⟨H1, hal, hx1, hn1, hr1⟩ := al_box (e := 3) (s := 1) (c := AV.toC (.int .i64 0)) hh
  rw [toC_l] at hr1
  -- the end
  have fin : ∀ (T : Tr AV) (H2 : AH) (j s : Nat), gT T 9 = .ptr H.next 0 → gT T 11 = .int .i64 j → a ≤ j → j < b → HP (· ≠ H.next) H1 H2 → Row H2 H.next false false 3 1 [.int .i64 (s : Int)] →
      RC look (.seq (.reg f66r12)
  (.block 0 (.seq (.reg f66r13)
  (.cond (tO 51) (.seq (.reg f66r14)
  .ret) (.seq (.reg f66r15)
  (.cond (tO 54) (.seq (.reg f66r16)
  .ret) (.seq (.reg f66r17)
  .ret))))))) [] T H2 (FnQ look [.tmp 6, .tmp 7] (Piv a b H)) := by
    intro T H2 j s h9 h11 hj1 hj2 hp hs
    have hsd := hs.rd (k := 0) rfl
    have hxx : HX H H2 := ((hx1.hp fun _ => True).trans hp (r := fun _ => True) fun j hj _ => ⟨trivial, by omega⟩).hx fun _ _ => trivial
    by_cases h0 : s = 0
    · (repeat' (first | refine Z ?_ | refine Zq ?_ | refine rn_blk_x (by decide) ?_ | ((first | refine' Y ?_ ?_ | refine' X ?_ ?_ ?_); rotate_left; (· (first | (simp (disch := omega) only [evl, Nat.reduceEqDiff, Nat.reduceAdd, reduceIte, reduceCtorEq, h9, h11, hsd] <;> exact rfl) | exact rfl)); all_goals try (refine fun (hb : _ = _) => ?_; try simp only [Zu, ne_eq, reduceCtorEq] at hb)) | (apply rk_gd_u; · simp [evl])))
      refine rn_nil ?_; refine fq_ret (resV_2 _ _ _) ⟨hxx, j, 1, ?_, hj1, hj2⟩
      (simp (disch := omega) only [evl, Nat.reduceEqDiff, Nat.reduceAdd, reduceIte, reduceCtorEq, h11])
    · by_cases h12 : s = 12
      · (repeat' (first | refine Z ?_ | refine Zq ?_ | refine rn_blk_x (by decide) ?_ | ((first | refine' Y ?_ ?_ | refine' X ?_ ?_ ?_); rotate_left; (· (first | (simp (disch := omega) only [evl, Nat.reduceEqDiff, Nat.reduceAdd, reduceIte, reduceCtorEq, h9, h11, hsd] <;> exact rfl) | exact rfl)); all_goals try (refine fun (hb : _ = _) => ?_; try simp only [Zu, ne_eq, reduceCtorEq] at hb)) | (apply rk_gd_u; · simp [evl])))
        refine rn_nil ?_; refine fq_ret (resV_2 _ _ _) ⟨hxx, j, 2, ?_, hj1, hj2⟩
        (simp (disch := omega) only [evl, Nat.reduceEqDiff, Nat.reduceAdd, reduceIte, reduceCtorEq, h11])
      · (repeat' (first | refine Z ?_ | refine Zq ?_ | refine rn_blk_x (by decide) ?_ | ((first | refine' Y ?_ ?_ | refine' X ?_ ?_ ?_); rotate_left; (· (first | (simp (disch := omega) only [evl, Nat.reduceEqDiff, Nat.reduceAdd, reduceIte, reduceCtorEq, h9, h11, hsd] <;> exact rfl) | exact rfl)); all_goals try (refine fun (hb : _ = _) => ?_; try simp only [Zu, ne_eq, reduceCtorEq] at hb)) | (apply rk_gd_u; · simp [evl])))
        refine rn_nil ?_; refine fq_ret (resV_2 _ _ _) ⟨hxx, j, 0, ?_, hj1, hj2⟩
        (simp (disch := omega) only [evl, Nat.reduceEqDiff, Nat.reduceAdd, reduceIte, reduceCtorEq, h11])
  have Hfin := Hd.mk fin
  clear fin
  (repeat' (first | refine Z ?_ | refine rn_blk_x (by decide) ?_ | ((first | refine' Y ?_ ?_ | refine' X ?_ ?_ ?_); rotate_left; (· (first | (simp (disch := omega) only [evl, Nat.reduceEqDiff, Nat.reduceAdd, reduceIte, reduceCtorEq, hni] <;> exact rfl) | exact rfl)); all_goals try (refine fun (hb : _ = _) => ?_; try simp only [Zu, ne_eq, reduceCtorEq] at hb)) | (apply rk_gd_u; · simp [evl])))
  refine rn_seq_n ?_
  (repeat' (first | refine Z ?_ | refine rn_blk_x (by decide) ?_ | ((first | refine' Y ?_ ?_ | refine' X ?_ ?_ ?_); rotate_left; (· (first | (simp (disch := omega) only [evl, Nat.reduceEqDiff, Nat.reduceAdd, reduceIte, reduceCtorEq, hni] <;> exact rfl) | exact rfl)); all_goals try (refine fun (hb : _ = _) => ?_; try simp only [Zu, ne_eq, reduceCtorEq] at hb)) | (apply rk_gd_u; · simp [evl])))
  refine rn_seq_n ?_
  refine rc_seq ?_
  refine rc_reg ?_
  apply rk_al
  · (simp (disch := omega) only [evl, Nat.reduceEqDiff, Nat.reduceAdd, reduceIte, reduceCtorEq])
    exact hal
  simp only [hOut_f]
  (repeat' (first | refine Z ?_ | refine rn_blk_x (by decide) ?_ | ((first | refine' Y ?_ ?_ | refine' X ?_ ?_ ?_); rotate_left; (· (first | (simp (disch := omega) only [evl, Nat.reduceEqDiff, Nat.reduceAdd, reduceIte, reduceCtorEq, hni, hqd, e1, e2, e3] <;> exact rfl) | exact rfl)); all_goals try (refine fun (hb : _ = _) => ?_; try simp only [Zu, ne_eq, reduceCtorEq] at hb)) | (apply rk_gd_u; · simp [evl])))
  refine rn_seq_n ?_
  (repeat' (first | refine Z ?_ | refine rn_blk_x (by decide) ?_ | ((first | refine' Y ?_ ?_ | refine' X ?_ ?_ ?_); rotate_left; (· (first | (simp (disch := omega) only [evl, Nat.reduceEqDiff, Nat.reduceAdd, reduceIte, reduceCtorEq, hni, hqd, e1, e2, e3] <;> exact rfl) | exact rfl)); all_goals try (refine fun (hb : _ = _) => ?_; try simp only [Zu, ne_eq, reduceCtorEq] at hb)) | (apply rk_gd_u; · simp [evl])))
  refine rn_seq_n ?_
  (repeat' (first | refine Z ?_ | refine rn_blk_x (by decide) ?_ | ((first | refine' Y ?_ ?_ | refine' X ?_ ?_ ?_); rotate_left; (· (first | (simp (disch := omega) only [evl, Nat.reduceEqDiff, Nat.reduceAdd, reduceIte, reduceCtorEq, hni, hqd, e1, e2, e3] <;> exact rfl) | exact rfl)); all_goals try (refine fun (hb : _ = _) => ?_; try simp only [Zu, ne_eq, reduceCtorEq] at hb)) | (apply rk_gd_u; · simp [evl])))
  refine rn_seq_n ?_
  (repeat' (first | refine Z ?_ | refine rn_blk_x (by decide) ?_ | ((first | refine' Y ?_ ?_ | refine' X ?_ ?_ ?_); rotate_left; (· (first | (simp (disch := omega) only [evl, Nat.reduceEqDiff, Nat.reduceAdd, reduceIte, reduceCtorEq, hni, hqd, e1, e2, e3] <;> exact rfl) | exact rfl)); all_goals try (refine fun (hb : _ = _) => ?_; try simp only [Zu, ne_eq, reduceCtorEq] at hb)) | (apply rk_gd_u; · simp [evl])))
  refine rn_seq_n ?_
  have hne : i ≠ H.next := by omega
  have hrow1 := hr.hx hx1 hi
  have hs0 : Row H1 H.next false false 3 1 [.int .i64 ((0 : Nat) : Int)] := hr1
  by_cases h8 : n < 8
  · (repeat' (first | refine Z ?_ | refine rn_blk_x (by decide) ?_ | ((first | refine' Y ?_ ?_ | refine' X ?_ ?_ ?_); rotate_left; (· (first | (simp (disch := omega) only [evl, Nat.reduceEqDiff, Nat.reduceAdd, reduceIte, reduceCtorEq, hni, hqd, e1, e2, e3] <;> exact rfl) | exact rfl)); all_goals try (refine fun (hb : _ = _) => ?_; try simp only [Zu, ne_eq, reduceCtorEq] at hb)) | (apply rk_gd_u; · simp [evl])))
    refine rn_seq_n ?_
    (repeat' (first | refine Z ?_ | refine rn_blk_x (by decide) ?_ | ((first | refine' Y ?_ ?_ | refine' X ?_ ?_ ?_); rotate_left; (· (first | (simp (disch := omega) only [evl, Nat.reduceEqDiff, Nat.reduceAdd, reduceIte, reduceCtorEq, hni, hqd, e1, e2, e3] <;> exact rfl) | exact rfl)); all_goals try (refine fun (hb : _ = _) => ?_; try simp only [Zu, ne_eq, reduceCtorEq] at hb)) | (apply rk_gd_u; · simp [evl])))
    refine rn_seq_n ?_
    exact Hfin.out _ H1 (a + 2 * q) 0 (by (first | (simp (disch := omega) only [evl, Nat.reduceEqDiff, Nat.reduceAdd, reduceIte, reduceCtorEq] <;> exact rfl) | exact rfl)) (by (first | (simp (disch := omega) only [evl, Nat.reduceEqDiff, Nat.reduceAdd, reduceIte, reduceCtorEq] <;> exact rfl) | exact rfl)) (by omega) (by omega) (HP.refl _ _) hs0
  · -- the last median
    have last : ∀ (T : Tr AV) (H2 : AH) (x y z s : Nat), gT T 0 = .sl i 0 xs.length c op → gT T 9 = .ptr H.next 0 → gT T 10 = .int .i64 x → gT T 11 = .int .i64 y → gT T 12 = .int .i64 z → a ≤ x ∧ x < b → a ≤ y ∧ y < b → a ≤ z ∧ z < b → HP (· ≠ H.next) H1 H2 → H2.next = H1.next → Row H2 H.next false false 3 1 [.int .i64 (s : Int)] → s ≤ 900 →
        RC look (.reg f66r11) [.seq (.seq (.reg f66r12)
  (.block 0 (.seq (.reg f66r13)
  (.cond (tO 51) (.seq (.reg f66r14)
  .ret) (.seq (.reg f66r15)
  (.cond (tO 54) (.seq (.reg f66r16)
  .ret) (.seq (.reg f66r17)
  .ret)))))))] T H2 (FnQ look [.tmp 6, .tmp 7] (Piv a b H)) := by
      intro T H2 x y z s h0 h9 h10 h11 h12 hx hy hz hp hn2 hs hs9
      (repeat' (first | refine Z ?_ | refine rn_blk_x (by decide) ?_ | ((first | refine' Y ?_ ?_ | refine' X ?_ ?_ ?_); rotate_left; (· (first | (simp (disch := omega) only [evl, Nat.reduceEqDiff, Nat.reduceAdd, reduceIte, reduceCtorEq, h0, h9, h10, h11, h12] <;> exact rfl) | exact rfl)); all_goals try (refine fun (hb : _ = _) => ?_; try simp only [Zu, ne_eq, reduceCtorEq] at hb)) | (apply rk_gd_u; · simp [evl])))
      refine rk_cl (by (simp (disch := omega) only [evl, Nat.reduceEqDiff, Nat.reduceAdd, reduceIte, reduceCtorEq, h0, h9, h10, h11, h12]); exact median_ok H2 xs i c x y z H.next s a b op op' (hrow1.hp hp (by omega) hne) hs hne (by omega) (by omega) (by rw [hp.lo, hx1.lo]; omega) (hp.hide.trans (hx1.hide.trans hh)) hx hy hz hb' hl hs9) ?_
      rintro r H3 ⟨hp3, hn3, p3, s3, rfl, g1, g2, g3, g4⟩
      simp only [hOut_f]
      (repeat' (first | refine Z ?_ | refine rn_blk_x (by decide) ?_ | ((first | refine' Y ?_ ?_ | refine' X ?_ ?_ ?_); rotate_left; (· (first | (simp (disch := omega) only [evl, Nat.reduceEqDiff, Nat.reduceAdd, reduceIte, reduceCtorEq, h9] <;> exact rfl) | exact rfl)); all_goals try (refine fun (hb : _ = _) => ?_; try simp only [Zu, ne_eq, reduceCtorEq] at hb)) | (apply rk_gd_u; · simp [evl])))
      refine rn_seq_n ?_
      exact Hfin.out _ H3 p3 s3 (by (first | (simp (disch := omega) only [evl, Nat.reduceEqDiff, Nat.reduceAdd, reduceIte, reduceCtorEq, h9] <;> exact rfl) | exact rfl)) (by (first | (simp (disch := omega) only [evl, Nat.reduceEqDiff, Nat.reduceAdd, reduceIte, reduceCtorEq] <;> exact rfl) | exact rfl)) g1 g2 (hp.trans hp3 (r := (· ≠ H.next)) fun j hj h => ⟨h, h⟩) g3
    have Hlast := Hd.mk last
    clear last
    by_cases h50 : n < 50
    · (repeat' (first | refine Z ?_ | refine rn_blk_x (by decide) ?_ | ((first | refine' Y ?_ ?_ | refine' X ?_ ?_ ?_); rotate_left; (· (first | (simp (disch := omega) only [evl, Nat.reduceEqDiff, Nat.reduceAdd, reduceIte, reduceCtorEq, hni, hqd, e1, e2, e3] <;> exact rfl) | exact rfl)); all_goals try (refine fun (hb : _ = _) => ?_; try simp only [Zu, ne_eq, reduceCtorEq] at hb)) | (apply rk_gd_u; · simp [evl])))
      refine rn_seq_n ?_
      (repeat' (first | refine Z ?_ | refine rn_blk_x (by decide) ?_ | ((first | refine' Y ?_ ?_ | refine' X ?_ ?_ ?_); rotate_left; (· (first | (simp (disch := omega) only [evl, Nat.reduceEqDiff, Nat.reduceAdd, reduceIte, reduceCtorEq, hni, hqd, e1, e2, e3] <;> exact rfl) | exact rfl)); all_goals try (refine fun (hb : _ = _) => ?_; try simp only [Zu, ne_eq, reduceCtorEq] at hb)) | (apply rk_gd_u; · simp [evl])))
      refine rn_seq_n ?_
      (repeat' (first | refine Z ?_ | refine rn_blk_x (by decide) ?_ | ((first | refine' Y ?_ ?_ | refine' X ?_ ?_ ?_); rotate_left; (· (first | (simp (disch := omega) only [evl, Nat.reduceEqDiff, Nat.reduceAdd, reduceIte, reduceCtorEq, hni, hqd, e1, e2, e3] <;> exact rfl) | exact rfl)); all_goals try (refine fun (hb : _ = _) => ?_; try simp only [Zu, ne_eq, reduceCtorEq] at hb)) | (apply rk_gd_u; · simp [evl])))
      refine rn_seq_n ?_
      exact Hlast.out _ H1 (a + q) (a + 2 * q) (a + 3 * q) 0 (by (first | (simp (disch := omega) only [evl, Nat.reduceEqDiff, Nat.reduceAdd, reduceIte, reduceCtorEq] <;> exact rfl) | exact rfl)) (by (first | (simp (disch := omega) only [evl, Nat.reduceEqDiff, Nat.reduceAdd, reduceIte, reduceCtorEq] <;> exact rfl) | exact rfl)) (by (first | (simp (disch := omega) only [evl, Nat.reduceEqDiff, Nat.reduceAdd, reduceIte, reduceCtorEq, e1] <;> exact rfl) | exact rfl)) (by (first | (simp (disch := omega) only [evl, Nat.reduceEqDiff, Nat.reduceAdd, reduceIte, reduceCtorEq, e2] <;> exact rfl) | exact rfl)) (by (first | (simp (disch := omega) only [evl, Nat.reduceEqDiff, Nat.reduceAdd, reduceIte, reduceCtorEq, e3] <;> exact rfl) | exact rfl)) (by omega) (by omega) (by omega) (HP.refl _ _) rfl hs0 (by omega)
    · (repeat' (first | refine Z ?_ | refine rn_blk_x (by decide) ?_ | ((first | refine' Y ?_ ?_ | refine' X ?_ ?_ ?_); rotate_left; (· (first | (simp (disch := omega) only [evl, Nat.reduceEqDiff, Nat.reduceAdd, reduceIte, reduceCtorEq, hni, hqd, e1, e2, e3] <;> exact rfl) | exact rfl)); all_goals try (refine fun (hb : _ = _) => ?_; try simp only [Zu, ne_eq, reduceCtorEq] at hb)) | (apply rk_gd_u; · simp [evl])))
      refine rn_seq_n ?_
      (repeat' (first | refine Z ?_ | refine rn_blk_x (by decide) ?_ | ((first | refine' Y ?_ ?_ | refine' X ?_ ?_ ?_); rotate_left; (· (first | (simp (disch := omega) only [evl, Nat.reduceEqDiff, Nat.reduceAdd, reduceIte, reduceCtorEq, hni, hqd, e1, e2, e3] <;> exact rfl) | exact rfl)); all_goals try (refine fun (hb : _ = _) => ?_; try simp only [Zu, ne_eq, reduceCtorEq] at hb)) | (apply rk_gd_u; · simp [evl])))
      refine rn_seq_n ?_
      (repeat' (first | refine Z ?_ | refine rn_blk_x (by decide) ?_ | ((first | refine' Y ?_ ?_ | refine' X ?_ ?_ ?_); rotate_left; (· (first | (simp (disch := omega) only [evl, Nat.reduceEqDiff, Nat.reduceAdd, reduceIte, reduceCtorEq, hni, hqd, e1, e2, e3] <;> exact rfl) | exact rfl)); all_goals try (refine fun (hb : _ = _) => ?_; try simp only [Zu, ne_eq, reduceCtorEq] at hb)) | (apply rk_gd_u; · simp [evl])))
      refine rk_cl (by (simp (disch := omega) only [evl, Nat.reduceEqDiff, Nat.reduceAdd, reduceIte, reduceCtorEq]); exact medAdj_ok H1 xs i c (a + q) H.next 0 a b op op' hrow1 hs0 hne (by omega) (by omega) (by rw [hx1.lo]; omega) (hx1.hide.trans hh) (by omega) hb' hl (by omega)) ?_
      rintro r H2 ⟨hp2, hn2, x, s2, rfl, gx1, gx2, hs2, gs2⟩
      simp only [hOut_f]
      (repeat' (first | refine Z ?_ | refine rn_blk_x (by decide) ?_ | ((first | refine' Y ?_ ?_ | refine' X ?_ ?_ ?_); rotate_left; (· (first | (simp (disch := omega) only [evl, Nat.reduceEqDiff, Nat.reduceAdd, reduceIte, reduceCtorEq, e2] <;> exact rfl) | exact rfl)); all_goals try (refine fun (hb : _ = _) => ?_; try simp only [Zu, ne_eq, reduceCtorEq] at hb)) | (apply rk_gd_u; · simp [evl])))
      refine rn_seq_n ?_
      (repeat' (first | refine Z ?_ | refine rn_blk_x (by decide) ?_ | ((first | refine' Y ?_ ?_ | refine' X ?_ ?_ ?_); rotate_left; (· (first | (simp (disch := omega) only [evl, Nat.reduceEqDiff, Nat.reduceAdd, reduceIte, reduceCtorEq, e2] <;> exact rfl) | exact rfl)); all_goals try (refine fun (hb : _ = _) => ?_; try simp only [Zu, ne_eq, reduceCtorEq] at hb)) | (apply rk_gd_u; · simp [evl])))
      refine rk_cl (by (simp (disch := omega) only [evl, Nat.reduceEqDiff, Nat.reduceAdd, reduceIte, reduceCtorEq, e2]); exact medAdj_ok H2 xs i c (a + 2 * q) H.next s2 a b op op' (hrow1.hp hp2 (by omega) hne) hs2 hne (by omega) (by omega) (by rw [hp2.lo, hx1.lo]; omega) (hp2.hide.trans (hx1.hide.trans hh)) (by omega) hb' hl (by omega)) ?_
      rintro r H3 ⟨hp3', hn3, y, s3, rfl, gy1, gy2, hs3, gs3⟩
      have hp3 := hp2.trans hp3' (r := (· ≠ H.next)) fun j hj h => ⟨h, h⟩
      simp only [hOut_f]
      (repeat' (first | refine Z ?_ | refine rn_blk_x (by decide) ?_ | ((first | refine' Y ?_ ?_ | refine' X ?_ ?_ ?_); rotate_left; (· (first | (simp (disch := omega) only [evl, Nat.reduceEqDiff, Nat.reduceAdd, reduceIte, reduceCtorEq, e3] <;> exact rfl) | exact rfl)); all_goals try (refine fun (hb : _ = _) => ?_; try simp only [Zu, ne_eq, reduceCtorEq] at hb)) | (apply rk_gd_u; · simp [evl])))
      refine rn_seq_n ?_
      (repeat' (first | refine Z ?_ | refine rn_blk_x (by decide) ?_ | ((first | refine' Y ?_ ?_ | refine' X ?_ ?_ ?_); rotate_left; (· (first | (simp (disch := omega) only [evl, Nat.reduceEqDiff, Nat.reduceAdd, reduceIte, reduceCtorEq, e3] <;> exact rfl) | exact rfl)); all_goals try (refine fun (hb : _ = _) => ?_; try simp only [Zu, ne_eq, reduceCtorEq] at hb)) | (apply rk_gd_u; · simp [evl])))
      refine rk_cl (by (simp (disch := omega) only [evl, Nat.reduceEqDiff, Nat.reduceAdd, reduceIte, reduceCtorEq, e3]); exact medAdj_ok H3 xs i c (a + 3 * q) H.next s3 a b op op' (hrow1.hp hp3 (by omega) hne) hs3 hne (by omega) (by omega) (by rw [hp3.lo, hx1.lo]; omega) (hp3.hide.trans (hx1.hide.trans hh)) (by omega) hb' hl (by omega)) ?_
      rintro r H4 ⟨hp4', hn4, z, s4, rfl, gz1, gz2, hs4, gs4⟩
      have hp4 := hp3.trans hp4' (r := (· ≠ H.next)) fun j hj h => ⟨h, h⟩
      simp only [hOut_f]
      (repeat' (first | refine Z ?_ | refine rn_blk_x (by decide) ?_ | ((first | refine' Y ?_ ?_ | refine' X ?_ ?_ ?_); rotate_left; (· (first | (simp (disch := omega) only [evl, Nat.reduceEqDiff, Nat.reduceAdd, reduceIte, reduceCtorEq] <;> exact rfl) | exact rfl)); all_goals try (refine fun (hb : _ = _) => ?_; try simp only [Zu, ne_eq, reduceCtorEq] at hb)) | (apply rk_gd_u; · simp [evl])))
      refine rn_seq_n ?_
      exact Hlast.out _ H4 x y z s4 (by (first | (simp (disch := omega) only [evl, Nat.reduceEqDiff, Nat.reduceAdd, reduceIte, reduceCtorEq] <;> exact rfl) | exact rfl)) (by (first | (simp (disch := omega) only [evl, Nat.reduceEqDiff, Nat.reduceAdd, reduceIte, reduceCtorEq] <;> exact rfl) | exact rfl)) (by (first | (simp (disch := omega) only [evl, Nat.reduceEqDiff, Nat.reduceAdd, reduceIte, reduceCtorEq] <;> exact rfl) | exact rfl)) (by (first | (simp (disch := omega) only [evl, Nat.reduceEqDiff, Nat.reduceAdd, reduceIte, reduceCtorEq] <;> exact rfl) | exact rfl)) (by (first | (simp (disch := omega) only [evl, Nat.reduceEqDiff, Nat.reduceAdd, reduceIte, reduceCtorEq] <;> exact rfl) | exact rfl)) ⟨gx1, gx2⟩ ⟨gy1, gy2⟩ ⟨gz1, gz2⟩ hp4 (by omega) hs4 (by omega)
end PQ
end Go.Proofs.Ytnkomaedmblemaa

set_option linter.unusedSimpArgs false
set_option linter.unusedVariables false
set_option maxRecDepth 100000
namespace Go.Proofs.Ytnkomaedmblemaa
open Go.Ev Exl
open Ra Rb Rc Rd Re Rf Rg Rh Ri Rj Rk Rl Rm Rn Ro Rp Rq Rr
namespace PQ

/-! ### Patterns are broken -/
theorem fwu {n : Nat} (h : n < 18446744073709551616) : fw .u64 (n : Int) = n := by
  show Int.ofNat (n % 18446744073709551616) = _
  rw [Nat.mod_eq_of_lt h]; rfl
theorem cu {n : Nat} (k : IntKind) (h : n < 18446744073709551616) : cvI .u64 (.int k (n : Int)) = some (.int .u64 (n : Int)) := by
  show some (AV.int .u64 (fw .u64 n)) = _
  rw [fwu h]
theorem ci {n : Nat} (k : IntKind) (h : n ≤ 9223372036854775807) : cvI .i64 (.int k (n : Int)) = some (.int .i64 (n : Int)) := by
  show some (AV.int .i64 (fw .i64 n)) = _
  rw [fw64 (by omega) (by omega)]
theorem c8 {n : Nat} (k : IntKind) (h : n < 256) : cvI .u8 (.int k (n : Int)) = some (.int .u8 (n : Int)) := by
  show some (AV.int .u8 (Int.ofNat (n % 256))) = _
  rw [Nat.mod_eq_of_lt h]; rfl
theorem bx (s : AV → AV → Option AV) (m n : Nat) : ∃ r : Nat, binF .xor s (.int .u64 (m : Int)) (.int .u64 (n : Int)) = some (.int .u64 (r : Int)) := ⟨_, int2_same _ _ _ _ _⟩
theorem bsl (s : AV → AV → Option AV) (m n : Nat) (k : IntKind) : ∃ r : Nat, binF .shl s (.int .u64 (m : Int)) (.int k (n : Int)) = some (.int .u64 (r : Int)) := ⟨_, rfl⟩
theorem bsr (s : AV → AV → Option AV) (m n : Nat) (k : IntKind) : ∃ r : Nat, binF .shr s (.int .u64 (m : Int)) (.int k (n : Int)) = some (.int .u64 (r : Int)) := ⟨_, rfl⟩
theorem band (s : AV → AV → Option AV) (m n : Nat) (hn : n < 18446744073709551616) : ∃ r : Nat, r ≤ n ∧ binF .and s (.int .u64 (m : Int)) (.int .u64 (n : Int)) = some (.int .u64 (r : Int)) := by
  refine ⟨_, ?_, int2_same _ _ _ _ _⟩
  refine Nat.le_trans (Nat.mod_le _ _) ?_
  refine Nat.le_trans Nat.and_le_right ?_
  exact Nat.mod_le _ _
theorem shr8 (s : AV → AV → Option AV) (m : Nat) : binF .shr s (.int .u64 (m : Int)) (.int .u64 8) = some (.int .u64 ((m / 256 : Nat) : Int)) := rfl
theorem shl1 (s : AV → AV → Option AV) (k : Nat) (h : k ≤ 20) : binF .shl s (.int .u64 1) (.int .i64 (k : Int)) = some (.int .u64 ((2 ^ k : Nat) : Int)) := by
  obtain rfl | rfl | rfl | rfl | rfl | rfl | rfl | rfl | rfl | rfl | rfl | rfl | rfl | rfl | rfl | rfl | rfl | rfl | rfl | rfl | rfl : k = 0 ∨ k = 1 ∨ k = 2 ∨ k = 3 ∨ k = 4 ∨ k = 5 ∨ k = 6 ∨ k = 7 ∨ k = 8 ∨ k = 9 ∨ k = 10 ∨ k = 11 ∨ k = 12 ∨ k = 13 ∨ k = 14 ∨ k = 15 ∨ k = 16 ∨ k = 17 ∨ k = 18 ∨ k = 19 ∨ k = 20 := by omega
  all_goals rfl

/-- The table of lengths. -/
noncomputable def tabOk (m : Nat) : Bool := match evIndex look 9 len8tab (.int .u8 (.ofNat m)) with | some (.int .u8 (.ofNat t)) => Nat.ble t 8 && (Nat.blt m (Nat.pow 2 t) && (Nat.ble (Nat.pow 2 t) (Nat.mul 2 m) || Nat.beq m 0)) | _ => false
noncomputable def tabAll : Bool := (List.range 256).all tabOk
theorem tabAll_ok : tabAll = true := by kernel_rfl
theorem tab_get {m : Nat} (h : m < 256) : ∃ t : Nat, t ≤ 8 ∧ m < 2 ^ t ∧ (m = 0 ∨ 2 ^ t ≤ 2 * m) ∧ evIndex look 9 len8tab (.int .u8 (m : Int)) = some (.int .u8 (t : Int)) := by
  have h1 := List.all_eq_true.1 tabAll_ok m (List.mem_range.2 h)
  unfold tabOk at h1
  split at h1
  · next t ht =>
    rw [Bool.and_eq_true, Bool.and_eq_true, Bool.or_eq_true] at h1
    obtain ⟨h2, h3, h4⟩ := h1
    refine ⟨t, Nat.le_of_ble_eq_true h2, by rw [Nat.blt_eq] at h3; exact h3, ?_, ht⟩
    rcases h4 with h4 | h4
    · exact .inr (Nat.le_of_ble_eq_true h4)
    · exact .inl (Nat.eq_of_beq_eq_true h4)
  · cases h1

theorem len64_ok (H : AH) (n : Nat) (h1 : 1 ≤ n) (h2 : n < 65536) : FnE look 73 [.int .u64 (n : Int)] H fun r H' => H' = H ∧ ∃ k : Nat, r = .int .i64 k ∧ k ≤ 16 ∧ 2 ^ k ≤ 2 * n := by
  refine fn_intro f73_eq (noext rfl) rfl ?_
  unfold f73c
  by_cases h : n < 256
  · obtain ⟨t, t1, t2, t3, t4⟩ := tab_get h
    have hc := c8 (n := n) .u64 h
    have hci := ci (n := t) .u8 (by omega)
    (repeat' (first | refine Z ?_ | refine Zq ?_ | refine rn_blk_x (by decide) ?_ | ((first | refine' Y ?_ ?_ | refine' X ?_ ?_ ?_); rotate_left; (· (first | (simp (disch := omega) only [evl, Nat.reduceEqDiff, Nat.reduceAdd, reduceIte, reduceCtorEq, hc, t4, hci] <;> exact rfl) | exact rfl)); all_goals try (refine fun (hb : _ = _) => ?_; try simp only [Zu, ne_eq, reduceCtorEq] at hb)) | (apply rk_gd_u; · simp [evl])))
    refine rn_nil ?_; refine fq_ret (resV_1 _ _) ⟨rfl, t, ?_, by omega, by omega⟩
    (simp (disch := omega) only [evl, Nat.reduceEqDiff, Nat.reduceAdd, reduceIte, reduceCtorEq, hc, t4, hci])
    rw [Int.zero_add]
  · have hsh : ∀ s, binF .shr s (.int .u64 (n : Int)) (.int .u64 8) = some (.int .u64 ((n / 256 : Nat) : Int)) := fun s => shr8 s n
    obtain ⟨m, hm⟩ : ∃ m, m = n / 256 := ⟨_, rfl⟩
    rw [← hm] at hsh
    obtain ⟨t, t1, t2, t3, t4⟩ := tab_get (m := m) (by omega)
    have hc := c8 (n := m) .u64 (by omega)
    have hci := ci (n := t) .u8 (by omega)
    (repeat' (first | refine Z ?_ | refine Zq ?_ | refine rn_blk_x (by decide) ?_ | ((first | refine' Y ?_ ?_ | refine' X ?_ ?_ ?_); rotate_left; (· (first | (simp (disch := omega) only [evl, Nat.reduceEqDiff, Nat.reduceAdd, reduceIte, reduceCtorEq, hsh, hc, t4, hci] <;> exact rfl) | exact rfl)); all_goals try (refine fun (hb : _ = _) => ?_; try simp only [Zu, ne_eq, reduceCtorEq] at hb)) | (apply rk_gd_u; · simp [evl])))
    refine rn_nil ?_; refine fq_ret (resV_1 _ _) ⟨rfl, 8 + t, ?_, by omega, ?_⟩
    · (simp (disch := omega) only [evl, Nat.reduceEqDiff, Nat.reduceAdd, reduceIte, reduceCtorEq, hsh, hc, t4, hci]); rw [Int.natCast_add]; rfl
    · rw [Nat.pow_add]; omega
theorem len_ok (H : AH) (n : Nat) (h1 : 1 ≤ n) (h2 : n < 65536) : FnE look 61 [.int .u64 (n : Int)] H fun r H' => H' = H ∧ ∃ k : Nat, r = .int .i64 k ∧ k ≤ 16 ∧ 2 ^ k ≤ 2 * n := by
  refine fn_intro f61_eq (noext rfl) rfl ?_
  unfold f61c
  (repeat' (first | refine Z ?_ | refine rn_blk_x (by decide) ?_ | ((first | refine' Y ?_ ?_ | refine' X ?_ ?_ ?_); rotate_left; (· (first | (simp (disch := omega) only [evl, Nat.reduceEqDiff, Nat.reduceAdd, reduceIte, reduceCtorEq] <;> exact rfl) | exact rfl)); all_goals try (refine fun (hb : _ = _) => ?_; try simp only [Zu, ne_eq, reduceCtorEq] at hb)) | (apply rk_gd_u; · simp [evl])))
  refine rn_seq_n ?_
  refine rc_seq ?_
  refine rc_cond_f rfl ?_
  (repeat' (first | refine Z ?_ | refine Zq ?_ | refine rn_blk_x (by decide) ?_ | ((first | refine' Y ?_ ?_ | refine' X ?_ ?_ ?_); rotate_left; (· (first | (simp (disch := omega) only [evl, Nat.reduceEqDiff, Nat.reduceAdd, reduceIte, reduceCtorEq] <;> exact rfl) | exact rfl)); all_goals try (refine fun (hb : _ = _) => ?_; try simp only [Zu, ne_eq, reduceCtorEq] at hb)) | (apply rk_gd_u; · simp [evl])))
  refine rk_cl (by (simp (disch := omega) only [evl, Nat.reduceEqDiff, Nat.reduceAdd, reduceIte, reduceCtorEq]); exact len64_ok H n h1 h2) ?_
  rintro r H1 ⟨rfl, k, rfl, hk⟩
  simp only [hOut_f]
  (repeat' (first | refine Z ?_ | refine Zq ?_ | refine rn_blk_x (by decide) ?_ | ((first | refine' Y ?_ ?_ | refine' X ?_ ?_ ?_); rotate_left; (· (first | (simp (disch := omega) only [evl, Nat.reduceEqDiff, Nat.reduceAdd, reduceIte, reduceCtorEq] <;> exact rfl) | exact rfl)); all_goals try (refine fun (hb : _ = _) => ?_; try simp only [Zu, ne_eq, reduceCtorEq] at hb)) | (apply rk_gd_u; · simp [evl])))
  refine rn_nil ?_; refine fq_ret (resV_1 _ _) ⟨rfl, k, ?_, hk⟩
  (simp (disch := omega) only [evl, Nat.reduceEqDiff, Nat.reduceAdd, reduceIte, reduceCtorEq])
theorem pow2_ok (H : AH) (n : Nat) (h1 : 1 ≤ n) (h2 : n < 65536) : FnE look 77 [.int .i64 (n : Int)] H fun r H' => H' = H ∧ ∃ m : Nat, r = .int .u64 m ∧ 1 ≤ m ∧ m ≤ 2 * n := by
  refine fn_intro f77_eq (noext rfl) rfl ?_
  unfold f77c
  have hc := cu (n := n) .i64 (by omega)
  (repeat' (first | refine Z ?_ | refine Zq ?_ | refine rn_blk_x (by decide) ?_ | ((first | refine' Y ?_ ?_ | refine' X ?_ ?_ ?_); rotate_left; (· (first | (simp (disch := omega) only [evl, Nat.reduceEqDiff, Nat.reduceAdd, reduceIte, reduceCtorEq, hc] <;> exact rfl) | exact rfl)); all_goals try (refine fun (hb : _ = _) => ?_; try simp only [Zu, ne_eq, reduceCtorEq] at hb)) | (apply rk_gd_u; · simp [evl])))
  refine rk_cl (by (simp (disch := omega) only [evl, Nat.reduceEqDiff, Nat.reduceAdd, reduceIte, reduceCtorEq]); exact len_ok H n h1 h2) ?_
  rintro r H1 ⟨rfl, k, rfl, hk, hk2⟩
  simp only [hOut_f]
  have hs := fun s => shl1 s k (by omega)
  have hp : 1 ≤ 2 ^ k := Nat.one_le_two_pow
  (repeat' (first | refine Z ?_ | refine Zq ?_ | refine rn_blk_x (by decide) ?_ | ((first | refine' Y ?_ ?_ | refine' X ?_ ?_ ?_); rotate_left; (· (first | (simp (disch := omega) only [evl, Nat.reduceEqDiff, Nat.reduceAdd, reduceIte, reduceCtorEq, hs] <;> exact rfl) | exact rfl)); all_goals try (refine fun (hb : _ = _) => ?_; try simp only [Zu, ne_eq, reduceCtorEq] at hb)) | (apply rk_gd_u; · simp [evl])))
  refine rn_nil ?_; refine fq_ret (resV_1 _ _) ⟨rfl, 2 ^ k, ?_, hp, hk2⟩
  (simp (disch := omega) only [evl, Nat.reduceEqDiff, Nat.reduceAdd, reduceIte, reduceCtorEq, hs])
theorem next_ok (H : AH) (m w : Nat) (hr : Row H w false false 91 1 [.int .u64 (m : Int)]) (hw : w < H.next) (hlo : H.lo ≤ w) (hh : H.hide = []) : FnE look 78 [.ptr w 0] H fun r H' => HP (· ≠ w) H H' ∧ H'.next = H.next ∧ ∃ k : Nat, r = .int .u64 k ∧ Row H' w false false 91 1 [.int .u64 (k : Int)] := by
  refine fn_intro f78_eq (noext rfl) rfl ?_
  unfold f78c
  have hrd := hr.rd (k := 0) rfl
  obtain ⟨q1, hq1⟩ := bsl (evBin look .shl 91 (.tmp 8) (.const (.int .u64 (13)))) m 13 .u64
  obtain ⟨q2, hq2⟩ := bx (evBin look .xor 91 (.tmp 5) (.tmp 9)) m q1
  obtain ⟨H1, hs1, hr1, hp1, hn1⟩ := hr.st1 (L := look) (t := 91) (v := .int .u64 (q2 : Int)) (k := 0) hh hlo z91 rfl (by simp)
  have hrd1 := hr1.rd (k := 0) rfl
  have hq1 : binF .shl (evBin look .shl 91 (.tmp 8) (.const (.int .u64 (13)))) (.int .u64 (m : Int)) (.int .u64 13) = some (.int .u64 (q1 : Int)) := hq1
  (repeat' (first | refine Z ?_ | refine Zq ?_ | refine rn_blk_x (by decide) ?_ | ((first | refine' Y ?_ ?_ | refine' X ?_ ?_ ?_); rotate_left; (· (first | (simp (disch := omega) only [evl, Nat.reduceEqDiff, Nat.reduceAdd, reduceIte, reduceCtorEq, hrd, hq1, hq2] <;> exact rfl) | exact rfl)); all_goals try (refine fun (hb : _ = _) => ?_; try simp only [Zu, ne_eq, reduceCtorEq] at hb)) | (apply rk_gd_u; · simp [evl])))
  apply rk_st
  · (simp (disch := omega) only [evl, Nat.reduceEqDiff, Nat.reduceAdd, reduceIte, reduceCtorEq])
    exact hs1
  simp only [hOut_f]
  obtain ⟨q3, hq3⟩ := bsr (evBin look .shr 91 (.tmp 17) (.const (.int .u64 (7)))) q2 7 .u64
  obtain ⟨q4, hq4⟩ := bx (evBin look .xor 91 (.tmp 14) (.tmp 18)) q2 q3
  have hq3 : binF .shr (evBin look .shr 91 (.tmp 17) (.const (.int .u64 (7)))) (.int .u64 (q2 : Int)) (.int .u64 7) = some (.int .u64 (q3 : Int)) := hq3
  obtain ⟨H2, hs2, hr2, hp2, hn2⟩ := hr1.st1 (L := look) (t := 91) (v := .int .u64 (q4 : Int)) (k := 0) (hp1.hide.trans hh) (by rw [hp1.lo]; exact hlo) z91 rfl (by simp)
  have hpA := hp1.trans hp2 (r := (· ≠ w)) fun j hj h => ⟨h, h⟩
  (repeat' (first | refine Z ?_ | refine Zq ?_ | refine rn_blk_x (by decide) ?_ | ((first | refine' Y ?_ ?_ | refine' X ?_ ?_ ?_); rotate_left; (· (first | (simp (disch := omega) only [evl, Nat.reduceEqDiff, Nat.reduceAdd, reduceIte, reduceCtorEq, hrd1, hq3, hq4] <;> exact rfl) | exact rfl)); all_goals try (refine fun (hb : _ = _) => ?_; try simp only [Zu, ne_eq, reduceCtorEq] at hb)) | (apply rk_gd_u; · simp [evl])))
  apply rk_st
  · (simp (disch := omega) only [evl, Nat.reduceEqDiff, Nat.reduceAdd, reduceIte, reduceCtorEq])
    exact hs2
  simp only [hOut_f]
  have hrd2 := hr2.rd (k := 0) rfl
  obtain ⟨q5, hq5⟩ := bsl (evBin look .shl 91 (.tmp 26) (.const (.int .u64 (17)))) q4 17 .u64
  obtain ⟨q6, hq6⟩ := bx (evBin look .xor 91 (.tmp 23) (.tmp 27)) q4 q5
  have hq5 : binF .shl (evBin look .shl 91 (.tmp 26) (.const (.int .u64 (17)))) (.int .u64 (q4 : Int)) (.int .u64 17) = some (.int .u64 (q5 : Int)) := hq5
  obtain ⟨H3, hs3, hr3, hp3, hn3⟩ := hr2.st1 (L := look) (t := 91) (v := .int .u64 (q6 : Int)) (k := 0) (hpA.hide.trans hh) (by rw [hpA.lo]; exact hlo) z91 rfl (by simp)
  have hpB := hpA.trans hp3 (r := (· ≠ w)) fun j hj h => ⟨h, h⟩
  (repeat' (first | refine Z ?_ | refine Zq ?_ | refine rn_blk_x (by decide) ?_ | ((first | refine' Y ?_ ?_ | refine' X ?_ ?_ ?_); rotate_left; (· (first | (simp (disch := omega) only [evl, Nat.reduceEqDiff, Nat.reduceAdd, reduceIte, reduceCtorEq, hrd2, hq5, hq6] <;> exact rfl) | exact rfl)); all_goals try (refine fun (hb : _ = _) => ?_; try simp only [Zu, ne_eq, reduceCtorEq] at hb)) | (apply rk_gd_u; · simp [evl])))
  apply rk_st
  · (simp (disch := omega) only [evl, Nat.reduceEqDiff, Nat.reduceAdd, reduceIte, reduceCtorEq])
    exact hs3
  simp only [hOut_f]
  have hrd3 := hr3.rd (k := 0) rfl
  (repeat' (first | refine Z ?_ | refine Zq ?_ | refine rn_blk_x (by decide) ?_ | ((first | refine' Y ?_ ?_ | refine' X ?_ ?_ ?_); rotate_left; (· (first | (simp (disch := omega) only [evl, Nat.reduceEqDiff, Nat.reduceAdd, reduceIte, reduceCtorEq, hrd3] <;> exact rfl) | exact rfl)); all_goals try (refine fun (hb : _ = _) => ?_; try simp only [Zu, ne_eq, reduceCtorEq] at hb)) | (apply rk_gd_u; · simp [evl])))
  refine rn_nil ?_; refine fq_ret (resV_1 _ _) ⟨hpB, by omega, q6, ?_, hr3⟩
  (simp (disch := omega) only [evl, Nat.reduceEqDiff, Nat.reduceAdd, reduceIte, reduceCtorEq, hrd3])

set_option maxHeartbeats 8000000 in
theorem break_ok (H : AH) (xs : List Int) (i c a b : Nat) (op op' : Bool) (hr : Row H i false op' 3 1 (iC xs)) (hi : i < H.next) (hlo : H.lo ≤ i) (hh : H.hide = [])
    (hab : a + 8 ≤ b) (hb' : b ≤ xs.length) (hl : xs.length ≤ 60000) :
    FnE look 65 [.sl i 0 xs.length c op, .int .i64 a, .int .i64 b] H fun r H' => Done xs i a b op' H H' fun _ => True := by
  refine fn_intro f65_eq (noext rfl) rfl ?_
  unfold f65c
  obtain ⟨n, hn⟩ : ∃ n : Nat, n = b - a := ⟨_, rfl⟩
  have hni : (b : Int) - a = (n : Int) := by omega
  have hc := cu (n := n) .i64 (by omega)
  obtain ⟨q, hq⟩ : ∃ q : Nat, q = n / 4 := ⟨_, rfl⟩
  have hqd : ∀ s, binF .quo s (.int .i64 (n : Int)) (.int .i64 4) = some (.int .i64 (q : Int)) := fun s => by rw [hq]; exact quoN s n 4 (by omega) (by omega)
  obtain ⟨w, hw⟩ : ∃ w : Nat, w = a + 2 * q := ⟨_, rfl⟩
  have e2 : (a : Int) + (q : Int) * 2 = (w : Int) := by omega
  have hwb : a + 4 ≤ w ∧ w + 2 ≤ b := by omega
  obtain ⟨H1, hal, hx1, hn1, hr1⟩ := al_box (e := 91) (s := 1) (c := AV.toC (.int .u64 0)) hh
  rw [toC_l] at hr1
  obtain ⟨H2, hst, hr2, hp2, hn2⟩ := Row.st1 (L := look) (t := 91) (v := .int .u64 (n : Int)) (k := 0) hr1 (hx1.hide.trans hh) (by rw [hx1.lo]; omega) z91 rfl (by simp [AV.cells])
  have hpA : HP (fun j => j < H.next) H H2 := (hx1.hp fun _ => True).trans hp2 fun j hj h => ⟨trivial, by omega⟩
  have hn8 : ¬ ((n : Int) < 8) := by omega
  (repeat' (first | refine Z ?_ | refine Zq ?_ | refine rn_blk_x (by decide) ?_ | ((first | refine' Y ?_ ?_ | refine' X ?_ ?_ ?_); rotate_left; (· (first | (simp (disch := omega) only [evl, Nat.reduceEqDiff, Nat.reduceAdd, reduceIte, reduceCtorEq, hni, hc] <;> exact rfl) | exact rfl)); all_goals try (refine fun (hb : _ = _) => ?_; try simp only [Zu, ne_eq, reduceCtorEq] at hb)) | (apply rk_gd_u; · simp [evl])))
  apply rk_al
  · (simp (disch := omega) only [evl, Nat.reduceEqDiff, Nat.reduceAdd, reduceIte, reduceCtorEq])
    exact hal
  simp only [hOut_f]
  (repeat' (first | refine Z ?_ | refine Zq ?_ | refine rn_blk_x (by decide) ?_ | ((first | refine' Y ?_ ?_ | refine' X ?_ ?_ ?_); rotate_left; (· (first | (simp (disch := omega) only [evl, Nat.reduceEqDiff, Nat.reduceAdd, reduceIte, reduceCtorEq] <;> exact rfl) | exact rfl)); all_goals try (refine fun (hb : _ = _) => ?_; try simp only [Zu, ne_eq, reduceCtorEq] at hb)) | (apply rk_gd_u; · simp [evl])))
  apply rk_st
  · (simp (disch := omega) only [evl, Nat.reduceEqDiff, Nat.reduceAdd, reduceIte, reduceCtorEq])
    exact hst
  simp only [hOut_f]
  (repeat' (first | refine Z ?_ | refine Zq ?_ | refine rn_blk_x (by decide) ?_ | ((first | refine' Y ?_ ?_ | refine' X ?_ ?_ ?_); rotate_left; (· (first | (simp (disch := omega) only [evl, Nat.reduceEqDiff, Nat.reduceAdd, reduceIte, reduceCtorEq] <;> exact rfl) | exact rfl)); all_goals try (refine fun (hb : _ = _) => ?_; try simp only [Zu, ne_eq, reduceCtorEq] at hb)) | (apply rk_gd_u; · simp [evl])))
  refine rk_cl (by (simp (disch := omega) only [evl, Nat.reduceEqDiff, Nat.reduceAdd, reduceIte, reduceCtorEq]); exact pow2_ok H2 n (by omega) (by omega)) ?_
  rintro r H2' ⟨hH2, md, rfl, hm1, hm2⟩
  cases hH2
  simp only [hOut_f]
  have hw1 : (w : Int) - 1 = ((w - 1 : Nat) : Int) := by omega
  have hwl : (w : Int) + 1 = ((w + 1 : Nat) : Int) := by omega
  (repeat' (first | refine Z ?_ | refine Zq ?_ | refine rn_blk_x (by decide) ?_ | ((first | refine' Y ?_ ?_ | refine' X ?_ ?_ ?_); rotate_left; (· (first | (simp (disch := omega) only [evl, Nat.reduceEqDiff, Nat.reduceAdd, reduceIte, reduceCtorEq, hqd, e2, hw1] <;> exact rfl) | exact rfl)); all_goals try (refine fun (hb : _ = _) => ?_; try simp only [Zu, ne_eq, reduceCtorEq] at hb)) | (apply rk_gd_u; · simp [evl])))
  refine rc_loop (R := fun ex T' H' => ex = .exit 0 ∧ Done xs i a b op' H H' fun _ => True) ?_ ?_
  · refine lp_ind f65l0_eq (fun k T H' => ∃ (u m : Nat) (ys : List Int), k = w + 2 - u ∧ w ≤ u + 1 ∧ u ≤ w + 2 ∧ gT T 0 = .sl i 0 xs.length c op ∧ gT T 1 = .int .i64 a ∧ gT T 6 = .int .i64 n ∧ gT T 7 = .ptr H.next 0 ∧ gT T 8 = .int .u64 md ∧ gT T 9 = .int .i64 u ∧ HP (fun j => j < H.next ∧ j ≠ i) H H' ∧ H.next < H'.next ∧ Row H' H.next false false 91 1 [.int .u64 (m : Int)] ∧ Row H' i false op' 3 1 (iC ys) ∧ Kp xs ys a b) _ ?_ 3 _ _ ?_
    · intro k T H3 hI
      obtain ⟨u, m, ys, hk, hu1, hu2, h0, h1, h6, h7, h8, h9, hp, hnx, hrr, hrow, hkp⟩ := hI
      unfold f65l0
      have hyl := hkp.len
      by_cases hlt : u ≤ w + 1
      · (repeat' (first | refine Z ?_ | refine Zq ?_ | refine rn_blk_x (by decide) ?_ | ((first | refine' Y ?_ ?_ | refine' X ?_ ?_ ?_); rotate_left; (· (first | (simp (disch := omega) only [evl, Nat.reduceEqDiff, Nat.reduceAdd, reduceIte, reduceCtorEq, h0, h1, h6, h7, h8, h9, hqd, e2, hwl] <;> exact rfl) | exact rfl)); all_goals try (refine fun (hb : _ = _) => ?_; try simp only [Zu, ne_eq, reduceCtorEq] at hb)) | (apply rk_gd_u; · simp [evl])))
        refine rk_cl (by (simp (disch := omega) only [evl, Nat.reduceEqDiff, Nat.reduceAdd, reduceIte, reduceCtorEq, h7]); exact next_ok H3 m H.next hrr hnx (by rw [hp.lo]; omega) (hp.hide.trans hh)) ?_
        rintro r H4 ⟨hp4, hn4, k4, rfl, hrr4⟩
        simp only [hOut_f]
        have hms : ∀ s, binF .sub s (.int .u64 (md : Int)) (.int .u64 1) = some (.int .u64 ((md - 1 : Nat) : Int)) := fun s => by
          rw [bin_sub, show (md : Int) - 1 = ((md - 1 : Nat) : Int) from by omega, fwu (by omega)]
        obtain ⟨r2, hr2a, hand⟩ := band (evBin look .and 74 (.tmp 36) (.tmp 38)) k4 (md - 1) (by omega)
        have hci := ci (n := r2) .u64 (by omega)
        have hrow4 := hrow.hp hp4 (by omega) (by omega)
        have hpB : HP (fun j => j < H.next ∧ j ≠ i) H H4 := hp.trans hp4 fun j hj h => ⟨h, by omega⟩
        -- the swap
        have tail : ∀ (T : Tr AV) (o : Nat), o < n → gT T 0 = .sl i 0 xs.length c op → gT T 1 = .int .i64 a → gT T 6 = .int .i64 n → gT T 7 = .ptr H.next 0 → gT T 8 = .int .u64 md → gT T 9 = .int .i64 u → gT T 10 = .int .i64 o →
            RC look (.reg f65r9) [.blk 1, .seq (.reg f65r10)] T H4 (LpQ (fun k T H' => ∃ (u m : Nat) (ys : List Int), k = w + 2 - u ∧ w ≤ u + 1 ∧ u ≤ w + 2 ∧ gT T 0 = .sl i 0 xs.length c op ∧ gT T 1 = .int .i64 a ∧ gT T 6 = .int .i64 n ∧ gT T 7 = .ptr H.next 0 ∧ gT T 8 = .int .u64 md ∧ gT T 9 = .int .i64 u ∧ HP (fun j => j < H.next ∧ j ≠ i) H H' ∧ H.next < H'.next ∧ Row H' H.next false false 91 1 [.int .u64 (m : Int)] ∧ Row H' i false op' 3 1 (iC ys) ∧ Kp xs ys a b) (fun ex T' H' => ex = .exit 0 ∧ Done xs i a b op' H H' fun _ => True) k) := by
          intro T o ho h0 h1 h6 h7 h8 h9 h10
          have hixA := ixn (i := i) (n := xs.length) (c := c) (op := op) (k := u) (by omega)
          have hixB := ixn (i := i) (n := xs.length) (c := c) (op := op) (k := a + o) (by omega)
          rw [Int.natCast_add] at hixB
          have hrdA := rd hrow4 (k := u) (by omega)
          have hrdB := rd hrow4 (k := a + o) (by omega)
          obtain ⟨H5, H6, hs5, hs6, hr6, hp6, hn6⟩ := swap hrow4 (a := u) (b := a + o) (hpB.hide.trans hh) (by rw [hpB.lo]; exact hlo) (by omega) (by omega)
          have hsw := sw_kp (xs := ys) (a := u) (b := a + o) (lo := a) (hi := b) (by omega) (by omega) (by omega) (by omega) (by omega) (by omega)
          (repeat' (first | refine Z ?_ | refine Zq ?_ | refine rn_blk_x (by decide) ?_ | ((first | refine' Y ?_ ?_ | refine' X ?_ ?_ ?_); rotate_left; (· (first | (simp (disch := omega) only [evl, Nat.reduceEqDiff, Nat.reduceAdd, reduceIte, reduceCtorEq, h0, h1, h9, h10, hixA, hixB, hrdA, hrdB] <;> exact rfl) | exact rfl)); all_goals try (refine fun (hb : _ = _) => ?_; try simp only [Zu, ne_eq, reduceCtorEq] at hb)) | (apply rk_gd_u; · simp [evl])))
          apply rk_st
          · (simp (disch := omega) only [evl, Nat.reduceEqDiff, Nat.reduceAdd, reduceIte, reduceCtorEq])
            exact hs5
          simp only [hOut_f]
          (repeat' (first | refine Z ?_ | refine Zq ?_ | refine rn_blk_x (by decide) ?_ | ((first | refine' Y ?_ ?_ | refine' X ?_ ?_ ?_); rotate_left; (· (first | (simp (disch := omega) only [evl, Nat.reduceEqDiff, Nat.reduceAdd, reduceIte, reduceCtorEq, hixB] <;> exact rfl) | exact rfl)); all_goals try (refine fun (hb : _ = _) => ?_; try simp only [Zu, ne_eq, reduceCtorEq] at hb)) | (apply rk_gd_u; · simp [evl])))
          apply rk_st
          · (simp (disch := omega) only [evl, Nat.reduceEqDiff, Nat.reduceAdd, reduceIte, reduceCtorEq])
            exact hs6
          simp only [hOut_f]
          (repeat' (first | refine Z ?_ | refine Zq ?_ | refine rn_blk_x (by decide) ?_ | ((first | refine' Y ?_ ?_ | refine' X ?_ ?_ ?_); rotate_left; (· (first | (simp (disch := omega) only [evl, Nat.reduceEqDiff, Nat.reduceAdd, reduceIte, reduceCtorEq, h9] <;> exact rfl) | exact rfl)); all_goals try (refine fun (hb : _ = _) => ?_; try simp only [Zu, ne_eq, reduceCtorEq] at hb)) | (apply rk_gd_u; · simp [evl])))
          refine rn_nil ?_; refine lpq_n (w + 2 - (u + 1)) (by omega) ?_
          exact ⟨u + 1, k4, _, rfl, by omega, by omega, (by (first | (simp (disch := omega) only [evl, Nat.reduceEqDiff, Nat.reduceAdd, reduceIte, reduceCtorEq, h0] <;> exact rfl) | exact rfl)), (by (first | (simp (disch := omega) only [evl, Nat.reduceEqDiff, Nat.reduceAdd, reduceIte, reduceCtorEq, h1] <;> exact rfl) | exact rfl)), (by (first | (simp (disch := omega) only [evl, Nat.reduceEqDiff, Nat.reduceAdd, reduceIte, reduceCtorEq, h6] <;> exact rfl) | exact rfl)), (by (first | (simp (disch := omega) only [evl, Nat.reduceEqDiff, Nat.reduceAdd, reduceIte, reduceCtorEq, h7] <;> exact rfl) | exact rfl)), (by (first | (simp (disch := omega) only [evl, Nat.reduceEqDiff, Nat.reduceAdd, reduceIte, reduceCtorEq, h8] <;> exact rfl) | exact rfl)), (by (first | (simp (disch := omega) only [evl, Nat.reduceEqDiff, Nat.reduceAdd, reduceIte, reduceCtorEq] <;> exact rfl) | exact rfl)), hpB.trans hp6 fun j hj h => ⟨h, h.2⟩, by omega, hrr4.hp hp6 (by omega) (by omega), hr6, hkp.trans hsw (Nat.le_refl _) (Nat.le_refl _) (Nat.le_refl _) (Nat.le_refl _)⟩
        have Htail := Hd.mk tail
        clear tail
        by_cases hge : n ≤ r2
        · have hrn : (r2 : Int) - n = ((r2 - n : Nat) : Int) := by omega
          (repeat' (first | refine Z ?_ | refine rn_blk_x (by decide) ?_ | ((first | refine' Y ?_ ?_ | refine' X ?_ ?_ ?_); rotate_left; (· (first | (simp (disch := omega) only [evl, Nat.reduceEqDiff, Nat.reduceAdd, reduceIte, reduceCtorEq, h6, h8, hms, hand, hci, hrn] <;> exact rfl) | exact rfl)); all_goals try (refine fun (hb : _ = _) => ?_; try simp only [Zu, ne_eq, reduceCtorEq] at hb)) | (apply rk_gd_u; · simp [evl])))
          refine rn_seq_n ?_
          (repeat' (first | refine Z ?_ | refine rn_blk_x (by decide) ?_ | ((first | refine' Y ?_ ?_ | refine' X ?_ ?_ ?_); rotate_left; (· (first | (simp (disch := omega) only [evl, Nat.reduceEqDiff, Nat.reduceAdd, reduceIte, reduceCtorEq, h6, h8, hms, hand, hci, hrn] <;> exact rfl) | exact rfl)); all_goals try (refine fun (hb : _ = _) => ?_; try simp only [Zu, ne_eq, reduceCtorEq] at hb)) | (apply rk_gd_u; · simp [evl])))
          refine rn_seq_n ?_
          (repeat' (first | refine Z ?_ | refine rn_blk_x (by decide) ?_ | ((first | refine' Y ?_ ?_ | refine' X ?_ ?_ ?_); rotate_left; (· (first | (simp (disch := omega) only [evl, Nat.reduceEqDiff, Nat.reduceAdd, reduceIte, reduceCtorEq, h6, h8, hms, hand, hci, hrn] <;> exact rfl) | exact rfl)); all_goals try (refine fun (hb : _ = _) => ?_; try simp only [Zu, ne_eq, reduceCtorEq] at hb)) | (apply rk_gd_u; · simp [evl])))
          refine rn_seq_n ?_
          exact Htail.out _ (r2 - n) (by omega) (by (first | (simp (disch := omega) only [evl, Nat.reduceEqDiff, Nat.reduceAdd, reduceIte, reduceCtorEq, h0] <;> exact rfl) | exact rfl)) (by (first | (simp (disch := omega) only [evl, Nat.reduceEqDiff, Nat.reduceAdd, reduceIte, reduceCtorEq, h1] <;> exact rfl) | exact rfl)) (by (first | (simp (disch := omega) only [evl, Nat.reduceEqDiff, Nat.reduceAdd, reduceIte, reduceCtorEq, h6] <;> exact rfl) | exact rfl)) (by (first | (simp (disch := omega) only [evl, Nat.reduceEqDiff, Nat.reduceAdd, reduceIte, reduceCtorEq, h7] <;> exact rfl) | exact rfl)) (by (first | (simp (disch := omega) only [evl, Nat.reduceEqDiff, Nat.reduceAdd, reduceIte, reduceCtorEq, h8] <;> exact rfl) | exact rfl)) (by (first | (simp (disch := omega) only [evl, Nat.reduceEqDiff, Nat.reduceAdd, reduceIte, reduceCtorEq, h9] <;> exact rfl) | exact rfl)) (by (first | (simp (disch := omega) only [evl, Nat.reduceEqDiff, Nat.reduceAdd, reduceIte, reduceCtorEq, hrn] <;> exact rfl) | exact rfl))
        · (repeat' (first | refine Z ?_ | refine rn_blk_x (by decide) ?_ | ((first | refine' Y ?_ ?_ | refine' X ?_ ?_ ?_); rotate_left; (· (first | (simp (disch := omega) only [evl, Nat.reduceEqDiff, Nat.reduceAdd, reduceIte, reduceCtorEq, h6, h8, hms, hand, hci] <;> exact rfl) | exact rfl)); all_goals try (refine fun (hb : _ = _) => ?_; try simp only [Zu, ne_eq, reduceCtorEq] at hb)) | (apply rk_gd_u; · simp [evl])))
          refine rn_seq_n ?_
          (repeat' (first | refine Z ?_ | refine rn_blk_x (by decide) ?_ | ((first | refine' Y ?_ ?_ | refine' X ?_ ?_ ?_); rotate_left; (· (first | (simp (disch := omega) only [evl, Nat.reduceEqDiff, Nat.reduceAdd, reduceIte, reduceCtorEq, h6, h8, hms, hand, hci] <;> exact rfl) | exact rfl)); all_goals try (refine fun (hb : _ = _) => ?_; try simp only [Zu, ne_eq, reduceCtorEq] at hb)) | (apply rk_gd_u; · simp [evl])))
          refine rn_seq_n ?_
          (repeat' (first | refine Z ?_ | refine rn_blk_x (by decide) ?_ | ((first | refine' Y ?_ ?_ | refine' X ?_ ?_ ?_); rotate_left; (· (first | (simp (disch := omega) only [evl, Nat.reduceEqDiff, Nat.reduceAdd, reduceIte, reduceCtorEq, h6, h8, hms, hand, hci] <;> exact rfl) | exact rfl)); all_goals try (refine fun (hb : _ = _) => ?_; try simp only [Zu, ne_eq, reduceCtorEq] at hb)) | (apply rk_gd_u; · simp [evl])))
          refine rn_seq_n ?_
          exact Htail.out _ r2 (by omega) (by (first | (simp (disch := omega) only [evl, Nat.reduceEqDiff, Nat.reduceAdd, reduceIte, reduceCtorEq, h0] <;> exact rfl) | exact rfl)) (by (first | (simp (disch := omega) only [evl, Nat.reduceEqDiff, Nat.reduceAdd, reduceIte, reduceCtorEq, h1] <;> exact rfl) | exact rfl)) (by (first | (simp (disch := omega) only [evl, Nat.reduceEqDiff, Nat.reduceAdd, reduceIte, reduceCtorEq, h6] <;> exact rfl) | exact rfl)) (by (first | (simp (disch := omega) only [evl, Nat.reduceEqDiff, Nat.reduceAdd, reduceIte, reduceCtorEq, h7] <;> exact rfl) | exact rfl)) (by (first | (simp (disch := omega) only [evl, Nat.reduceEqDiff, Nat.reduceAdd, reduceIte, reduceCtorEq, h8] <;> exact rfl) | exact rfl)) (by (first | (simp (disch := omega) only [evl, Nat.reduceEqDiff, Nat.reduceAdd, reduceIte, reduceCtorEq, h9] <;> exact rfl) | exact rfl)) (by (first | (simp (disch := omega) only [evl, Nat.reduceEqDiff, Nat.reduceAdd, reduceIte, reduceCtorEq] <;> exact rfl) | exact rfl))
      · (repeat' (first | refine Z ?_ | refine Zq ?_ | refine rn_blk_x (by decide) ?_ | ((first | refine' Y ?_ ?_ | refine' X ?_ ?_ ?_); rotate_left; (· (first | (simp (disch := omega) only [evl, Nat.reduceEqDiff, Nat.reduceAdd, reduceIte, reduceCtorEq, h1, h6, h9, hqd, e2, hwl] <;> exact rfl) | exact rfl)); all_goals try (refine fun (hb : _ = _) => ?_; try simp only [Zu, ne_eq, reduceCtorEq] at hb)) | (apply rk_gd_u; · simp [evl])))
        refine rn_nil ?_; refine lpq_e ?_
        exact ⟨rfl, hp.mono fun j hj h => ⟨hj, h⟩, ys, hrow, hkp, trivial⟩
    · refine ⟨w - 1, n, xs, by omega, by omega, by omega, (by (first | (simp (disch := omega) only [evl, Nat.reduceEqDiff, Nat.reduceAdd, reduceIte, reduceCtorEq] <;> exact rfl) | exact rfl)), (by (first | (simp (disch := omega) only [evl, Nat.reduceEqDiff, Nat.reduceAdd, reduceIte, reduceCtorEq] <;> exact rfl) | exact rfl)), (by (first | (simp (disch := omega) only [evl, Nat.reduceEqDiff, Nat.reduceAdd, reduceIte, reduceCtorEq, hni] <;> exact rfl) | exact rfl)), (by (first | (simp (disch := omega) only [evl, Nat.reduceEqDiff, Nat.reduceAdd, reduceIte, reduceCtorEq] <;> exact rfl) | exact rfl)), (by (first | (simp (disch := omega) only [evl, Nat.reduceEqDiff, Nat.reduceAdd, reduceIte, reduceCtorEq] <;> exact rfl) | exact rfl)), (by (first | (simp (disch := omega) only [evl, Nat.reduceEqDiff, Nat.reduceAdd, reduceIte, reduceCtorEq, hqd, e2, hw1] <;> exact rfl) | exact rfl)), hpA.mono fun j hj h => hj, by omega, hr2, hr.hp hpA (by omega) (by omega), Kp.refl _ _ _⟩
  · rintro ex T' H' ⟨rfl, hres⟩
    (repeat' (first | refine Z ?_ | refine Zq ?_ | refine rn_blk_x (by decide) ?_ | ((first | refine' Y ?_ ?_ | refine' X ?_ ?_ ?_); rotate_left; (· (first | (simp (disch := omega) only [evl, Nat.reduceEqDiff, Nat.reduceAdd, reduceIte, reduceCtorEq] <;> exact rfl) | exact rfl)); all_goals try (refine fun (hb : _ = _) => ?_; try simp only [Zu, ne_eq, reduceCtorEq] at hb)) | (apply rk_gd_u; · simp [evl])))
    refine rn_nil ?_; exact fq_nor (resV_0 _) hres
end PQ
end Go.Proofs.Ytnkomaedmblemaa
