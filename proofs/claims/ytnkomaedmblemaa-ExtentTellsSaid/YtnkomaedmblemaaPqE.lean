import Derived.Test.YtnkomaedmblemaaPqD
set_option linter.unusedSimpArgs false
set_option linter.unusedVariables false
set_option maxRecDepth 100000
namespace Go.Proofs.Ytnkomaedmblemaa
open Go.Ev Exl
open Ra Rb Rc Rd Re Rf Rg Rh Ri Rj Rk Rl Rm Rn Ro Rp Rq Rr
namespace PQ

theorem SlR.hp {H H' : AH} {v : AV} {n : Nat} {f : Nat → AV} (h : SlR H v n f) {p : Nat → Prop} (hp : HP p H H') (hb : ∀ i o c op, v = .sl i o n c op → p i) : SlR H' v n f := by
  refine ⟨?_, fun k hk => ?_⟩
  · rcases h.is with h | ⟨i, o, c, op, hv, hi, cc, e, z, op', ro, hg, ho⟩
    · exact .inl h
    · exact .inr ⟨i, o, c, op, hv, Nat.lt_of_lt_of_le hi hp.next, cc, e, z, op', ro, by rw [hp.get hi (hb _ _ _ _ hv)]; exact hg, ho⟩
  · have h1 := h.el k hk
    rcases h.is with ⟨rfl, h0⟩ | ⟨i, o, c, op, rfl, hi, _⟩
    · omega
    · have h1 : ld1 (.ptr i (o + k * 1)) H = some (f k) := h1
      show ld1 (.ptr i (o + k * 1)) H' = _
      rw [ld1_get] at h1 ⊢
      unfold AH.read1 AH.row at h1 ⊢
      rw [hp.get hi (hb _ _ _ _ rfl)]; exact h1
theorem SlR.lt {H : AH} {v : AV} {n : Nat} {f : Nat → AV} (h : SlR H v n f) {i o m c : Nat} {op : Bool} (hv : v = .sl i o m c op) : i < H.next := by
  subst hv
  rcases h.is with ⟨h, _⟩ | ⟨i', o', c', op', h, hi, _⟩
  · cases h
  · cases h; exact hi
theorem SlR.one {H : AH} {v : AV} {n : Nat} {f : Nat → AV} (h : SlR H v n f) : v.oneCell = true := by
  rcases h.is with ⟨rfl, _⟩ | ⟨i, o, c, op, rfl, _⟩ <;> rfl
theorem apI {H : AH} {s : AV} {l : List Int} {N : Nat} (h : Ap H s l.length (iC l) 3 1 N) : SlI H s l :=
  h.slR fun k hk => by unfold iC; rw [List.getElem?_map, g_get hk]; rfl
theorem ListP.tup {H H' : AH} {l : List P} {r : AV} (h : ListP H l r H') : ∃ a e, r = .tup [a, .int .i64 e] := by
  rcases h.2 with ⟨_, rfl⟩ | ⟨_, o, rfl, _⟩ <;> exact ⟨_, _, rfl⟩
theorem OfP.tup {H H' : AH} {l : List Int} {r : AV} (h : OfP H l r H') : ∃ a e, r = .tup [a, .int .i64 e] := by
  rcases h.2 with ⟨_, rfl⟩ | ⟨_, o, _, rfl, _⟩ <;> exact ⟨_, _, rfl⟩
theorem list_key {H1 H2 H3 : AH} {l : List P} {r r' : AV} (h1 : ListP H1 l r H2) (h2 : ListR H2 l r' H3) :
    HX H1 H2 ∧ HX H2 H3 ∧ ∃ (e : Int) (zs : List Int) (a b : AV), r = .tup [a, .int .i64 e] ∧ r' = .tup [b, .int .i64 e] ∧ SlI H3 a zs ∧ SlI H3 b zs ∧ zs.length ≤ 5000 := by
  obtain ⟨hx, h1⟩ := h1
  obtain ⟨hx', h2⟩ := h2
  refine ⟨hx, hx', ?_⟩
  have hnil : ∀ H, SlI H .nilSl [] := fun H => ⟨.inl ⟨rfl, rfl⟩, fun k hk => by simp at hk⟩
  rcases h1 with ⟨hno, rfl⟩ | ⟨hok, s, rfl, hap⟩
  · rcases h2 with ⟨_, rfl⟩ | ⟨hok, _⟩
    · exact ⟨2, [], .nilSl, .nilSl, rfl, rfl, hnil _, hnil _, Nat.zero_le _⟩
    · exact absurd hok hno
  · rcases h2 with ⟨hno, _⟩ | ⟨_, t, o, hm, rfl, hap2, _⟩
    · exact absurd hok hno
    · rw [list_eq hok hm.2] at hap2
      have h3 := secs_len hok.pos
      have h4 := Ok.tot (by omega) hok
      exact ⟨0, secs l, s, o, rfl, rfl, (apI hap).hx hx', apI hap2, by omega⟩
theorem of_key {H1 H2 H3 : AH} {zs : List Int} {r r' : AV} (h1 : OfP H1 zs r H2) (h2 : OfR H2 zs r' H3) :
    HX H1 H2 ∧ HX H2 H3 ∧ ∃ (e : Int) (xs : List P) (a b : AV), r = .tup [a, .int .i64 e] ∧ r' = .tup [b, .int .i64 e] ∧ Ap H2 a xs.length (exC xs) 43 2 H1.next ∧ Ap H3 b xs.length (exC xs) 43 2 H2.next ∧ xs.length ≤ 5000 := by
  obtain ⟨hx, h1⟩ := h1
  obtain ⟨hx', h2⟩ := h2
  refine ⟨hx, hx', ?_⟩
  rcases h1 with ⟨⟨x, hx1, hx2⟩, rfl⟩ | ⟨hall, s, out, rfl, hap, hok, hhas⟩
  · rcases h2 with ⟨_, rfl⟩ | ⟨hall, _⟩
    · exact ⟨2, [], .nilSl, .nilSl, rfl, rfl, Ap.nil _ _ _ _, Ap.nil _ _ _ _, Nat.zero_le _⟩
    · have := hall x hx1; omega
  · rcases h2 with ⟨⟨x, hx1, hx2⟩, _⟩ | ⟨_, t, o, hset, rfl, hap2⟩
    · have := hall x hx1; omega
    · have he : runsTo t 4096 = out := runs_eq hok fun i hi => (hset.2 i hi).trans (hhas i).symm
      rw [he] at hap2
      have hl := (Ok_bd2 hok (Int.le_refl _)).2
      exact ⟨0, out, s, o, rfl, rfl, hap, hap2, by omega⟩

set_option maxHeartbeats 16000000 in
theorem tells_ok (H : AH) (v u : AV) (l : List P) (zs : List Int) (hs : SlX H v l) (hu : SlI H u zs) (hh : H.hide = []) (hlo : H.lo ≤ H.next) (hl : l.length ≤ 9223372036854775807) (hz : zs.length ≤ 9223372036854775807) :
    FnE look 5 [v, u] H fun r H' => r = .bool true ∧ HX H H' := by
  refine fn_intro f5_eq (noext rfl) rfl ?_
  unfold f5c
  have hlen := fun H' => len_el (H' := H') u22 hs.is
  have hlen2 := fun H' => len_el (H' := H') u32 hu.is
  by_cases hbig : 300 < l.length
  · (repeat' (first | refine Z ?_ | refine Zq ?_ | refine rn_blk_x (by decide) ?_ | ((first | refine' Y ?_ ?_ | refine' X ?_ ?_ ?_); rotate_left; (· (first | (simp (disch := omega) only [evl, Nat.reduceEqDiff, Nat.reduceAdd, reduceIte, reduceCtorEq, hlen, hlen2] <;> exact rfl) | exact rfl)); all_goals try (refine fun (hb : _ = _) => ?_; try simp only [Zu, ne_eq, reduceCtorEq] at hb)) | (apply rk_gd_u; · simp [evl])))
    refine rk_cl (by (simp (disch := omega) only [evl, Nat.reduceEqDiff, Nat.reduceAdd, reduceIte, reduceCtorEq]); exact awake_ok H) ?_
    rintro r H1 ⟨rfl, rfl⟩
    simp only [hOut_f]
    (repeat' (first | refine Z ?_ | refine Zq ?_ | refine rn_blk_x (by decide) ?_ | ((first | refine' Y ?_ ?_ | refine' X ?_ ?_ ?_); rotate_left; (· (first | (simp (disch := omega) only [evl, Nat.reduceEqDiff, Nat.reduceAdd, reduceIte, reduceCtorEq] <;> exact rfl) | exact rfl)); all_goals try (refine fun (hb : _ = _) => ?_; try simp only [Zu, ne_eq, reduceCtorEq] at hb)) | (apply rk_gd_u; · simp [evl])))
    refine rn_nil ?_; refine fq_ret (resV_1 _ _) ⟨?_, HX.refl _⟩
    (simp (disch := omega) only [evl, Nat.reduceEqDiff, Nat.reduceAdd, reduceIte, reduceCtorEq])
  by_cases hbig2 : 500 < zs.length
  · (repeat' (first | refine Z ?_ | refine Zq ?_ | refine rn_blk_x (by decide) ?_ | ((first | refine' Y ?_ ?_ | refine' X ?_ ?_ ?_); rotate_left; (· (first | (simp (disch := omega) only [evl, Nat.reduceEqDiff, Nat.reduceAdd, reduceIte, reduceCtorEq, hlen, hlen2] <;> exact rfl) | exact rfl)); all_goals try (refine fun (hb : _ = _) => ?_; try simp only [Zu, ne_eq, reduceCtorEq] at hb)) | (apply rk_gd_u; · simp [evl])))
    refine rk_cl (by (simp (disch := omega) only [evl, Nat.reduceEqDiff, Nat.reduceAdd, reduceIte, reduceCtorEq]); exact awake_ok H) ?_
    rintro r H1 ⟨rfl, rfl⟩
    simp only [hOut_f]
    (repeat' (first | refine Z ?_ | refine Zq ?_ | refine rn_blk_x (by decide) ?_ | ((first | refine' Y ?_ ?_ | refine' X ?_ ?_ ?_); rotate_left; (· (first | (simp (disch := omega) only [evl, Nat.reduceEqDiff, Nat.reduceAdd, reduceIte, reduceCtorEq] <;> exact rfl) | exact rfl)); all_goals try (refine fun (hb : _ = _) => ?_; try simp only [Zu, ne_eq, reduceCtorEq] at hb)) | (apply rk_gd_u; · simp [evl])))
    refine rn_nil ?_; refine fq_ret (resV_1 _ _) ⟨?_, HX.refl _⟩
    (simp (disch := omega) only [evl, Nat.reduceEqDiff, Nat.reduceAdd, reduceIte, reduceCtorEq])
  (repeat' (first | refine Z ?_ | refine Zq ?_ | refine rn_blk_x (by decide) ?_ | ((first | refine' Y ?_ ?_ | refine' X ?_ ?_ ?_); rotate_left; (· (first | (simp (disch := omega) only [evl, Nat.reduceEqDiff, Nat.reduceAdd, reduceIte, reduceCtorEq, hlen, hlen2] <;> exact rfl) | exact rfl)); all_goals try (refine fun (hb : _ = _) => ?_; try simp only [Zu, ne_eq, reduceCtorEq] at hb)) | (apply rk_gd_u; · simp [evl])))
  refine rk_cl (by (simp (disch := omega) only [evl, Nat.reduceEqDiff, Nat.reduceAdd, reduceIte, reduceCtorEq]); exact copyX_ok H v l hs hh hlo (by omega)) ?_
  rintro r H1 ⟨hx1, i0, c0, op0, op0', e0, z0, rfl, hr1, hi0, hi1⟩
  simp only [hOut_f]
  have hn1 := hx1.next
  (repeat' (first | refine Z ?_ | refine Zq ?_ | refine rn_blk_x (by decide) ?_ | ((first | refine' Y ?_ ?_ | refine' X ?_ ?_ ?_); rotate_left; (· (first | (simp (disch := omega) only [evl, Nat.reduceEqDiff, Nat.reduceAdd, reduceIte, reduceCtorEq] <;> exact rfl) | exact rfl)); all_goals try (refine fun (hb : _ = _) => ?_; try simp only [Zu, ne_eq, reduceCtorEq] at hb)) | (apply rk_gd_u; · simp [evl])))
  refine rk_cl (by (simp (disch := omega) only [evl, Nat.reduceEqDiff, Nat.reduceAdd, reduceIte, reduceCtorEq]); exact lentInts_ok H1 u zs (hu.hx hx1) (hx1.hide.trans hh) (by rw [hx1.lo]; omega) (by omega)) ?_
  rintro r H2 ⟨rfl, hx2, hn2, hr2⟩
  simp only [hOut_f]
  have hxA := hx1.trans hx2
  -- the four lists stay
  have kv : ∀ H', HP (· < H2.next) H2 H' → SlX H' v l := fun H' hp => SlZ.hp (hs.hx hxA) hp fun i o c op hv => by have := SlZ.lt hs hv; omega
  have ku : ∀ H', HP (· < H2.next) H2 H' → SlI H' u zs := fun H' hp => SlR.hp (hu.hx hxA) hp fun i o c op hv => by have := SlR.lt hu hv; omega
  have hin1 : SlX H1 (.sl i0 0 l.length c0 op0) l := hr1.slZ hi1 (exC_len l)
  have kin : ∀ H', HP (· < H2.next) H2 H' → SlX H' (.sl i0 0 l.length c0 op0) l := fun H' hp => SlZ.hp (hin1.hx hx2) hp fun i o c op hv => by cases hv; omega
  have hle2 : SlI H2 (.sl H1.next 0 zs.length (zs.length + 3) false) zs := hr2.slR (by omega) (Nat.zero_le _) fun k hk => by
    rw [Nat.zero_add, lentCInts_get _ _ _ (by omega), if_pos hk]
  have kle : ∀ H', HP (· < H2.next) H2 H' → SlI H' (.sl H1.next 0 zs.length (zs.length + 3) false) zs := fun H' hp => SlR.hp hle2 hp fun i o c op hv => by cases hv; omega
  have krow : ∀ H', HP (· < H2.next) H2 H' → Row H' H1.next false false 3 1 (lentCInts zs (zs.length + 3)) := fun H' hp => hr2.hp hp (by omega) (by omega)
  have khh : ∀ H', HP (· < H2.next) H2 H' → H'.hide = [] := fun H' hp => hp.hide.trans (hxA.hide.trans hh)
  have klo : ∀ H', HP (· < H2.next) H2 H' → H'.lo ≤ H.next ∧ H'.lo ≤ H'.next ∧ H2.next ≤ H'.next := fun H' hp => by
    have := hp.next
    rw [hp.lo, hxA.lo]; omega
  clear hr1 hin1 hle2 hr2
  (repeat' (first | refine Z ?_ | refine Zq ?_ | refine rn_blk_x (by decide) ?_ | ((first | refine' Y ?_ ?_ | refine' X ?_ ?_ ?_); rotate_left; (· (first | (simp (disch := omega) only [evl, Nat.reduceEqDiff, Nat.reduceAdd, reduceIte, reduceCtorEq] <;> exact rfl) | exact rfl)); all_goals try (refine fun (hb : _ = _) => ?_; try simp only [Zu, ne_eq, reduceCtorEq] at hb)) | (apply rk_gd_u; · simp [evl])))
  refine rk_cl (by (simp (disch := omega) only [evl, Nat.reduceEqDiff, Nat.reduceAdd, reduceIte, reduceCtorEq]); exact list_ok H2 _ l (kin _ (HP.refl _ _)) (khh _ (HP.refl _ _)) (klo _ (HP.refl _ _)).2.1 (by omega)) ?_
  intro r H3 hlp
  simp only [hOut_f]
  obtain ⟨a, e, rfl⟩ := hlp.tup
  have hp3 : HP (· < H2.next) H2 H3 := hlp.1.hp _
  (repeat' (first | refine Z ?_ | refine Zq ?_ | refine rn_blk_x (by decide) ?_ | ((first | refine' Y ?_ ?_ | refine' X ?_ ?_ ?_); rotate_left; (· (first | (simp (disch := omega) only [evl, Nat.reduceEqDiff, Nat.reduceAdd, reduceIte, reduceCtorEq] <;> exact rfl) | exact rfl)); all_goals try (refine fun (hb : _ = _) => ?_; try simp only [Zu, ne_eq, reduceCtorEq] at hb)) | (apply rk_gd_u; · simp [evl])))
  refine rk_cl (by (simp (disch := omega) only [evl, Nat.reduceEqDiff, Nat.reduceAdd, reduceIte, reduceCtorEq]); exact refList_ok H3 v l (kv _ hp3) (khh _ hp3) (klo _ hp3).2.1 (by omega)) ?_
  intro r H4 hlr
  simp only [hOut_f]
  obtain ⟨_, hx4, e', ws, a', b, hra, rfl, hsa, hsb, hwl⟩ := list_key hlp hlr
  cases hra
  have hp4 : HP (· < H2.next) H2 H4 := hp3.trans (hx4.hp fun _ => True) fun j hj h => ⟨h, trivial⟩
  clear hlp hlr
  (repeat' (first | refine Z ?_ | refine Zq ?_ | refine rn_blk_x (by decide) ?_ | ((first | refine' Y ?_ ?_ | refine' X ?_ ?_ ?_); rotate_left; (· (first | (simp (disch := omega) only [evl, Nat.reduceEqDiff, Nat.reduceAdd, reduceIte, reduceCtorEq] <;> exact rfl) | exact rfl)); all_goals try (refine fun (hb : _ = _) => ?_; try simp only [Zu, ne_eq, reduceCtorEq] at hb)) | (apply rk_gd_u; · simp [evl])))
  refine rk_cl (by (simp (disch := omega) only [evl, Nat.reduceEqDiff, Nat.reduceAdd, reduceIte, reduceCtorEq]); exact of_ok H4 _ zs (kle _ hp4) rfl (khh _ hp4) (klo _ hp4).2.1 (by omega)) ?_
  intro r H5 hop
  simp only [hOut_f]
  obtain ⟨x, gg, rfl⟩ := hop.tup
  have hx5 := hop.1
  have hp5 : HP (· < H2.next) H2 H5 := hp4.trans (hx5.hp fun _ => True) fun j hj h => ⟨h, trivial⟩
  (repeat' (first | refine Z ?_ | refine Zq ?_ | refine rn_blk_x (by decide) ?_ | ((first | refine' Y ?_ ?_ | refine' X ?_ ?_ ?_); rotate_left; (· (first | (simp (disch := omega) only [evl, Nat.reduceEqDiff, Nat.reduceAdd, reduceIte, reduceCtorEq] <;> exact rfl) | exact rfl)); all_goals try (refine fun (hb : _ = _) => ?_; try simp only [Zu, ne_eq, reduceCtorEq] at hb)) | (apply rk_gd_u; · simp [evl])))
  refine rk_cl (by (simp (disch := omega) only [evl, Nat.reduceEqDiff, Nat.reduceAdd, reduceIte, reduceCtorEq]); exact refOf_ok H5 u zs (ku _ hp5) (khh _ hp5) (klo _ hp5).2.1 (by omega)) ?_
  intro r H6 hor
  simp only [hOut_f]
  obtain ⟨_, hx6, g', xs, x', y, hrx, rfl, hapx, hapy, hxl⟩ := of_key hop hor
  cases hrx
  have hp6 : HP (· < H2.next) H2 H6 := hp5.trans (hx6.hp fun _ => True) fun j hj h => ⟨h, trivial⟩
  have hx46 := hx5.trans hx6
  have hapx6 := hapx.hx hx6
  clear hop hor hapx
  (repeat' (first | refine Z ?_ | refine Zq ?_ | refine rn_blk_x (by decide) ?_ | ((first | refine' Y ?_ ?_ | refine' X ?_ ?_ ?_); rotate_left; (· (first | (simp (disch := omega) only [evl, Nat.reduceEqDiff, Nat.reduceAdd, reduceIte, reduceCtorEq] <;> exact rfl) | exact rfl)); all_goals try (refine fun (hb : _ = _) => ?_; try simp only [Zu, ne_eq, reduceCtorEq] at hb)) | (apply rk_gd_u; · simp [evl])))
  refine rk_cl (by (simp (disch := omega) only [evl, Nat.reduceEqDiff, Nat.reduceAdd, reduceIte, reduceCtorEq]); exact sameInts_ok H6 a b ws ws (hsa.hx hx46) (hsb.hx hx46) (by omega) (by omega)) ?_
  rintro r H7 ⟨rfl, hH7⟩
  cases hH7
  simp only [hOut_f, decide_true]
  (repeat' (first | refine Z ?_ | refine Zq ?_ | refine rn_blk_x (by decide) ?_ | ((first | refine' Y ?_ ?_ | refine' X ?_ ?_ ?_); rotate_left; (· (first | (simp (disch := omega) only [evl, Nat.reduceEqDiff, Nat.reduceAdd, reduceIte, reduceCtorEq] <;> exact rfl) | exact rfl)); all_goals try (refine fun (hb : _ = _) => ?_; try simp only [Zu, ne_eq, reduceCtorEq] at hb)) | (apply rk_gd_u; · simp [evl])))
  refine rk_cl (by (simp (disch := omega) only [evl, Nat.reduceEqDiff, Nat.reduceAdd, reduceIte, reduceCtorEq]); exact sameX_ok H6 x y xs xs hapx6.slZ hapy.slZ (by omega) (by omega)) ?_
  rintro r H7 ⟨rfl, hH7⟩
  cases hH7
  simp only [hOut_f, decide_true]
  (repeat' (first | refine Z ?_ | refine Zq ?_ | refine rn_blk_x (by decide) ?_ | ((first | refine' Y ?_ ?_ | refine' X ?_ ?_ ?_); rotate_left; (· (first | (simp (disch := omega) only [evl, Nat.reduceEqDiff, Nat.reduceAdd, reduceIte, reduceCtorEq] <;> exact rfl) | exact rfl)); all_goals try (refine fun (hb : _ = _) => ?_; try simp only [Zu, ne_eq, reduceCtorEq] at hb)) | (apply rk_gd_u; · simp [evl])))
  refine rk_cl (by (simp (disch := omega) only [evl, Nat.reduceEqDiff, Nat.reduceAdd, reduceIte, reduceCtorEq]); exact check_ok H6 _ l (kin _ hp6) (khh _ hp6) (klo _ hp6).2.1 (by omega)) ?_
  rintro r H7 ⟨hx7, hc⟩
  simp only [hOut_f]
  have hp7 : HP (· < H2.next) H2 H7 := hp6.trans (hx7.hp fun _ => True) fun j hj h => ⟨h, trivial⟩
  obtain ⟨q, rfl, hq⟩ : ∃ q : Int, r = .int .i64 q ∧ ((Ok 0 l ∧ q = 0) ∨ (¬ Ok 0 l ∧ q = 2)) := by
    rcases hc with ⟨h, rfl⟩ | ⟨h, rfl⟩
    · exact ⟨0, rfl, .inl ⟨h, rfl⟩⟩
    · exact ⟨2, rfl, .inr ⟨h, rfl⟩⟩
  clear hc
  (repeat' (first | refine Z ?_ | refine Zq ?_ | refine rn_blk_x (by decide) ?_ | ((first | refine' Y ?_ ?_ | refine' X ?_ ?_ ?_); rotate_left; (· (first | (simp (disch := omega) only [evl, Nat.reduceEqDiff, Nat.reduceAdd, reduceIte, reduceCtorEq] <;> exact rfl) | exact rfl)); all_goals try (refine fun (hb : _ = _) => ?_; try simp only [Zu, ne_eq, reduceCtorEq] at hb)) | (apply rk_gd_u; · simp [evl])))
  refine rk_cl (by (simp (disch := omega) only [evl, Nat.reduceEqDiff, Nat.reduceAdd, reduceIte, reduceCtorEq]); exact refCheck_ok H7 v l (kv _ hp7) (khh _ hp7) (klo _ hp7).2.1 (by omega)) ?_
  rintro r H8 ⟨hx8, hc⟩
  simp only [hOut_f]
  have hp8 : HP (· < H2.next) H2 H8 := hp7.trans (hx8.hp fun _ => True) fun j hj h => ⟨h, trivial⟩
  obtain rfl : r = .int .i64 q := by
    rcases hc with ⟨h, rfl⟩ | ⟨h, rfl⟩ <;> rcases hq with ⟨h', rfl⟩ | ⟨h', rfl⟩
    · rfl
    · exact absurd h h'
    · exact absurd h' h
    · rfl
  clear hc
  (repeat' (first | refine Z ?_ | refine Zq ?_ | refine rn_blk_x (by decide) ?_ | ((first | refine' Y ?_ ?_ | refine' X ?_ ?_ ?_); rotate_left; (· (first | (simp (disch := omega) only [evl, Nat.reduceEqDiff, Nat.reduceAdd, reduceIte, reduceCtorEq] <;> exact rfl) | exact rfl)); all_goals try (refine fun (hb : _ = _) => ?_; try simp only [Zu, ne_eq, reduceCtorEq] at hb)) | (apply rk_gd_u; · simp [evl])))
  refine rk_cl (by (simp (disch := omega) only [evl, Nat.reduceEqDiff, Nat.reduceAdd, reduceIte, reduceCtorEq]); exact (show FnE look 23 [.sl i0 0 l.length c0 op0] H8 fun r H' => HX H8 H' ∧ ((¬ Ok 0 l ∧ r = .int .i64 0) ∨ (Ok 0 l ∧ r = .int .i64 (tot l))) from countX_ok H8 _ l (kin _ hp8) (khh _ hp8) (klo _ hp8).2.1 (by omega))) ?_
  rintro r H9 ⟨hx9, hc⟩
  simp only [hOut_f]
  have hp9 : HP (· < H2.next) H2 H9 := hp8.trans (hx9.hp fun _ => True) fun j hj h => ⟨h, trivial⟩
  obtain ⟨t, rfl, ht⟩ : ∃ t : Int, r = .int .i64 t ∧ ((¬ Ok 0 l ∧ t = 0) ∨ (Ok 0 l ∧ t = tot l)) := by
    rcases hc with ⟨h, rfl⟩ | ⟨h, rfl⟩
    · exact ⟨0, rfl, .inl ⟨h, rfl⟩⟩
    · exact ⟨_, rfl, .inr ⟨h, rfl⟩⟩
  clear hc
  (repeat' (first | refine Z ?_ | refine Zq ?_ | refine rn_blk_x (by decide) ?_ | ((first | refine' Y ?_ ?_ | refine' X ?_ ?_ ?_); rotate_left; (· (first | (simp (disch := omega) only [evl, Nat.reduceEqDiff, Nat.reduceAdd, reduceIte, reduceCtorEq] <;> exact rfl) | exact rfl)); all_goals try (refine fun (hb : _ = _) => ?_; try simp only [Zu, ne_eq, reduceCtorEq] at hb)) | (apply rk_gd_u; · simp [evl])))
  refine rk_cl (by (simp (disch := omega) only [evl, Nat.reduceEqDiff, Nat.reduceAdd, reduceIte, reduceCtorEq]); exact refCount_ok H9 v l (kv _ hp9) (khh _ hp9) (klo _ hp9).2.1 (by omega)) ?_
  rintro r HA ⟨hxA', hc⟩
  simp only [hOut_f]
  have hpA : HP (· < H2.next) H2 HA := hp9.trans (hxA'.hp fun _ => True) fun j hj h => ⟨h, trivial⟩
  obtain rfl : r = .int .i64 t := by
    rcases hc with ⟨h, rfl⟩ | ⟨h, rfl⟩ <;> rcases ht with ⟨h', rfl⟩ | ⟨h', rfl⟩
    · rfl
    · exact absurd h' h
    · exact absurd h h'
    · rfl
  clear hc
  have hapxA := (((hapx6.hx hx7).hx hx8).hx hx9).hx hxA'
  have hN4 := (klo _ hp4).2.2
  (repeat' (first | refine Z ?_ | refine Zq ?_ | refine rn_blk_x (by decide) ?_ | ((first | refine' Y ?_ ?_ | refine' X ?_ ?_ ?_); rotate_left; (· (first | (simp (disch := omega) only [evl, Nat.reduceEqDiff, Nat.reduceAdd, reduceIte, reduceCtorEq] <;> exact rfl) | exact rfl)); all_goals try (refine fun (hb : _ = _) => ?_; try simp only [Zu, ne_eq, reduceCtorEq] at hb)) | (apply rk_gd_u; · simp [evl])))
  refine rk_cl (by (simp (disch := omega) only [evl, Nat.reduceEqDiff, Nat.reduceAdd, reduceIte, reduceCtorEq]); exact overX_ok HA x xs.length H4.next (exC xs) hapxA (khh _ hpA) (by have := (klo _ hpA).1; omega) (by omega)) ?_
  intro r HB hpo
  simp only [hOut_f]
  have hpB : HP (· < H2.next) H2 HB := hpA.trans hpo fun j hj h => ⟨h, Ap.blk hapxA (by omega)⟩
  (repeat' (first | refine Z ?_ | refine Zq ?_ | refine rn_blk_x (by decide) ?_ | ((first | refine' Y ?_ ?_ | refine' X ?_ ?_ ?_); rotate_left; (· (first | (simp (disch := omega) only [evl, Nat.reduceEqDiff, Nat.reduceAdd, reduceIte, reduceCtorEq] <;> exact rfl) | exact rfl)); all_goals try (refine fun (hb : _ = _) => ?_; try simp only [Zu, ne_eq, reduceCtorEq] at hb)) | (apply rk_gd_u; · simp [evl])))
  refine rk_cl (by (simp (disch := omega) only [evl, Nat.reduceEqDiff, Nat.reduceAdd, reduceIte, reduceCtorEq]); exact sameX_ok HB _ v l l (kin _ hpB) (kv _ hpB) (by omega) (by omega)) ?_
  rintro r HC ⟨rfl, hHC⟩
  cases hHC
  simp only [hOut_f, decide_true]
  (repeat' (first | refine Z ?_ | refine Zq ?_ | refine rn_blk_x (by decide) ?_ | ((first | refine' Y ?_ ?_ | refine' X ?_ ?_ ?_); rotate_left; (· (first | (simp (disch := omega) only [evl, Nat.reduceEqDiff, Nat.reduceAdd, reduceIte, reduceCtorEq] <;> exact rfl) | exact rfl)); all_goals try (refine fun (hb : _ = _) => ?_; try simp only [Zu, ne_eq, reduceCtorEq] at hb)) | (apply rk_gd_u; · simp [evl])))
  refine rk_cl (by (simp (disch := omega) only [evl, Nat.reduceEqDiff, Nat.reduceAdd, reduceIte, reduceCtorEq]); exact keptInts_ok HB u H1.next zs (ku _ hpB) (krow _ hpB) (by have := (klo _ hpB).2.2; omega) (khh _ hpB) (klo _ hpB).2.1 (by omega)) ?_
  rintro r HC ⟨rfl, hxC⟩
  simp only [hOut_f]
  have hpC : HP (· < H2.next) H2 HC := hpB.trans (hxC.hp fun _ => True) fun j hj h => ⟨h, trivial⟩
  (repeat' (first | refine Z ?_ | refine Zq ?_ | refine rn_blk_x (by decide) ?_ | ((first | refine' Y ?_ ?_ | refine' X ?_ ?_ ?_); rotate_left; (· (first | (simp (disch := omega) only [evl, Nat.reduceEqDiff, Nat.reduceAdd, reduceIte, reduceCtorEq] <;> exact rfl) | exact rfl)); all_goals try (refine fun (hb : _ = _) => ?_; try simp only [Zu, ne_eq, reduceCtorEq] at hb)) | (apply rk_gd_u; · simp [evl])))
  refine rk_cl (by (simp (disch := omega) only [evl, Nat.reduceEqDiff, Nat.reduceAdd, reduceIte, reduceCtorEq]); exact awake_ok HC) ?_
  rintro r HD ⟨rfl, hHD⟩
  cases hHD
  simp only [hOut_f]
  (repeat' (first | refine Z ?_ | refine Zq ?_ | refine rn_blk_x (by decide) ?_ | ((first | refine' Y ?_ ?_ | refine' X ?_ ?_ ?_); rotate_left; (· (first | (simp (disch := omega) only [evl, Nat.reduceEqDiff, Nat.reduceAdd, reduceIte, reduceCtorEq] <;> exact rfl) | exact rfl)); all_goals try (refine fun (hb : _ = _) => ?_; try simp only [Zu, ne_eq, reduceCtorEq] at hb)) | (apply rk_gd_u; · simp [evl])))
  refine rn_nil ?_; refine fq_ret (resV_1 _ _) ⟨?_, ?_⟩
  · (simp (disch := omega) only [evl, Nat.reduceEqDiff, Nat.reduceAdd, reduceIte, reduceCtorEq])
  · exact ((hxA.hp fun _ => True).trans hpC (r := fun _ => True) fun j hj _ => ⟨trivial, by omega⟩).hx fun _ _ => trivial
end PQ
end Go.Proofs.Ytnkomaedmblemaa
