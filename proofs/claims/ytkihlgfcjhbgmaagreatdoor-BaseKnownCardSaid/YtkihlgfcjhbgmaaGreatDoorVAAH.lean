import Derived.Test.YtkihlgfcjhbgmaaGreatDoorVAAG
import Derived.Test.YtkihlgfcjhbgmaaGreatDoorVAAF
import Derived.Test.YtkihlgfcjhbgmaaGreatDoorVAAE
noncomputable section
set_option maxHeartbeats 8000000
set_option linter.unusedSimpArgs false
set_option linter.unusedVariables false
open Go Go.Proofs Go.RowKit
namespace HS
open Go.Ev
open Ra Rb Rc Rd Re Rf Rg Rh Ri Rj Rk Rl Rm Rn Ro Rp Rq Rr
set_option maxRecDepth 100000
def SlA (H : AH) (v : AV) (xs : List Ad) : Prop := (v = .nilSl ∧ xs = []) ∨ ∃ i o c op, v = .sl i o xs.length c op ∧ i < H.next ∧ ∃ cc e z op' ro, H.get i = some (.cells cc e z op' ro) ∧ xs.length * 2 ≤ cc.l.length - o ∧ (cc.l.drop o).take (xs.length * 2) = aC xs
theorem SlA.hx {H H' : AH} {v : AV} {xs : List Ad} (h : SlA H v xs) (hx : HX H H') : SlA H' v xs := by
  rcases h with h | ⟨i, o, c, op, h1, h2, cc, e, z, op', ro, h3, h4⟩
  · exact .inl h
  · exact .inr ⟨i, o, c, op, h1, Nat.lt_of_lt_of_le h2 hx.next, cc, e, z, op', ro, by rw [hx.get h2]; exact h3, h4⟩
theorem SlA.len {H H' : AH} {v : AV} {xs : List Ad} (h : SlA H v xs) : fstO (zna .len look [111] [v] H') = some (.int .i64 xs.length) := by
  rcases h with ⟨rfl, rfl⟩ | ⟨i, o, c, op, rfl, _⟩
  · show fstO (match evLen look 111 .nilSl H' with | some v => some (v, H') | none => none) = _
    unfold evLen
    rw [show look.under 111 = some (.slice 234) from by kernel_rfl]; rfl
  · show fstO (match evLen look 111 (.sl i o xs.length c op) H' with | some v => some (v, H') | none => none) = _
    unfold evLen
    rw [show look.under 111 = some (.slice 234) from by kernel_rfl]; rfl
theorem SlA.rd {H : AH} {v : AV} {xs : List Ad} (h : SlA H v xs) {k : Nat} (hk : k < xs.length) : ∃ a, ixS 2 v (.int .i64 (k : Int)) = some a ∧ ldN 2 a H = some (aV (aG xs k)) := by
  rcases h with ⟨rfl, rfl⟩ | ⟨i, o, c, op, rfl, hi, cc, e, z, op', ro, hg, hl, ht⟩
  · simp at hk
  · refine ⟨.ptr i (o + k * 2), ?_, ?_⟩
    · show brec none (some (AV.ptr i (o + k * 2))) (Nat.blt k xs.length) = _
      rw [show Nat.blt k xs.length = true from by rw [Nat.blt_eq]; exact hk]; rfl
    · have hr : Row H i ro op' e z cc.l := ⟨cc, hg, rfl⟩
      obtain ⟨cq, h1, h2⟩ := hr.rdN (o := o + k * 2) (s := 2) (by omega)
      have h3 : ((aC xs).drop (k * 2)).take 2 = (cc.l.drop (o + k * 2)).take 2 := by
        rw [← ht, List.drop_take, List.drop_drop, List.take_take]
        congr 1
        omega
      rw [← h3, zqy xs hk] at h2
      rw [h1, zgp h2 (fun n hn => by cases hn)]
theorem takeA (l : List Ad) {i : Nat} (h : i < l.length) : l.take (i + 1) = l.take i ++ [aG l i] := by
  rw [List.take_add_one, List.getElem?_eq_getElem h]
  congr 1
  unfold aG
  rw [List.getD_eq_getElem?_getD, List.getElem?_eq_getElem h]; rfl
structure SetA (H : AH) (m : Nat) (ks : List Ad) : Prop where
  h : ∃ es c, H.get m = some (.map es c) ∧ MapA es c ks ∧ ks.Nodup ∧ (∀ e ∈ es, e.2.1 = .agg []) ∧ es.length ≤ 100000
theorem of_ok (H : AH) (v : AV) (xs : List Ad) (hs : SlA H v xs) (hlo : H.lo ≤ H.next) (hh : H.hide = []) (hxl : xs.length ≤ 100000) :
    FnE look 483 [v] H fun r H' => r = .map H.next ∧ HX H H' ∧ H.next < H'.next ∧ ∃ ks, SetA H' H.next ks ∧ ∀ q, q ∈ ks ↔ q ∈ xs := by
  refine zzb f483_eq noext rfl ?_
  unfold f483c
  have hmk : zvu H = some (.map H.next, H.new (.map [] 0)) := by unfold zvu; rw [zwi]
  have hx0 : HX H (H.new (.map [] 0)) := HX.new _ _
  have hg0 : (H.new (.map [] 0)).get H.next = some (.map [] 0) := AH.get_new hh _
  have hlen := fun H' => hs.len (H' := H')
  (repeat' (first | refine Z ?_ | refine Zq ?_ | refine zaa (by decide) ?_ | ((first | refine' Y ?_ ?_ | refine' X ?_ ?_ ?_); rotate_left; (· (first | (simp (disch := omega) only [evl, Nat.reduceEqDiff, Nat.reduceAdd, reduceIte, reduceCtorEq] <;> exact rfl) | exact rfl)); all_goals try (refine fun (hb : _ = _) => ?_; try simp only [Zu, ne_eq, reduceCtorEq] at hb)) | (apply zba; · simp [evl])))
  refine rk_al hmk ?_
  simp only [zpa]
  (repeat' (first | refine Z ?_ | refine Zq ?_ | refine zaa (by decide) ?_ | ((first | refine' Y ?_ ?_ | refine' X ?_ ?_ ?_); rotate_left; (· (first | (simp (disch := omega) only [evl, Nat.reduceEqDiff, Nat.reduceAdd, reduceIte, reduceCtorEq, hlen] <;> exact rfl) | exact rfl)); all_goals try (refine fun (hb : _ = _) => ?_; try simp only [Zu, ne_eq, reduceCtorEq] at hb)) | (apply zba; · simp [evl])))
  refine zoh (R := fun ex T' H' => ex = .exit 0 ∧ gT T' 3 = .map H.next ∧ HX H H' ∧ H.next < H'.next ∧ ∃ ks, SetA H' H.next ks ∧ ∀ q, q ∈ ks ↔ q ∈ xs) ?_ ?_
  · refine zxm zde1 (fun k T H' => ∃ u : Nat, k = xs.length - u ∧ u ≤ xs.length ∧ gT T 3 = .map H.next ∧ gT T 7 = v ∧ gT T 8 = .int .i64 xs.length ∧ gT T 9 = .int .i64 u ∧ HX H H' ∧ H.next < H'.next ∧ ∃ ks es c, H'.get H.next = some (.map es c) ∧ MapA es c ks ∧ ks.Nodup ∧ (∀ e ∈ es, e.2.1 = .agg []) ∧ es.length ≤ u ∧ ∀ q, q ∈ ks ↔ q ∈ xs.take u) _ ?_ xs.length _ _ ?_
    · intro k T H1 hI
      obtain ⟨u, hk, hu, t3, t7, t8, t9, hx, hnx, ks, es, c, hg, hM, hnd, hv, hle, hmem⟩ := hI
      unfold f483l0
      by_cases hlt : u < xs.length
      · obtain ⟨a, hix, hrd⟩ := (hs.hx hx).rd hlt
        have hh1 : H1.hide = [] := hx.hide.trans hh
        obtain ⟨H2, hal2, hx2, hn2, hr2⟩ := zmi (e := 234) (s := 2) (c := AV.toC (.agg [(.int .i64 (0)), (.int .i64 (0))])) hh1
        rw [toC_l] at hr2
        have hh2 : H2.hide = [] := hx2.hide.trans hh1
        obtain ⟨H3, hs3, hr3, hp3, hn3⟩ := Row.stN (L := look) (t := 234) (v := aV (aG xs u)) (s := 2) (k := 0) hr2 hh2 (by rw [hx2.lo, hx.lo]; omega) rfl (by rfl) (by decide)
        have hh3 : H3.hide = [] := hp3.hide.trans hh2
        have hrX : Row H3 H1.next false false 234 2 (aC [aG xs u]) := hr3
        have hbx := bRd hrX
        have hp13 : HP (fun _ => True) H1 H3 := (hx2.hp fun _ => True).trans hp3 fun j hj _ => ⟨trivial, by omega⟩
        have hg3 : H3.get H.next = some (.map es c) := (hp13.get hnx trivial).trans hg
        obtain ⟨es', c', ks', hup, hM', hnd', hmem', hle', hv'⟩ := upd_ad hM hnd hg3 (by rw [hp13.lo, hx.lo]; exact hlo) (aG xs u) (.agg [])
        have hbd : zee look 460 (zipF [] []) = some (.agg []) := by kernel_rfl
        (repeat' (first | refine Z ?_ | refine Zq ?_ | refine zaa (by decide) ?_ | ((first | refine' Y ?_ ?_ | refine' X ?_ ?_ ?_); rotate_left; (· (first | (simp (disch := omega) only [evl, Nat.reduceEqDiff, Nat.reduceAdd, reduceIte, reduceCtorEq, t3, t7, t8, t9, hix, hrd] <;> exact rfl) | exact rfl)); all_goals try (refine fun (hb : _ = _) => ?_; try simp only [Zu, ne_eq, reduceCtorEq] at hb)) | (apply zba; · simp [evl])))
        refine rk_al hal2 ?_
        simp only [zpa]
        apply rk_st
        · (simp (disch := omega) only [evl, Nat.reduceEqDiff, Nat.reduceAdd, reduceIte, reduceCtorEq, hrd])
          exact hs3
        simp only [zpa]
        (repeat' (first | refine Z ?_ | refine Zq ?_ | refine zaa (by decide) ?_ | ((first | refine' Y ?_ ?_ | refine' X ?_ ?_ ?_); rotate_left; (· (first | (simp (disch := omega) only [evl, Nat.reduceEqDiff, Nat.reduceAdd, reduceIte, reduceCtorEq, t3, hbx, hbd] <;> exact rfl) | exact rfl)); all_goals try (refine fun (hb : _ = _) => ?_; try simp only [Zu, ne_eq, reduceCtorEq] at hb)) | (apply zba; · simp [evl])))
        apply rk_hn (v := .undef) (H' := H3.put H.next (.map es' c'))
        · (simp (disch := omega) only [evl, Nat.reduceEqDiff, Nat.reduceAdd, reduceIte, reduceCtorEq, t3])
          show unitF (zoa look 545 (.map H.next) (aV (aG xs u)) (.agg []) H3) = _
          rw [hup]; rfl
        simp only [zpa]
        (repeat' (first | refine Z ?_ | refine Zq ?_ | refine zaa (by decide) ?_ | ((first | refine' Y ?_ ?_ | refine' X ?_ ?_ ?_); rotate_left; (· (first | (simp (disch := omega) only [evl, Nat.reduceEqDiff, Nat.reduceAdd, reduceIte, reduceCtorEq, t9] <;> exact rfl) | exact rfl)); all_goals try (refine fun (hb : _ = _) => ?_; try simp only [Zu, ne_eq, reduceCtorEq] at hb)) | (apply zba; · simp [evl])))
        have hnx3 := hp13.next
        refine zma ?_; refine lpq_n (xs.length - (u + 1)) (by omega) ?_
        refine ⟨u + 1, rfl, by omega, (by (first | (simp (disch := omega) only [evl, Nat.reduceEqDiff, Nat.reduceAdd, reduceIte, reduceCtorEq, t3] <;> exact rfl) | exact rfl)), (by (first | (simp (disch := omega) only [evl, Nat.reduceEqDiff, Nat.reduceAdd, reduceIte, reduceCtorEq, t7] <;> exact rfl) | exact rfl)), (by (first | (simp (disch := omega) only [evl, Nat.reduceEqDiff, Nat.reduceAdd, reduceIte, reduceCtorEq, t8] <;> exact rfl) | exact rfl)), (by (first | (simp (disch := omega) only [evl, Nat.reduceEqDiff, Nat.reduceAdd, reduceIte, reduceCtorEq] <;> exact rfl) | exact rfl)), ?_, ?_, ks', es', c', AH.get_put hh3 _ _, hM', hnd', hv' hv, by omega, fun q => ?_⟩
        · exact (((hx.hp fun _ => True).trans hp13 (r := fun _ => True) fun _ _ h => ⟨h, trivial⟩).trans (HP.put H3 H.next (.map es' c')) (r := fun j => j ≠ H.next) fun j _ h => ⟨trivial, h⟩).hx fun i hi => by omega
        · show H.next < H3.next
          omega
        · rw [hmem', hmem, takeA xs hlt, List.mem_append]; simp
      · (repeat' (first | refine Z ?_ | refine Zq ?_ | refine zaa (by decide) ?_ | ((first | refine' Y ?_ ?_ | refine' X ?_ ?_ ?_); rotate_left; (· (first | (simp (disch := omega) only [evl, Nat.reduceEqDiff, Nat.reduceAdd, reduceIte, reduceCtorEq, t8, t9] <;> exact rfl) | exact rfl)); all_goals try (refine fun (hb : _ = _) => ?_; try simp only [Zu, ne_eq, reduceCtorEq] at hb)) | (apply zba; · simp [evl])))
        refine zma ?_; refine lpq_e ?_
        obtain rfl : u = xs.length := by omega
        rw [List.take_length] at hmem
        exact ⟨rfl, t3, hx, hnx, ks, ⟨es, c, hg, hM, hnd, hv, by omega⟩, hmem⟩
    · refine ⟨0, by omega, Nat.zero_le _, (by (first | (simp (disch := omega) only [evl, Nat.reduceEqDiff, Nat.reduceAdd, reduceIte, reduceCtorEq] <;> exact rfl) | exact rfl)), (by (first | (simp (disch := omega) only [evl, Nat.reduceEqDiff, Nat.reduceAdd, reduceIte, reduceCtorEq, hlen] <;> exact rfl) | exact rfl)), (by (first | (simp (disch := omega) only [evl, Nat.reduceEqDiff, Nat.reduceAdd, reduceIte, reduceCtorEq, hlen] <;> exact rfl) | exact rfl)), (by (first | (simp (disch := omega) only [evl, Nat.reduceEqDiff, Nat.reduceAdd, reduceIte, reduceCtorEq, hlen] <;> exact rfl) | exact rfl)), hx0, Nat.lt_succ_self _, [], [], 0, hg0, ⟨rfl, fun _ h => (by cases h), List.nodup_nil⟩, List.nodup_nil, fun _ h => (by cases h), Nat.zero_le _, fun q => by simp⟩
  · rintro ex T' H' ⟨rfl, t3, hres⟩
    (repeat' (first | refine Z ?_ | refine Zq ?_ | refine zaa (by decide) ?_ | ((first | refine' Y ?_ ?_ | refine' X ?_ ?_ ?_); rotate_left; (· (first | (simp (disch := omega) only [evl, Nat.reduceEqDiff, Nat.reduceAdd, reduceIte, reduceCtorEq, t3] <;> exact rfl) | exact rfl)); all_goals try (refine fun (hb : _ = _) => ?_; try simp only [Zu, ne_eq, reduceCtorEq] at hb)) | (apply zba; · simp [evl])))
    refine zma ?_; refine zqc (zjc _ _) ⟨?_, hres⟩
    (simp (disch := omega) only [evl, Nat.reduceEqDiff, Nat.reduceAdd, reduceIte, reduceCtorEq, t3])
theorem l25 : ∃ fn, look.func 345 = some fn ∧ fn.body = some zrb ∧ fn.ntmps = 6 ∧ fn.results.toList = [.tmp 2] := ⟨Tryz.f345, by kernel_rfl, by kernel_rfl, by kernel_rfl, by kernel_rfl⟩
abbrev b25_1 : Code := seqA (seqB zrb)
theorem c25 : zrb = .seq (seqA zrb) (.seq (.region 1 (opsOf b25_1) false) .ret) := by kernel_rfl
theorem c25a : comp look (seqA zrb) = .reg f345r0 := by kernel_rfl
theorem w25a : wfC 6 (seqA zrb) = true := by kernel_rfl
theorem w25o : wfOps 6 (opsOf b25_1) = true := by kernel_rfl
theorem c25o : (opsOf b25_1).toList = [opN zrb 1 0, opN zrb 1 1, opN zrb 1 2, opN zrb 1 3] := by kernel_rfl
theorem o25_0 : (opN zrb 1 0).op = .move (.tmp 0) ∧ (opN zrb 1 0).guard = none ∧ (opN zrb 1 0).dst = some 3 := ⟨by kernel_rfl, by kernel_rfl, by kernel_rfl⟩
theorem o25_1 : (opN zrb 1 1).op = .call { callee := .value (.func 483), args := #[.tmp 3], argTypes := #[111] } ∧ (opN zrb 1 1).guard = none ∧ (opN zrb 1 1).dst = some 4 := ⟨by kernel_rfl, by kernel_rfl, by kernel_rfl⟩
theorem o25_2 : (opN zrb 1 2).op = .call { callee := .value (.func 484), args := #[.tmp 4], argTypes := #[545] } ∧ (opN zrb 1 2).guard = none ∧ (opN zrb 1 2).dst = some 5 := ⟨by kernel_rfl, by kernel_rfl, by kernel_rfl⟩
theorem o25_3 : (opN zrb 1 3).op = .assign (.tmp 5) ∧ (opN zrb 1 3).guard = none ∧ (opN zrb 1 3).dst = some 2 := ⟨by kernel_rfl, by kernel_rfl, by kernel_rfl⟩
theorem zck1 (B : Nat) (H : AH) (v : AV) (xs : List Ad) (hs : SlA H v xs) (hlo : H.lo ≤ H.next) (hh : H.hide = []) (hxl : xs.length ≤ 100000) :
    FnN Tryz.prog B 345 [v] H fun r H' => ∃ ks, ks.Nodup ∧ (∀ q, q ∈ ks ↔ q ∈ xs) ∧ Srt H H' r ks := by
  obtain ⟨fn, h1, h2, h3, h4⟩ := l25
  refine zxf look_ok h1 h2 (by rw [h3]; simp) ?_
  rw [h3, h4, c25]
  refine zgb (R1 := fun ex T' H' => ex = .normal ∧ gT T' 0 = v ∧ H' = H) ?_ ?_ (fun ex T2 H2 h hne => absurd h.1 hne)
  · refine zcc look_ok (zia B) w25a ?_
    rw [c25a]
    unfold f345r0
    (repeat' (first | refine Z ?_ | refine Zq ?_ | refine zaa (by decide) ?_ | ((first | refine' Y ?_ ?_ | refine' X ?_ ?_ ?_); rotate_left; (· (first | (simp (disch := omega) only [evl, Nat.reduceEqDiff, Nat.reduceAdd, reduceIte, reduceCtorEq] <;> exact rfl) | exact rfl)); all_goals try (refine fun (hb : _ = _) => ?_; try simp only [Zu, ne_eq, reduceCtorEq] at hb)) | (apply zba; · simp [evl])))
    exact zma ⟨rfl, (by (first | (simp (disch := omega) only [evl, Nat.reduceEqDiff, Nat.reduceAdd, reduceIte, reduceCtorEq] <;> exact rfl) | exact rfl)), rfl⟩
  rintro T1 H1 ⟨_, t0, rfl⟩
  refine zgb (R1 := fun ex T' H' => ex = .normal ∧ ∃ ks, ks.Nodup ∧ (∀ q, q ∈ ks ↔ q ∈ xs) ∧ Srt H1 H' (gT T' 2) ks) ?_ ?_ (fun ex T2 H2 h hne => absurd h.1 hne)
  · refine zvb w25o ?_
    rw [c25o]
    refine ztd look_ok (zia B) (at_of c25o 0 rfl) ⟨.inl o25_0.1, o25_0.2⟩ ?_
    refine zyf look_ok (at_of c25o 1 rfl) o25_1 (args := [v]) ?_ (zgr look_ok (zia B) (of_ok H1 v xs hs hlo hh hxl)) ?_
    · show mapO (opnd _) [.tmp 3] = _
      rw [zab, zrc, zmb, zcb, if_pos rfl, t0]; rfl
    rintro r H2 ⟨rfl, hx, hlt, ks, ⟨es, c, hg, hM, hnd, hv, hle⟩, hmem⟩
    refine zyf look_ok (at_of c25o 2 rfl) o25_2 (args := [.map H1.next]) ?_ (zlg1 B H2 H1.next es c ks hM hg hlt (by rw [hx.lo]; omega) (hx.hide.trans hh) hle) ?_
    · show mapO (opnd _) [.tmp 4] = _
      rw [zab, zrc, zmb, zcb, if_pos rfl]; rfl
    rintro r H3 ⟨ys, hp, hasc, hnl, H4, hx4, hap4, hmz⟩
    refine ztd look_ok (zia B) (at_of c25o 3 rfl) ⟨.inr o25_3.1, o25_3.2⟩ ?_
    refine zre ⟨rfl, ks, hnd, hmem, ?_⟩
    rw [zcb, if_pos rfl, zcb, if_pos rfl]
    exact ⟨ys, hp, hasc, hnl, H4, hx.trans hx4, Ap.le hap4 (by omega), hmz⟩
  rintro T2 H2 ⟨_, hs⟩
  exact zcc look_ok (zia B) rfl (rc_ret (zma (zqc (zjc _ _) hs)))
theorem l118 : ∃ fn, look.func 407 = some fn ∧ fn.body = some zga ∧ fn.ntmps = 14 ∧ fn.results.toList = [.tmp 4] := ⟨Tryz.f407, by kernel_rfl, by kernel_rfl, by kernel_rfl, by kernel_rfl⟩
abbrev zdk1 : Code := seqA (seqB zga)
abbrev zek1 : Code := seqA (seqB (seqB zga))
abbrev zfk1 : Code := seqA (seqB (seqB (seqB zga)))
theorem c118 : zga = .seq (seqA zga) (.seq (.region 1 (opsOf zdk1) false) (.seq (.region 2 (opsOf zek1) false) (.seq (.region 3 (opsOf zfk1) false) .ret))) := by kernel_rfl
theorem c118a : comp look (seqA zga) = .reg f407r0 := by kernel_rfl
theorem w118a : wfC 14 (seqA zga) = true := by kernel_rfl
theorem w118o : wfOps 14 (opsOf zdk1) = true := by kernel_rfl
theorem w118p : wfOps 14 (opsOf zek1) = true := by kernel_rfl
theorem w118q : wfOps 14 (opsOf zfk1) = true := by kernel_rfl
theorem c118o : (opsOf zdk1).toList = [opN zga 1 0, opN zga 1 1, opN zga 1 2] := by kernel_rfl
theorem c118p : (opsOf zek1).toList = [opN zga 2 0, opN zga 2 1, opN zga 2 2, opN zga 2 3] := by kernel_rfl
theorem c118q : (opsOf zfk1).toList = [opN zga 3 0, opN zga 3 1, opN zga 3 2] := by kernel_rfl
theorem o118_0 : (opN zga 1 0).op = .move (.tmp 0) ∧ (opN zga 1 0).guard = none ∧ (opN zga 1 0).dst = some 6 := ⟨by kernel_rfl, by kernel_rfl, by kernel_rfl⟩
theorem o118_1 : (opN zga 1 1).op = .call { callee := .value (.func 483), args := #[.tmp 6], argTypes := #[111] } ∧ (opN zga 1 1).guard = none ∧ (opN zga 1 1).dst = some 7 := ⟨by kernel_rfl, by kernel_rfl, by kernel_rfl⟩
theorem o118_2 : (opN zga 1 2).op = .assign (.tmp 7) ∧ (opN zga 1 2).guard = none ∧ (opN zga 1 2).dst = some 5 := ⟨by kernel_rfl, by kernel_rfl, by kernel_rfl⟩
theorem o118_3 : (opN zga 2 0).op = .move (.tmp 5) ∧ (opN zga 2 0).guard = none ∧ (opN zga 2 0).dst = some 8 := ⟨by kernel_rfl, by kernel_rfl, by kernel_rfl⟩
theorem o118_4 : (opN zga 2 1).op = .move (.tmp 1) ∧ (opN zga 2 1).guard = none ∧ (opN zga 2 1).dst = some 9 := ⟨by kernel_rfl, by kernel_rfl, by kernel_rfl⟩
theorem o118_5 : (opN zga 2 2).op = .call { callee := .value (.func 483), args := #[.tmp 9], argTypes := #[111] } ∧ (opN zga 2 2).guard = none ∧ (opN zga 2 2).dst = some 10 := ⟨by kernel_rfl, by kernel_rfl, by kernel_rfl⟩
theorem o118_6 : (opN zga 2 3).op = .call { callee := .value (.func 528), args := #[.tmp 8, .tmp 10], argTypes := #[545, 545] } ∧ (opN zga 2 3).guard = none ∧ (opN zga 2 3).dst = some 11 := ⟨by kernel_rfl, by kernel_rfl, by kernel_rfl⟩
theorem o118_7 : (opN zga 3 0).op = .move (.tmp 5) ∧ (opN zga 3 0).guard = none ∧ (opN zga 3 0).dst = some 12 := ⟨by kernel_rfl, by kernel_rfl, by kernel_rfl⟩
theorem o118_8 : (opN zga 3 1).op = .call { callee := .value (.func 484), args := #[.tmp 12], argTypes := #[545] } ∧ (opN zga 3 1).guard = none ∧ (opN zga 3 1).dst = some 13 := ⟨by kernel_rfl, by kernel_rfl, by kernel_rfl⟩
theorem o118_9 : (opN zga 3 2).op = .assign (.tmp 13) ∧ (opN zga 3 2).guard = none ∧ (opN zga 3 2).dst = some 4 := ⟨by kernel_rfl, by kernel_rfl, by kernel_rfl⟩
theorem zgt {ks xs : List Ad} (hn : ks.Nodup) (h : ∀ q, q ∈ ks → q ∈ xs) : ks.length ≤ xs.length := by
  induction ks generalizing xs with
  | nil => exact Nat.zero_le _
  | cons p ks ih =>
    obtain ⟨h1, h2⟩ := List.nodup_cons.1 hn
    have hp := h p List.mem_cons_self
    have := ih (xs := xs.erase p) h2 fun q hq => (List.mem_erase_of_ne (fun (e : q = p) => h1 (e ▸ hq))).2 (h q (List.mem_cons_of_mem _ hq))
    rw [List.length_erase_of_mem hp] at this
    have : 0 < xs.length := List.length_pos_of_mem hp
    simp only [List.length_cons]; omega
theorem zee1 (B : Nat) (H : AH) (a b : AV) (xs ys : List Ad) (ha : SlA H a xs) (hb : SlA H b ys) (hlo : H.lo ≤ H.next) (hh : H.hide = []) (hxl : xs.length ≤ 50000) (hyl : ys.length ≤ 50000) :
    FnN Tryz.prog B 407 [a, b] H fun r H' => ∃ ks, ks.Nodup ∧ (∀ q, q ∈ ks ↔ q ∈ xs ∨ q ∈ ys) ∧ Srt H H' r ks := by
  obtain ⟨fn, h1, h2, h3, h4⟩ := l118
  refine zxf look_ok h1 h2 (by rw [h3]; simp) ?_
  rw [h3, h4, c118]
  refine zgb (R1 := fun ex T' H' => ex = .normal ∧ gT T' 0 = a ∧ gT T' 1 = b ∧ H' = H) ?_ ?_ (fun ex T2 H2 h hne => absurd h.1 hne)
  · refine zcc look_ok (zia B) w118a ?_
    rw [c118a]
    unfold f407r0
    (repeat' (first | refine Z ?_ | refine Zq ?_ | refine zaa (by decide) ?_ | ((first | refine' Y ?_ ?_ | refine' X ?_ ?_ ?_); rotate_left; (· (first | (simp (disch := omega) only [evl, Nat.reduceEqDiff, Nat.reduceAdd, reduceIte, reduceCtorEq] <;> exact rfl) | exact rfl)); all_goals try (refine fun (hb : _ = _) => ?_; try simp only [Zu, ne_eq, reduceCtorEq] at hb)) | (apply zba; · simp [evl])))
    exact zma ⟨rfl, (by (first | (simp (disch := omega) only [evl, Nat.reduceEqDiff, Nat.reduceAdd, reduceIte, reduceCtorEq] <;> exact rfl) | exact rfl)), (by (first | (simp (disch := omega) only [evl, Nat.reduceEqDiff, Nat.reduceAdd, reduceIte, reduceCtorEq] <;> exact rfl) | exact rfl)), rfl⟩
  rintro T1 H1 ⟨_, t0, t1, rfl⟩
  refine zgb (R1 := fun ex T' H' => ex = .normal ∧ gT T' 5 = .map H1.next ∧ gT T' 1 = b ∧ HX H1 H' ∧ H1.next < H'.next ∧ ∃ ks, SetA H' H1.next ks ∧ ∀ q, q ∈ ks ↔ q ∈ xs) ?_ ?_ (fun ex T2 H2 h hne => absurd h.1 hne)
  · refine zvb w118o ?_
    rw [c118o]
    refine ztd look_ok (zia B) (at_of c118o 0 rfl) ⟨.inl o118_0.1, o118_0.2⟩ ?_
    refine zyf look_ok (at_of c118o 1 rfl) o118_1 (args := [a]) ?_ (zgr look_ok (zia B) (of_ok H1 a xs ha hlo hh (by omega))) ?_
    · show mapO (opnd _) [.tmp 6] = _
      rw [zab, zrc, zmb, zcb, if_pos rfl, t0]; rfl
    rintro r H2 ⟨rfl, hres⟩
    refine ztd look_ok (zia B) (at_of c118o 2 rfl) ⟨.inr o118_2.1, o118_2.2⟩ ?_
    refine zre ⟨rfl, ?_, ?_, hres⟩
    · rw [zcb, if_pos rfl, zcb, if_pos rfl]
    · rw [zcb, if_neg (by decide), zcb, if_neg (by decide), zcb, if_neg (by decide)]; exact t1
  rintro T2 H2 ⟨_, s5, s1, hx2, hlt2, ks, ⟨es, c, hg, hM, hnd, hv, hle⟩, hmem⟩
  have hh2 : H2.hide = [] := hx2.hide.trans hh
  have hkl : ks.length ≤ xs.length := zgt hnd fun q hq => (hmem q).1 hq
  refine zgb (R1 := fun ex T' H' => ex = .normal ∧ gT T' 5 = .map H1.next ∧ HX H1 H' ∧ H1.next < H'.next ∧ ∃ ks es c, H'.get H1.next = some (.map es c) ∧ MapA es c ks ∧ ks.Nodup ∧ es.length ≤ 100000 ∧ ∀ q, q ∈ ks ↔ q ∈ xs ∨ q ∈ ys) ?_ ?_ (fun ex T2 H2 h hne => absurd h.1 hne)
  · refine zvb w118p ?_
    rw [c118p]
    refine ztd look_ok (zia B) (at_of c118p 0 rfl) ⟨.inl o118_3.1, o118_3.2⟩ ?_
    refine ztd look_ok (zia B) (at_of c118p 1 rfl) ⟨.inl o118_4.1, o118_4.2⟩ ?_
    refine zyf look_ok (at_of c118p 2 rfl) o118_5 (args := [b]) ?_ (zgr look_ok (zia B) (of_ok H2 b ys (hb.hx hx2) (by rw [hx2.lo]; omega) hh2 (by omega))) ?_
    · show mapO (opnd _) [.tmp 9] = _
      rw [zab, zrc, zmb, zcb, if_pos rfl, zcb, if_neg (by decide), s1]; rfl
    rintro r H3 ⟨rfl, hx3, hlt3, ls, ⟨ft, ck, hgf, hMf, hndf, hvf, hlef⟩, hmemf⟩
    have hll : ls.length ≤ ys.length := zgt hndf fun q hq => (hmemf q).1 hq
    refine zyf look_ok (at_of c118p 3 rfl) o118_6 (args := [.map H1.next, .map H2.next]) ?_ (copy_ok B H3 H1.next H2.next es c ks hM hnd (by rw [hx3.get (by omega)]; exact hg) ft ck ls hMf hgf hvf (by omega) (by have := hx3.next; omega) hlt3 (by rw [hx3.lo, hx2.lo]; exact hlo) (hx3.hide.trans hh2)) ?_
    · show mapO (opnd _) [.tmp 8, .tmp 10] = _
      rw [zab, zab, zrc, zmb, zmb, zcb, if_neg (by decide), zcb, if_neg (by decide), zcb, if_pos rfl, zcb, if_pos rfl, s5]; rfl
    rintro r H4 ⟨es4, c4, xs4, q1, q2, q3, q4, q5, q6⟩
    have hnx4 := q6.next
    have hnx3 := hx3.next
    refine zre ⟨rfl, ?_, ?_, by omega, xs4, es4, c4, q1, q2, q3, by omega, fun q => by rw [q4, hmem, hmemf]⟩
    · rw [zcb, if_neg (by decide), zcb, if_neg (by decide), zcb, if_neg (by decide), zcb, if_neg (by decide)]; exact s5
    · exact (((hx2.trans hx3).hp fun _ => True).trans q6 (r := fun j => j ≠ H1.next) fun j hj h => ⟨trivial, h⟩).hx fun i hi => by omega
  rintro T3 H3 ⟨_, u5, hx3, hlt3, ks3, es3, c3, g3, M3, n3, l3, m3⟩
  refine zgb (R1 := fun ex T' H' => ex = .normal ∧ ∃ ks, ks.Nodup ∧ (∀ q, q ∈ ks ↔ q ∈ xs ∨ q ∈ ys) ∧ Srt H1 H' (gT T' 4) ks) ?_ ?_ (fun ex T2 H2 h hne => absurd h.1 hne)
  · refine zvb w118q ?_
    rw [c118q]
    refine ztd look_ok (zia B) (at_of c118q 0 rfl) ⟨.inl o118_7.1, o118_7.2⟩ ?_
    refine zyf look_ok (at_of c118q 1 rfl) o118_8 (args := [.map H1.next]) ?_ (zlg1 B H3 H1.next es3 c3 ks3 M3 g3 hlt3 (by rw [hx3.lo]; omega) (hx3.hide.trans hh) l3) ?_
    · show mapO (opnd _) [.tmp 12] = _
      rw [zab, zrc, zmb, zcb, if_pos rfl, u5]; rfl
    rintro r H4 ⟨zs, hp, hasc, hnl, H5, hx5, hap5, hmz⟩
    refine ztd look_ok (zia B) (at_of c118q 2 rfl) ⟨.inr o118_9.1, o118_9.2⟩ ?_
    refine zre ⟨rfl, ks3, n3, m3, ?_⟩
    rw [zcb, if_pos rfl, zcb, if_pos rfl]
    exact ⟨zs, hp, hasc, hnl, H5, hx3.trans hx5, Ap.le hap5 (by omega), hmz⟩
  rintro T4 H4 ⟨_, hs⟩
  exact zcc look_ok (zia B) rfl (rc_ret (zma (zqc (zjc _ _) hs)))
def unC (l : List AV) : Option (List Ad) := match l with
  | [] => some []
  | .int .i64 a :: .int .i64 b :: r => (match unC r with | some xs => some ((a, b) :: xs) | none => none)
  | _ => none
theorem unC_ok : ∀ (l : List AV) (xs : List Ad), unC l = some xs → l = aC xs := by
  intro l
  induction l using unC.induct with
  | case1 => intro xs h; unfold unC at h; cases h; rfl
  | case2 a b r ys hr ih =>
    intro xs h
    unfold unC at h
    rw [hr] at h
    cases h
    rw [ih ys hr]; rfl
  | case3 a b r hr ih => intro xs h; unfold unC at h; rw [hr] at h; cases h
  | case4 l h1 h2 =>
    intro xs h
    unfold unC at h
    split at h
    · exact absurd rfl h1
    · next a b r => exact absurd rfl (h2 a b r)
    · cases h
def rdA (H : AH) (v : AV) : Option (List Ad) := match v with
  | .nilSl => some []
  | .sl i o n _ _ => (match H.subC i o (n * 2) with | some c => (match unC c.l with | some xs => (match Nat.beq (len xs) n with | true => some xs | false => none) | none => none) | none => none)
  | _ => none
theorem zgk1 {H : AH} (hw : H.Wf) {v : AV} {xs : List Ad} (h : rdA H v = some xs) : SlA H v xs := by
  unfold rdA at h
  split at h
  · cases h; exact .inl ⟨rfl, rfl⟩
  · next i o n c op =>
    split at h
    · next cc hcc =>
      split at h
      · next ys hys =>
        split at h
        · next hn =>
          cases h
          have hn := Nat.eq_of_beq_eq_true hn
          rw [zpc] at hn
          subst hn
          unfold AH.subC at hcc
          split at hcc
          · next c0 e z op' ro hg =>
            have h1 := Ce.sub_l hcc
            obtain ⟨h2, h3⟩ := (zwc _ _ _ _).1 h1
            have h4 := unC_ok _ _ hys
            exact .inr ⟨i, o, c, op, rfl, hw.get_lt hg, c0, e, z, op', ro, hg, h2, by rw [← h3, h4]⟩
          · cases hcc
        · cases h
      · cases h
    · cases h
  · cases h
def hasA (p : Ad) : List Ad → Bool
  | [] => false
  | q :: l => match FI.beq p.1 q.1 && FI.beq p.2 q.2 with | true => true | false => hasA p l
theorem zgn (p : Ad) : ∀ l, hasA p l = true ↔ p ∈ l
  | [] => by simp [hasA]
  | q :: l => by
    unfold hasA
    rw [FI.beq_eq, FI.beq_eq]
    by_cases h : p = q
    · subst h; simp
    · have : (decide (p.1 = q.1) && decide (p.2 = q.2)) = false := by
        rw [Bool.and_eq_false_iff]
        by_cases hx : p.1 = q.1
        · right; exact decide_eq_false fun hy => h (Prod.ext hx hy)
        · left; exact decide_eq_false hx
      have h2 : ((p.1 == q.1) && (p.2 == q.2)) = false := by simpa using this
      first
        | rw [this]; simp only; rw [zgn p l, List.mem_cons]; simp [h]
        | rw [h2]; simp only; rw [zgn p l, List.mem_cons]; simp [h]
def ddA : List Ad → List Ad
  | [] => []
  | p :: l => match hasA p (ddA l) with | true => ddA l | false => p :: ddA l
theorem zht (q : Ad) : ∀ l, q ∈ ddA l ↔ q ∈ l
  | [] => Iff.rfl
  | p :: l => by
    unfold ddA
    cases h : hasA p (ddA l) with
    | true =>
      have hp := (zgn p _).1 h
      simp only
      rw [zht q l, List.mem_cons]
      refine ⟨.inr, fun hq => hq.elim (fun hq => ?_) id⟩
      subst hq
      exact (zht q l).1 hp
    | false => simp only; rw [List.mem_cons, List.mem_cons, zht q l]
theorem zhk1 : ∀ l, (ddA l).Nodup
  | [] => List.nodup_nil
  | p :: l => by
    unfold ddA
    cases h : hasA p (ddA l) with
    | true => exact zhk1 l
    | false =>
      refine List.nodup_cons.2 ⟨fun hm => ?_, zhk1 l⟩
      rw [(zgn p _).2 hm] at h; cases h
theorem zog1 {ks xs : List Ad} (hn : ks.Nodup) (h : ∀ q, q ∈ ks ↔ q ∈ xs) : ks.Perm (ddA xs) := by
  refine (List.perm_ext_iff_of_nodup hn (zhk1 xs)).2 fun q => ?_
  rw [h, zht]
def zzy : XFn := fun args H => match args with
  | [v] => (match H.hide with
    | [] => (match rdA H v with
      | some xs => (match Nat.ble (len xs) 50000 with | true => some (outA (srtA (ddA xs)) H) | false => none)
      | none => none)
    | _ :: _ => none)
  | _ => none
def zqp : XFn := fun args H => match args with
  | [a, b] => (match H.hide with
    | [] => (match rdA H a, rdA H b with
      | some xs, some ys => (match Nat.ble (len xs) 50000, Nat.ble (len ys) 50000 with | true, true => some (outA (srtA (ddA (xs ++ ys))) H) | _, _ => none)
      | _, _ => none)
    | _ :: _ => none)
  | _ => none
theorem zaz {B : Nat} {E : Env} {H H' : AH} {w w1 : World} {v : AV} {u : Value} {ks zs : List Ad} (hw : H.Wf) (hS : St B E H w) (hd : Done B E H w v H' u w1) (hs : Srt H H' v ks) (hp : ks.Perm zs) :
    Done B E H w (outA (srtA zs) H).1 (outA (srtA zs) H).2 u w1 := by
  obtain ⟨ys, h1, h2, h3, H1, hx, hap, hmz⟩ := hs
  have e : ys = srtA zs := srtA_of h2 (h1.trans hp)
  subst e
  have hh : HW H H' := by rcases hmz with rfl | rfl <;> first | exact hx.hw | exact hx.hw.mz true
  have hap' : Ap H' v (srtA zs).length (aC (srtA zs)) 234 2 H.next := by rcases hmz with rfl | rfl <;> exact hap
  exact ap_done hw hS hd hh hap' (Nat.le_refl _) h3
theorem zfe1 (B : Nat) : XOk Tryz.prog B 345 zzy := by
  intro args H p hp E w us hw hS hus
  unfold zzy at hp
  split at hp
  · next v =>
    split at hp
    · next hh =>
      split at hp
      · next xs hxs =>
        split at hp
        · next hl =>
          cases hp
          rw [zpc] at hl
          have hl := Nat.le_of_ble_eq_true hl
          refine (zck1 B H v xs (zgk1 hw hxs) hw.lo hh (by omega) E w us hw hS hus).ok fun v' H' u w1 ⟨ks, hn, hm, hs⟩ hd => zaz hw hS hd hs (zog1 hn hm)
        · cases hp
      · cases hp
    · cases hp
  · cases hp
theorem zbz (B : Nat) : XOk Tryz.prog B 407 zqp := by
  intro args H p hp E w us hw hS hus
  unfold zqp at hp
  split at hp
  · next a b =>
    split at hp
    · next hh =>
      split at hp
      · next xs ys hxs hys =>
        split at hp
        · next hl hl2 =>
          cases hp
          rw [zpc] at hl hl2
          have hl := Nat.le_of_ble_eq_true hl
          have hl2 := Nat.le_of_ble_eq_true hl2
          refine (zee1 B H a b xs ys (zgk1 hw hxs) (zgk1 hw hys) hw.lo hh hl hl2 E w us hw hS hus).ok fun v' H' u w1 ⟨ks, hn, hm, hs⟩ hd => zaz hw hS hd hs (zog1 hn fun q => by rw [hm, List.mem_append])
        · cases hp
      · cases hp
    · cases hp
  · cases hp
end HS
open Go Go.Ev Go.Proofs Go.RowKit
namespace HS.Hs
set_option maxRecDepth 100000
def f561r0 : K2 :=
  .al false (alF (AV.toC (.agg [(.int .u32 (0)), (.int .u32 (0)), (.int .u32 (0)), (.int .u32 (0)), (.int .u32 (0)), (.int .u32 (0)), (.int .u32 (0)), (.int .u32 (0)), (.int .u32 (0)), (.int .u32 (0)), (.int .u32 (0)), (.int .u32 (0)), (.int .u32 (0)), (.int .u32 (0)), (.int .u32 (0)), (.int .u32 (0)), (.int .u32 (0)), (.int .u32 (0)), (.int .u32 (0)), (.int .u32 (0)), (.int .u32 (0)), (.int .u32 (0)), (.int .u32 (0)), (.int .u32 (0)), (.int .u32 (0)), (.int .u32 (0)), (.int .u32 (0)), (.int .u32 (0)), (.int .u32 (0)), (.int .u32 (0)), (.int .u32 (0)), (.int .u32 (0)), (.int .u32 (0)), (.int .u32 (0)), (.int .u32 (0)), (.int .u32 (0)), (.int .u32 (0)), (.int .u32 (0)), (.int .u32 (0)), (.int .u32 (0)), (.int .u32 (0)), (.int .u32 (0)), (.int .u32 (0)), (.int .u32 (0)), (.int .u32 (0)), (.int .u32 (0)), (.int .u32 (0)), (.int .u32 (0)), (.int .u32 (0)), (.int .u32 (0)), (.int .u32 (0)), (.int .u32 (0)), (.int .u32 (0)), (.int .u32 (0)), (.int .u32 (0)), (.int .u32 (0)), (.int .u32 (0)), (.int .u32 (0)), (.int .u32 (0)), (.int .u32 (0)), (.int .u32 (0)), (.int .u32 (0)), (.int .u32 (0)), (.int .u32 (0))])) 629 64) (some (sOf 0)) <|
  .done
def f561r1 : K2 :=
  .ln (fun xs _ => zee look 629 (zipF [0, 1, 2, 3, 4, 5, 6, 7, 8, 9, 10, 11, 12, 13, 14, 15, 16, 17, 18, 19, 20, 21, 22, 23, 24, 25, 26, 27, 28, 29, 30, 31, 32, 33, 34, 35, 36, 37, 38, 39, 40, 41, 42, 43, 44, 45, 46, 47, 48, 49, 50, 51, 52, 53, 54, 55, 56, 57, 58, 59, 60, 61, 62, 63] xs)) [(.con (.int .u32 (1116352408))), (.con (.int .u32 (1899447441))), (.con (.int .u32 (3049323471))), (.con (.int .u32 (3921009573))), (.con (.int .u32 (961987163))), (.con (.int .u32 (1508970993))), (.con (.int .u32 (2453635748))), (.con (.int .u32 (2870763221))), (.con (.int .u32 (3624381080))), (.con (.int .u32 (310598401))), (.con (.int .u32 (607225278))), (.con (.int .u32 (1426881987))), (.con (.int .u32 (1925078388))), (.con (.int .u32 (2162078206))), (.con (.int .u32 (2614888103))), (.con (.int .u32 (3248222580))), (.con (.int .u32 (3835390401))), (.con (.int .u32 (4022224774))), (.con (.int .u32 (264347078))), (.con (.int .u32 (604807628))), (.con (.int .u32 (770255983))), (.con (.int .u32 (1249150122))), (.con (.int .u32 (1555081692))), (.con (.int .u32 (1996064986))), (.con (.int .u32 (2554220882))), (.con (.int .u32 (2821834349))), (.con (.int .u32 (2952996808))), (.con (.int .u32 (3210313671))), (.con (.int .u32 (3336571891))), (.con (.int .u32 (3584528711))), (.con (.int .u32 (113926993))), (.con (.int .u32 (338241895))), (.con (.int .u32 (666307205))), (.con (.int .u32 (773529912))), (.con (.int .u32 (1294757372))), (.con (.int .u32 (1396182291))), (.con (.int .u32 (1695183700))), (.con (.int .u32 (1986661051))), (.con (.int .u32 (2177026350))), (.con (.int .u32 (2456956037))), (.con (.int .u32 (2730485921))), (.con (.int .u32 (2820302411))), (.con (.int .u32 (3259730800))), (.con (.int .u32 (3345764771))), (.con (.int .u32 (3516065817))), (.con (.int .u32 (3600352804))), (.con (.int .u32 (4094571909))), (.con (.int .u32 (275423344))), (.con (.int .u32 (430227734))), (.con (.int .u32 (506948616))), (.con (.int .u32 (659060556))), (.con (.int .u32 (883997877))), (.con (.int .u32 (958139571))), (.con (.int .u32 (1322822218))), (.con (.int .u32 (1537002063))), (.con (.int .u32 (1747873779))), (.con (.int .u32 (1955562222))), (.con (.int .u32 (2024104815))), (.con (.int .u32 (2227730452))), (.con (.int .u32 (2361852424))), (.con (.int .u32 (2428436474))), (.con (.int .u32 (2756734187))), (.con (.int .u32 (3204031479))), (.con (.int .u32 (3329325298)))] (some (sOf 1)) <|
  .st false (stN 64) (tO 0) (tO 1) none <|
  .done
def f561c : C2 := (.seq (.reg f561r0)
  (.seq (.reg f561r1)
  .ret))
theorem f561_eq : fnF look 561 = some ⟨2, f561c, [.cell 0 629]⟩ := by kernel_rfl
def f563r0 : K2 :=
  .mv (.con (.int .u32 (0))) (some (sOf 6)) <|
  .done
def f563r1 : K2 :=
  .mv (tO 0) (some (sOf 11)) <|
  .mv (tO 1) (some (sOf 12)) <|
  .p2 (binF .rem (evBin look .rem 3 (.tmp 12) (.const (.int .i64 (16))))) (tO 12) (.con (.int .i64 (16))) (some (sOf 13)) <|
  .p1 nilF (tO 11) (some (sOf 14)) <|
  .p2 (ixA 16 1) (tO 14) (tO 13) (some (sOf 15)) <|
  .mv (tO 15) (some (sOf 7)) <|
  .done
def f563r2 : K2 :=
  .mv (tO 1) (some (sOf 16)) <|
  .p2 (binF .lss (evBin look .lss 3 (.tmp 16) (.const (.int .i64 (16))))) (tO 16) (.con (.int .i64 (16))) (some (sOf 17)) <|
  .done
def f563r3 : K2 :=
  .mv (tO 2) (some (sOf 18)) <|
  .mv (tO 1) (some (sOf 19)) <|
  .p2 (binF .mul (evBin look .mul 3 (.const (.int .i64 (4))) (.tmp 19))) (.con (.int .i64 (4))) (tO 19) (some (sOf 20)) <|
  .mv (tO 1) (some (sOf 21)) <|
  .p2 (binF .mul (evBin look .mul 3 (.const (.int .i64 (4))) (.tmp 21))) (.con (.int .i64 (4))) (tO 21) (some (sOf 22)) <|
  .p2 (binF .add (evBin look .add 3 (.tmp 22) (.const (.int .i64 (4))))) (tO 22) (.con (.int .i64 (4))) (some (sOf 23)) <|
  .mv (tO 1) (some (sOf 24)) <|
  .p2 (binF .mul (evBin look .mul 3 (.const (.int .i64 (4))) (.tmp 24))) (.con (.int .i64 (4))) (tO 24) (some (sOf 25)) <|
  .p2 (binF .add (evBin look .add 3 (.tmp 25) (.const (.int .i64 (4))))) (tO 25) (.con (.int .i64 (4))) (some (sOf 26)) <|
  .ln (fun xs _ => zkk look 28 true true true xs) [(tO 18), (tO 20), (tO 23), (tO 26)] (some (sOf 27)) <|
  .mv (tO 27) (some (sOf 8)) <|
  .done
def f563r4 : K2 :=
  .mv (tO 7) (some (sOf 28)) <|
  .mv (tO 8) (some (sOf 29)) <|
  .p2 (ixS 1) (tO 29) (.con (.int .i64 (0))) (some (sOf 30)) <|
  .r1 ld1 (tO 30) (some (sOf 31)) <|
  .p1 (cvI .u32) (tO 31) (some (sOf 32)) <|
  .p2 (binF .shl (evBin look .shl 519 (.tmp 32) (.const (.int .u64 (24))))) (tO 32) (.con (.int .u64 (24))) (some (sOf 33)) <|
  .mv (tO 8) (some (sOf 34)) <|
  .p2 (ixS 1) (tO 34) (.con (.int .i64 (1))) (some (sOf 35)) <|
  .r1 ld1 (tO 35) (some (sOf 36)) <|
  .p1 (cvI .u32) (tO 36) (some (sOf 37)) <|
  .p2 (binF .shl (evBin look .shl 519 (.tmp 37) (.const (.int .u64 (16))))) (tO 37) (.con (.int .u64 (16))) (some (sOf 38)) <|
  .p2 (binF .or (evBin look .or 519 (.tmp 33) (.tmp 38))) (tO 33) (tO 38) (some (sOf 39)) <|
  .mv (tO 8) (some (sOf 40)) <|
  .p2 (ixS 1) (tO 40) (.con (.int .i64 (2))) (some (sOf 41)) <|
  .r1 ld1 (tO 41) (some (sOf 42)) <|
  .p1 (cvI .u32) (tO 42) (some (sOf 43)) <|
  .p2 (binF .shl (evBin look .shl 519 (.tmp 43) (.const (.int .u64 (8))))) (tO 43) (.con (.int .u64 (8))) (some (sOf 44)) <|
  .p2 (binF .or (evBin look .or 519 (.tmp 39) (.tmp 44))) (tO 39) (tO 44) (some (sOf 45)) <|
  .mv (tO 8) (some (sOf 46)) <|
  .p2 (ixS 1) (tO 46) (.con (.int .i64 (3))) (some (sOf 47)) <|
  .r1 ld1 (tO 47) (some (sOf 48)) <|
  .p1 (cvI .u32) (tO 48) (some (sOf 49)) <|
  .p2 (binF .or (evBin look .or 519 (.tmp 45) (.tmp 49))) (tO 45) (tO 49) (some (sOf 50)) <|
  .p1 nilF (tO 28) (some (sOf 51)) <|
  .st false (st1 look 519) (tO 51) (tO 50) none <|
  .done
def f563r5 : K2 :=
  .mv (tO 7) (some (sOf 52)) <|
  .p1 nilF (tO 52) (some (sOf 53)) <|
  .r1 ld1 (tO 53) (some (sOf 54)) <|
  .mv (tO 54) (some (sOf 6)) <|
  .done
def f563r6 : K2 :=
  .mv (tO 0) (some (sOf 55)) <|
  .mv (tO 1) (some (sOf 56)) <|
  .p2 (binF .sub (evBin look .sub 3 (.tmp 56) (.const (.int .i64 (15))))) (tO 56) (.con (.int .i64 (15))) (some (sOf 57)) <|
  .p2 (binF .rem (evBin look .rem 3 (.tmp 57) (.const (.int .i64 (16))))) (tO 57) (.con (.int .i64 (16))) (some (sOf 58)) <|
  .p1 nilF (tO 55) (some (sOf 59)) <|
  .p2 (ixA 16 1) (tO 59) (tO 58) (some (sOf 60)) <|
  .r1 ld1 (tO 60) (some (sOf 61)) <|
  .mv (tO 0) (some (sOf 62)) <|
  .mv (tO 1) (some (sOf 63)) <|
  .p2 (binF .sub (evBin look .sub 3 (.tmp 63) (.const (.int .i64 (2))))) (tO 63) (.con (.int .i64 (2))) (some (sOf 64)) <|
  .p2 (binF .rem (evBin look .rem 3 (.tmp 64) (.const (.int .i64 (16))))) (tO 64) (.con (.int .i64 (16))) (some (sOf 65)) <|
  .p1 nilF (tO 62) (some (sOf 66)) <|
  .p2 (ixA 16 1) (tO 66) (tO 65) (some (sOf 67)) <|
  .r1 ld1 (tO 67) (some (sOf 68)) <|
  .mv (tO 61) (some (sOf 9)) <|
  .mv (tO 68) (some (sOf 10)) <|
  .done
def f563r7 : K2 :=
  .mv (tO 7) (some (sOf 69)) <|
  .p1 nilF (tO 69) (some (sOf 70)) <|
  .r1 ld1 (tO 70) (some (sOf 71)) <|
  .mv (tO 9) (some (sOf 72)) <|
  .mv (tO 9) (some (sOf 74)) <|
  .mv (tO 9) (some (sOf 77)) <|
  .p2 (binF .shr (evBin look .shr 519 (.tmp 77) (.const (.int .u64 (3))))) (tO 77) (.con (.int .u64 (3))) (some (sOf 78)) <|
  .cw (some [sOf 70]) 562 [(tO 72), (.con (.int .i64 (7)))] (some (sOf 73)) <|
  .cw (some [sOf 70]) 562 [(tO 74), (.con (.int .i64 (18)))] (some (sOf 75)) <|
  .p2 (binF .xor (evBin look .xor 519 (.tmp 73) (.tmp 75))) (tO 73) (tO 75) (some (sOf 76)) <|
  .p2 (binF .xor (evBin look .xor 519 (.tmp 76) (.tmp 78))) (tO 76) (tO 78) (some (sOf 79)) <|
  .p2 (binF .add (evBin look .add 519 (.tmp 71) (.tmp 79))) (tO 71) (tO 79) (some (sOf 80)) <|
  .p1 nilF (tO 69) (some (sOf 81)) <|
  .st false (st1 look 519) (tO 81) (tO 80) none <|
  .done
def f563r8 : K2 :=
  .mv (tO 7) (some (sOf 82)) <|
  .p1 nilF (tO 82) (some (sOf 83)) <|
  .r1 ld1 (tO 83) (some (sOf 84)) <|
  .mv (tO 0) (some (sOf 85)) <|
  .mv (tO 1) (some (sOf 86)) <|
  .p2 (binF .sub (evBin look .sub 3 (.tmp 86) (.const (.int .i64 (7))))) (tO 86) (.con (.int .i64 (7))) (some (sOf 87)) <|
  .p2 (binF .rem (evBin look .rem 3 (.tmp 87) (.const (.int .i64 (16))))) (tO 87) (.con (.int .i64 (16))) (some (sOf 88)) <|
  .p1 nilF (tO 85) (some (sOf 89)) <|
  .p2 (ixA 16 1) (tO 89) (tO 88) (some (sOf 90)) <|
  .r1 ld1 (tO 90) (some (sOf 91)) <|
  .p2 (binF .add (evBin look .add 519 (.tmp 84) (.tmp 91))) (tO 84) (tO 91) (some (sOf 92)) <|
  .p1 nilF (tO 82) (some (sOf 93)) <|
  .st false (st1 look 519) (tO 93) (tO 92) none <|
  .done
def f563r9 : K2 :=
  .mv (tO 7) (some (sOf 94)) <|
  .p1 nilF (tO 94) (some (sOf 95)) <|
  .r1 ld1 (tO 95) (some (sOf 96)) <|
  .mv (tO 10) (some (sOf 97)) <|
  .mv (tO 10) (some (sOf 99)) <|
  .mv (tO 10) (some (sOf 102)) <|
  .p2 (binF .shr (evBin look .shr 519 (.tmp 102) (.const (.int .u64 (10))))) (tO 102) (.con (.int .u64 (10))) (some (sOf 103)) <|
  .cw (some [sOf 95]) 562 [(tO 97), (.con (.int .i64 (17)))] (some (sOf 98)) <|
  .cw (some [sOf 95]) 562 [(tO 99), (.con (.int .i64 (19)))] (some (sOf 100)) <|
  .p2 (binF .xor (evBin look .xor 519 (.tmp 98) (.tmp 100))) (tO 98) (tO 100) (some (sOf 101)) <|
  .p2 (binF .xor (evBin look .xor 519 (.tmp 101) (.tmp 103))) (tO 101) (tO 103) (some (sOf 104)) <|
  .p2 (binF .add (evBin look .add 519 (.tmp 96) (.tmp 104))) (tO 96) (tO 104) (some (sOf 105)) <|
  .p1 nilF (tO 94) (some (sOf 106)) <|
  .st false (st1 look 519) (tO 106) (tO 105) none <|
  .done
def f563r10 : K2 :=
  .mv (tO 7) (some (sOf 107)) <|
  .p1 nilF (tO 107) (some (sOf 108)) <|
  .r1 ld1 (tO 108) (some (sOf 109)) <|
  .mv (tO 109) (some (sOf 6)) <|
  .done
def f563c : C2 := (.seq (.reg f563r0)
  (.seq (.reg f563r1)
  (.seq (.seq (.reg f563r2)
  (.cond (tO 17) (.seq (.reg f563r3)
  (.seq (.reg f563r4)
  (.seq (.reg f563r5)
  .ret))) .skip))
  (.seq (.reg f563r6)
  (.seq (.reg f563r7)
  (.seq (.reg f563r8)
  (.seq (.reg f563r9)
  (.seq (.reg f563r10)
  .ret))))))))
theorem zpg1 : fnF look 563 = some ⟨110, f563c, [.tmp 6]⟩ := by kernel_rfl
def zcz : Code := bodyN look 451
def f451r0 : K2 :=
  .m1 false (fun v H => alF v.toC 521 8 H) (tO 0) (some (sOf 2)) <|
  .al false (alF (AV.toC (.agg [(.int .u32 (0)), (.int .u32 (0)), (.int .u32 (0)), (.int .u32 (0)), (.int .u32 (0)), (.int .u32 (0)), (.int .u32 (0)), (.int .u32 (0))])) 521 8) (some (sOf 4)) <|
  .done
def f451r1 : K2 :=
  .r1 (ldN 8) (tO 2) (some (sOf 14)) <|
  .cw (some [sOf 2]) 561 [] (some (sOf 15)) <|
  .al true (alF (AV.toC (.agg [(.int .u32 (0)), (.int .u32 (0)), (.int .u32 (0)), (.int .u32 (0)), (.int .u32 (0)), (.int .u32 (0)), (.int .u32 (0)), (.int .u32 (0))])) 521 8) (some (sOf 5)) <|
  .al true (alF (AV.toC (.agg [(.int .u32 (0)), (.int .u32 (0)), (.int .u32 (0)), (.int .u32 (0)), (.int .u32 (0)), (.int .u32 (0)), (.int .u32 (0)), (.int .u32 (0)), (.int .u32 (0)), (.int .u32 (0)), (.int .u32 (0)), (.int .u32 (0)), (.int .u32 (0)), (.int .u32 (0)), (.int .u32 (0)), (.int .u32 (0)), (.int .u32 (0)), (.int .u32 (0)), (.int .u32 (0)), (.int .u32 (0)), (.int .u32 (0)), (.int .u32 (0)), (.int .u32 (0)), (.int .u32 (0)), (.int .u32 (0)), (.int .u32 (0)), (.int .u32 (0)), (.int .u32 (0)), (.int .u32 (0)), (.int .u32 (0)), (.int .u32 (0)), (.int .u32 (0)), (.int .u32 (0)), (.int .u32 (0)), (.int .u32 (0)), (.int .u32 (0)), (.int .u32 (0)), (.int .u32 (0)), (.int .u32 (0)), (.int .u32 (0)), (.int .u32 (0)), (.int .u32 (0)), (.int .u32 (0)), (.int .u32 (0)), (.int .u32 (0)), (.int .u32 (0)), (.int .u32 (0)), (.int .u32 (0)), (.int .u32 (0)), (.int .u32 (0)), (.int .u32 (0)), (.int .u32 (0)), (.int .u32 (0)), (.int .u32 (0)), (.int .u32 (0)), (.int .u32 (0)), (.int .u32 (0)), (.int .u32 (0)), (.int .u32 (0)), (.int .u32 (0)), (.int .u32 (0)), (.int .u32 (0)), (.int .u32 (0)), (.int .u32 (0))])) 629 64) (some (sOf 6)) <|
  .st false (stN 8) (tO 5) (tO 14) none <|
  .st false (stN 64) (tO 6) (tO 15) none <|
  .done
def f451r2 : K2 :=
  .al false (alF (AV.toC (.agg [(.int .u32 (0)), (.int .u32 (0)), (.int .u32 (0)), (.int .u32 (0)), (.int .u32 (0)), (.int .u32 (0)), (.int .u32 (0)), (.int .u32 (0)), (.int .u32 (0)), (.int .u32 (0)), (.int .u32 (0)), (.int .u32 (0)), (.int .u32 (0)), (.int .u32 (0)), (.int .u32 (0)), (.int .u32 (0))])) 632 16) (some (sOf 7)) <|
  .done
def f451r3 : K2 :=
  .mv (.con (.int .i64 (0))) (some (sOf 16)) <|
  .done
def f451r4 : K2 :=
  .p2 (binF .lss (evBin look .lss 3 (.tmp 16) (.const (.int .i64 (64))))) (tO 16) (.con (.int .i64 (64))) (some (sOf 17)) <|
  .done
def f451r5 : K2 :=
  .mv (tO 16) (some (sOf 18)) <|
  .mv (tO 18) (some (sOf 8)) <|
  .done
def f451r6 : K2 :=
  .p2 (ixA 8 1) (tO 2) (.con (.int .i64 (0))) (some (sOf 19)) <|
  .r1 ld1 (tO 19) (some (sOf 20)) <|
  .p2 (ixA 8 1) (tO 2) (.con (.int .i64 (4))) (some (sOf 21)) <|
  .r1 ld1 (tO 21) (some (sOf 22)) <|
  .mv (tO 20) (some (sOf 9)) <|
  .mv (tO 22) (some (sOf 10)) <|
  .done
def f451r7 : K2 :=
  .p2 (ixA 8 1) (tO 2) (.con (.int .i64 (7))) (some (sOf 23)) <|
  .r1 ld1 (tO 23) (some (sOf 24)) <|
  .mv (tO 10) (some (sOf 25)) <|
  .mv (tO 10) (some (sOf 27)) <|
  .mv (tO 10) (some (sOf 30)) <|
  .mv (tO 10) (some (sOf 34)) <|
  .p2 (ixA 8 1) (tO 2) (.con (.int .i64 (5))) (some (sOf 35)) <|
  .r1 ld1 (tO 35) (some (sOf 36)) <|
  .p2 (binF .and (evBin look .and 519 (.tmp 34) (.tmp 36))) (tO 34) (tO 36) (some (sOf 37)) <|
  .mv (tO 10) (some (sOf 38)) <|
  .p1 (evUn .xor) (tO 38) (some (sOf 39)) <|
  .p2 (ixA 8 1) (tO 2) (.con (.int .i64 (6))) (some (sOf 40)) <|
  .r1 ld1 (tO 40) (some (sOf 41)) <|
  .p2 (binF .and (evBin look .and 519 (.tmp 39) (.tmp 41))) (tO 39) (tO 41) (some (sOf 42)) <|
  .p2 (binF .xor (evBin look .xor 519 (.tmp 37) (.tmp 42))) (tO 37) (tO 42) (some (sOf 43)) <|
  .mv (tO 8) (some (sOf 45)) <|
  .p2 (ixA 64 1) (tO 6) (tO 45) (some (sOf 46)) <|
  .r1 ld1 (tO 46) (some (sOf 47)) <|
  .mv (tO 8) (some (sOf 49)) <|
  .mv (tO 1) (some (sOf 50)) <|
  .cw (some [sOf 46, sOf 40, sOf 35, sOf 23]) 562 [(tO 25), (.con (.int .i64 (6)))] (some (sOf 26)) <|
  .cw (some [sOf 46, sOf 40, sOf 35, sOf 23]) 562 [(tO 27), (.con (.int .i64 (11)))] (some (sOf 28)) <|
  .p2 (binF .xor (evBin look .xor 519 (.tmp 26) (.tmp 28))) (tO 26) (tO 28) (some (sOf 29)) <|
  .cw (some [sOf 46, sOf 40, sOf 35, sOf 23]) 562 [(tO 30), (.con (.int .i64 (25)))] (some (sOf 31)) <|
  .p2 (binF .xor (evBin look .xor 519 (.tmp 29) (.tmp 31))) (tO 29) (tO 31) (some (sOf 32)) <|
  .p2 (binF .add (evBin look .add 519 (.tmp 24) (.tmp 32))) (tO 24) (tO 32) (some (sOf 33)) <|
  .p2 (binF .add (evBin look .add 519 (.tmp 33) (.tmp 43))) (tO 33) (tO 43) (some (sOf 44)) <|
  .p2 (binF .add (evBin look .add 519 (.tmp 44) (.tmp 47))) (tO 44) (tO 47) (some (sOf 48)) <|
  .cw (some [sOf 46, sOf 40, sOf 35, sOf 23]) 563 [(tO 7), (tO 49), (tO 50)] (some (sOf 51)) <|
  .p2 (binF .add (evBin look .add 519 (.tmp 48) (.tmp 51))) (tO 48) (tO 51) (some (sOf 52)) <|
  .mv (tO 52) (some (sOf 11)) <|
  .done
def f451r8 : K2 :=
  .mv (tO 9) (some (sOf 53)) <|
  .mv (tO 9) (some (sOf 55)) <|
  .mv (tO 9) (some (sOf 58)) <|
  .mv (tO 9) (some (sOf 61)) <|
  .p2 (ixA 8 1) (tO 2) (.con (.int .i64 (1))) (some (sOf 62)) <|
  .r1 ld1 (tO 62) (some (sOf 63)) <|
  .p2 (binF .and (evBin look .and 519 (.tmp 61) (.tmp 63))) (tO 61) (tO 63) (some (sOf 64)) <|
  .mv (tO 9) (some (sOf 65)) <|
  .p2 (ixA 8 1) (tO 2) (.con (.int .i64 (2))) (some (sOf 66)) <|
  .r1 ld1 (tO 66) (some (sOf 67)) <|
  .p2 (binF .and (evBin look .and 519 (.tmp 65) (.tmp 67))) (tO 65) (tO 67) (some (sOf 68)) <|
  .p2 (binF .xor (evBin look .xor 519 (.tmp 64) (.tmp 68))) (tO 64) (tO 68) (some (sOf 69)) <|
  .p2 (ixA 8 1) (tO 2) (.con (.int .i64 (1))) (some (sOf 70)) <|
  .r1 ld1 (tO 70) (some (sOf 71)) <|
  .p2 (ixA 8 1) (tO 2) (.con (.int .i64 (2))) (some (sOf 72)) <|
  .r1 ld1 (tO 72) (some (sOf 73)) <|
  .p2 (binF .and (evBin look .and 519 (.tmp 71) (.tmp 73))) (tO 71) (tO 73) (some (sOf 74)) <|
  .p2 (binF .xor (evBin look .xor 519 (.tmp 69) (.tmp 74))) (tO 69) (tO 74) (some (sOf 75)) <|
  .cw (some [sOf 72, sOf 70, sOf 66, sOf 62]) 562 [(tO 53), (.con (.int .i64 (2)))] (some (sOf 54)) <|
  .cw (some [sOf 72, sOf 70, sOf 66, sOf 62]) 562 [(tO 55), (.con (.int .i64 (13)))] (some (sOf 56)) <|
  .p2 (binF .xor (evBin look .xor 519 (.tmp 54) (.tmp 56))) (tO 54) (tO 56) (some (sOf 57)) <|
  .cw (some [sOf 72, sOf 70, sOf 66, sOf 62]) 562 [(tO 58), (.con (.int .i64 (22)))] (some (sOf 59)) <|
  .p2 (binF .xor (evBin look .xor 519 (.tmp 57) (.tmp 59))) (tO 57) (tO 59) (some (sOf 60)) <|
  .p2 (binF .add (evBin look .add 519 (.tmp 60) (.tmp 75))) (tO 60) (tO 75) (some (sOf 76)) <|
  .mv (tO 76) (some (sOf 12)) <|
  .done
def f451r9 : K2 :=
  .mv (tO 11) (some (sOf 77)) <|
  .mv (tO 12) (some (sOf 78)) <|
  .p2 (binF .add (evBin look .add 519 (.tmp 77) (.tmp 78))) (tO 77) (tO 78) (some (sOf 79)) <|
  .mv (tO 9) (some (sOf 80)) <|
  .p2 (ixA 8 1) (tO 2) (.con (.int .i64 (1))) (some (sOf 81)) <|
  .r1 ld1 (tO 81) (some (sOf 82)) <|
  .p2 (ixA 8 1) (tO 2) (.con (.int .i64 (2))) (some (sOf 83)) <|
  .r1 ld1 (tO 83) (some (sOf 84)) <|
  .p2 (ixA 8 1) (tO 2) (.con (.int .i64 (3))) (some (sOf 85)) <|
  .r1 ld1 (tO 85) (some (sOf 86)) <|
  .mv (tO 11) (some (sOf 87)) <|
  .p2 (binF .add (evBin look .add 519 (.tmp 86) (.tmp 87))) (tO 86) (tO 87) (some (sOf 88)) <|
  .mv (tO 10) (some (sOf 89)) <|
  .p2 (ixA 8 1) (tO 2) (.con (.int .i64 (5))) (some (sOf 90)) <|
  .r1 ld1 (tO 90) (some (sOf 91)) <|
  .p2 (ixA 8 1) (tO 2) (.con (.int .i64 (6))) (some (sOf 92)) <|
  .r1 ld1 (tO 92) (some (sOf 93)) <|
  .ln (fun xs _ => zee look 521 (zipF [0, 1, 2, 3, 4, 5, 6, 7] xs)) [(tO 79), (tO 80), (tO 82), (tO 84), (tO 88), (tO 89), (tO 91), (tO 93)] (some (sOf 94)) <|
  .st false (stN 8) (tO 2) (tO 94) none <|
  .done
def f451r10 : K2 :=
  .p2 (binF .add (evBin look .add 3 (.tmp 16) (.const (.int .i64 (1))))) (tO 16) (.con (.int .i64 (1))) (some (sOf 95)) <|
  .mv (tO 95) (some (sOf 16)) <|
  .done
def zge1 : C2 := (.seq (.reg f451r4)
  (.seq (.cond (tO 17) .skip (.exit 0))
  (.seq (.block 1 (.seq (.reg f451r5)
  (.seq (.reg f451r6)
  (.seq (.reg f451r7)
  (.seq (.reg f451r8)
  (.reg f451r9))))))
  (.reg f451r10))))
def f451b0 : Code := lpN zcz 0
theorem zhe1 : comp look f451b0 = zge1 := by kernel_rfl
def f451r11 : K2 :=
  .mv (.con (.int .i64 (0))) (some (sOf 96)) <|
  .done
def f451r12 : K2 :=
  .p2 (binF .lss (evBin look .lss 3 (.tmp 96) (.const (.int .i64 (8))))) (tO 96) (.con (.int .i64 (8))) (some (sOf 97)) <|
  .done
def f451r13 : K2 :=
  .mv (tO 96) (some (sOf 98)) <|
  .mv (tO 98) (some (sOf 13)) <|
  .done
def f451r14 : K2 :=
  .mv (tO 13) (some (sOf 99)) <|
  .p2 (ixA 8 1) (tO 2) (tO 99) (some (sOf 100)) <|
  .r1 ld1 (tO 100) (some (sOf 101)) <|
  .mv (tO 13) (some (sOf 102)) <|
  .p2 (ixA 8 1) (tO 5) (tO 102) (some (sOf 103)) <|
  .r1 ld1 (tO 103) (some (sOf 104)) <|
  .p2 (binF .add (evBin look .add 519 (.tmp 101) (.tmp 104))) (tO 101) (tO 104) (some (sOf 105)) <|
  .p2 (ixA 8 1) (tO 2) (tO 99) (some (sOf 106)) <|
  .st false (st1 look 519) (tO 106) (tO 105) none <|
  .done
def f451r15 : K2 :=
  .p2 (binF .add (evBin look .add 3 (.tmp 96) (.const (.int .i64 (1))))) (tO 96) (.con (.int .i64 (1))) (some (sOf 107)) <|
  .mv (tO 107) (some (sOf 96)) <|
  .done
def f451l1 : C2 := (.seq (.reg f451r12)
  (.seq (.cond (tO 97) .skip (.exit 2))
  (.seq (.block 3 (.seq (.reg f451r13)
  (.reg f451r14)))
  (.reg f451r15))))
def f451b1 : Code := lpN zcz 1
theorem zie1 : comp look f451b1 = f451l1 := by kernel_rfl
def f451r16 : K2 :=
  .r1 (ldN 8) (tO 2) (some (sOf 108)) <|
  .st false (stN 8) (tO 4) (tO 108) none <|
  .done
def f451c : C2 := (.seq (.reg f451r0)
  (.seq (.reg f451r1)
  (.seq (.reg f451r2)
  (.seq (.seq (.reg f451r3)
  (.block 0 (.loop f451b0)))
  (.seq (.seq (.reg f451r11)
  (.block 2 (.loop f451b1)))
  (.seq (.reg f451r16)
  .ret))))))
theorem f451_eq : fnF look 451 = some ⟨109, f451c, [.cell 4 521]⟩ := by kernel_rfl
abbrev W (a : Nat) : AV := .int .u32 (Int.ofNat a)
def M32 (a : Nat) : Nat := Nat.mod a 4294967296
def rotR (n a : Nat) : Nat := M32 (Nat.lor (M32 (M32 (Nat.mul a (Nat.pow 2 (Nat.sub 32 n))))) (M32 (Nat.div a (Nat.pow 2 n))))
theorem r2 (a : Nat) (H : AH) (k : Nat) : evF look (k + 6) (.call 562 [W a, .int .i64 2] H) = some (out1 (W (rotR 2 a)) H) := by kernel_rfl
theorem rot2 (a : Nat) (H : AH) : FnE look 562 [W a, .int .i64 2] H fun r H' => r = W (rotR 2 a) ∧ H' = H :=
  ⟨_, _, ⟨rfl, rfl⟩, 6, fun m hm => by obtain ⟨k, rfl⟩ : ∃ k, m = k + 6 := ⟨m - 6, by omega⟩; exact r2 a H k⟩
theorem r6 (a : Nat) (H : AH) (k : Nat) : evF look (k + 6) (.call 562 [W a, .int .i64 6] H) = some (out1 (W (rotR 6 a)) H) := by kernel_rfl
theorem rot6 (a : Nat) (H : AH) : FnE look 562 [W a, .int .i64 6] H fun r H' => r = W (rotR 6 a) ∧ H' = H :=
  ⟨_, _, ⟨rfl, rfl⟩, 6, fun m hm => by obtain ⟨k, rfl⟩ : ∃ k, m = k + 6 := ⟨m - 6, by omega⟩; exact r6 a H k⟩
theorem r7 (a : Nat) (H : AH) (k : Nat) : evF look (k + 6) (.call 562 [W a, .int .i64 7] H) = some (out1 (W (rotR 7 a)) H) := by kernel_rfl
theorem rot7 (a : Nat) (H : AH) : FnE look 562 [W a, .int .i64 7] H fun r H' => r = W (rotR 7 a) ∧ H' = H :=
  ⟨_, _, ⟨rfl, rfl⟩, 6, fun m hm => by obtain ⟨k, rfl⟩ : ∃ k, m = k + 6 := ⟨m - 6, by omega⟩; exact r7 a H k⟩
theorem r11 (a : Nat) (H : AH) (k : Nat) : evF look (k + 6) (.call 562 [W a, .int .i64 11] H) = some (out1 (W (rotR 11 a)) H) := by kernel_rfl
theorem rot11 (a : Nat) (H : AH) : FnE look 562 [W a, .int .i64 11] H fun r H' => r = W (rotR 11 a) ∧ H' = H :=
  ⟨_, _, ⟨rfl, rfl⟩, 6, fun m hm => by obtain ⟨k, rfl⟩ : ∃ k, m = k + 6 := ⟨m - 6, by omega⟩; exact r11 a H k⟩
theorem r13 (a : Nat) (H : AH) (k : Nat) : evF look (k + 6) (.call 562 [W a, .int .i64 13] H) = some (out1 (W (rotR 13 a)) H) := by kernel_rfl
theorem rot13 (a : Nat) (H : AH) : FnE look 562 [W a, .int .i64 13] H fun r H' => r = W (rotR 13 a) ∧ H' = H :=
  ⟨_, _, ⟨rfl, rfl⟩, 6, fun m hm => by obtain ⟨k, rfl⟩ : ∃ k, m = k + 6 := ⟨m - 6, by omega⟩; exact r13 a H k⟩
theorem r17 (a : Nat) (H : AH) (k : Nat) : evF look (k + 6) (.call 562 [W a, .int .i64 17] H) = some (out1 (W (rotR 17 a)) H) := by kernel_rfl
theorem rot17 (a : Nat) (H : AH) : FnE look 562 [W a, .int .i64 17] H fun r H' => r = W (rotR 17 a) ∧ H' = H :=
  ⟨_, _, ⟨rfl, rfl⟩, 6, fun m hm => by obtain ⟨k, rfl⟩ : ∃ k, m = k + 6 := ⟨m - 6, by omega⟩; exact r17 a H k⟩
theorem r18 (a : Nat) (H : AH) (k : Nat) : evF look (k + 6) (.call 562 [W a, .int .i64 18] H) = some (out1 (W (rotR 18 a)) H) := by kernel_rfl
theorem rot18 (a : Nat) (H : AH) : FnE look 562 [W a, .int .i64 18] H fun r H' => r = W (rotR 18 a) ∧ H' = H :=
  ⟨_, _, ⟨rfl, rfl⟩, 6, fun m hm => by obtain ⟨k, rfl⟩ : ∃ k, m = k + 6 := ⟨m - 6, by omega⟩; exact r18 a H k⟩
theorem r19 (a : Nat) (H : AH) (k : Nat) : evF look (k + 6) (.call 562 [W a, .int .i64 19] H) = some (out1 (W (rotR 19 a)) H) := by kernel_rfl
theorem rot19 (a : Nat) (H : AH) : FnE look 562 [W a, .int .i64 19] H fun r H' => r = W (rotR 19 a) ∧ H' = H :=
  ⟨_, _, ⟨rfl, rfl⟩, 6, fun m hm => by obtain ⟨k, rfl⟩ : ∃ k, m = k + 6 := ⟨m - 6, by omega⟩; exact r19 a H k⟩
theorem r22 (a : Nat) (H : AH) (k : Nat) : evF look (k + 6) (.call 562 [W a, .int .i64 22] H) = some (out1 (W (rotR 22 a)) H) := by kernel_rfl
theorem rot22 (a : Nat) (H : AH) : FnE look 562 [W a, .int .i64 22] H fun r H' => r = W (rotR 22 a) ∧ H' = H :=
  ⟨_, _, ⟨rfl, rfl⟩, 6, fun m hm => by obtain ⟨k, rfl⟩ : ∃ k, m = k + 6 := ⟨m - 6, by omega⟩; exact r22 a H k⟩
theorem r25 (a : Nat) (H : AH) (k : Nat) : evF look (k + 6) (.call 562 [W a, .int .i64 25] H) = some (out1 (W (rotR 25 a)) H) := by kernel_rfl
theorem rot25 (a : Nat) (H : AH) : FnE look 562 [W a, .int .i64 25] H fun r H' => r = W (rotR 25 a) ∧ H' = H :=
  ⟨_, _, ⟨rfl, rfl⟩, 6, fun m hm => by obtain ⟨k, rfl⟩ : ∃ k, m = k + 6 := ⟨m - 6, by omega⟩; exact r25 a H k⟩
variable (s : AV → AV → Option AV)
theorem w_add (a b : Nat) : binF .add s (W a) (W b) = some (W (M32 (Nat.add a b))) := rfl
theorem w_and (a b : Nat) : binF .and s (W a) (W b) = some (W (M32 (Nat.land (M32 a) (M32 b)))) := rfl
theorem w_or (a b : Nat) : binF .or s (W a) (W b) = some (W (M32 (Nat.lor (M32 a) (M32 b)))) := rfl
theorem w_xor (a b : Nat) : binF .xor s (W a) (W b) = some (W (M32 (Nat.xor (M32 a) (M32 b)))) := rfl
theorem w_shl (a n : Nat) (h : minN n 32 = n) : binF .shl s (W a) (.int .u64 (Int.ofNat n)) = some (W (M32 (Nat.mul a (Nat.pow 2 n)))) := by
  show some (AV.int .u32 (.ofNat (Nat.mod (Nat.mul a (Nat.pow 2 (minN n 32))) 4294967296))) = _
  rw [h]; rfl
theorem w_shr (a n : Nat) (h : minN n 32 = n) : binF .shr s (W a) (.int .u64 (Int.ofNat n)) = some (W (Nat.div a (Nat.pow 2 n))) := by
  show some (AV.int .u32 (.ofNat (Nat.div a (Nat.pow 2 (minN n 32))))) = _
  rw [h]
theorem w_b (b : Nat) : cvI .u32 (.int .u8 (Int.ofNat b)) = some (W (M32 b)) := rfl
def not32 (a : Nat) : Nat := M32 (Nat.xor 4294967295 (M32 a))
theorem w_not (a : Nat) : evUn .xor (W a) = some (W (not32 a)) := by
  have h := zmx .u32 4294967295 (Int.ofNat a)
  show evInt .xor .u32 (if IntKind.u32.signed then -1 else IntKind.u32.max) (Int.ofNat a) = _
  rw [show (if IntKind.u32.signed then -1 else IntKind.u32.max) = (4294967295 : Int) from by decide, ← h]
  rfl
end HS.Hs
namespace HS.Hs
open Go.Ev
open Ra Rb Rc Rd Re Rf Rg Rh Ri Rj Rk Rl Rm Rn Ro Rp Rq Rr
set_option maxRecDepth 100000
theorem z380 : look.size 519 = some 1 := by kernel_rfl
theorem u35 : look.under 28 = some (.slice 5) := by kernel_rfl
theorem z5 : look.size 5 = some 1 := by kernel_rfl
theorem ix16 {wi j : Nat} {n : Int} (h : j < 16) (hn : n = (j : Int)) : ixA 16 1 (.ptr wi 0) (.int .i64 n) = some (.ptr wi j) := by
  subst hn
  show brec none (some (AV.ptr wi (0 + j * 1))) (Nat.blt j 16) = _
  rw [show Nat.blt j 16 = true from by rw [Nat.blt_eq]; exact h]
  show some (AV.ptr wi (0 + j * 1)) = _
  rw [Nat.zero_add, Nat.mul_one]
theorem ix4 {i o n c j : Nat} {op : Bool} (h : j < n) : ixS 1 (.sl i o n c op) (.int .i64 (Int.ofNat j)) = some (.ptr i (o + j)) := by
  show brec none (some (AV.ptr i (o + j * 1))) (Nat.blt j n) = _
  rw [show Nat.blt j n = true from by rw [Nat.blt_eq]; exact h]
  show some (AV.ptr i (o + j * 1)) = _
  rw [Nat.mul_one]
theorem sl_lhm {L : Lk} {t e z : Nat} {i o n c : Nat} {op : Bool} {k k' k'' : IntKind} {l a b : Nat} (ht : L.under t = some (.slice e)) (hz : L.size e = some z) (h0 : l ≤ a) (h1 : a ≤ b) (h2 : b ≤ c) (hb : Nat.beq b l = false) :
    zkk L t true true true [.sl i o n c op, .int k (l : Int), .int k' (a : Int), .int k'' (b : Int)] = some (.sl i (o + l * z) (a - l) (b - l) false) := by
  show zmg L t (.sl i o n c op) (some (.int k l)) (some (.int k' a)) (some (.int k'' b)) = _
  unfold zmg
  rw [ht]
  show (match L.size e with | none => none | some z => (match some a with
        | none => none
        | some h => (match (some b : Option Nat) with
            | none => none
            | some m => match Nat.ble l h && Nat.ble h m && Nat.ble m c with
              | true => some (AV.sl i (offOf m l o z) (h - l) (m - l) false)
              | false => none))) = _
  rw [hz]
  simp only
  rw [show Nat.ble l a = true from Nat.ble_eq_true_of_le h0, show Nat.ble a b = true from Nat.ble_eq_true_of_le (by omega), show Nat.ble b c = true from Nat.ble_eq_true_of_le (by omega)]
  simp only [Bool.and_self]
  have : offOf b l o z = o + l * z := by unfold offOf; rw [hb]
  rw [this]
def wl (ws : Nat → Nat) : List AV := (List.range 16).map fun j => W (ws j)
def upd (ws : Nat → Nat) (k v : Nat) : Nat → Nat := fun j => if j = k then v else ws j
theorem zrp (ws : Nat → Nat) {j : Nat} (h : j < 16) : (wl ws)[j]? = some (W (ws j)) := by
  unfold wl; rw [List.getElem?_map, List.getElem?_range h]; rfl
theorem zje1 (ws : Nat → Nat) : (wl ws).length = 16 := by simp [wl]
theorem zke1 (ws : Nat → Nat) {k v : Nat} (h : k < 16) : (wl ws).set k (W v) = wl (upd ws k v) := by
  refine List.ext_getElem? fun j => ?_
  rw [List.getElem?_set]
  unfold wl upd
  by_cases hj : j < 16
  · rw [List.getElem?_map, List.getElem?_map, List.getElem?_range hj]
    by_cases hk : k = j
    · subst hk; simp [h]
    · rw [if_neg hk]; simp [Ne.symm hk]
  · rw [List.getElem?_eq_none (by simp; omega)]
    by_cases hk : k = j
    · omega
    · rw [if_neg hk, List.getElem?_eq_none (by simp; omega)]
def be (bs : Nat → Nat) (i : Nat) : Nat :=
  M32 (Nat.lor (M32 (M32 (Nat.lor (M32 (M32 (Nat.lor (M32 (M32 (Nat.mul (M32 (bs (4 * i))) (Nat.pow 2 24)))) (M32 (M32 (Nat.mul (M32 (bs (4 * i + 1))) (Nat.pow 2 16))))))) (M32 (M32 (Nat.mul (M32 (bs (4 * i + 2))) (Nat.pow 2 8))))))) (M32 (M32 (bs (4 * i + 3)))))
theorem shl24 (s : AV → AV → Option AV) (a : Nat) : binF .shl s (W a) (.int .u64 24) = some (W (M32 (Nat.mul a (Nat.pow 2 24)))) := w_shl s a 24 rfl
theorem shl16 (s : AV → AV → Option AV) (a : Nat) : binF .shl s (W a) (.int .u64 16) = some (W (M32 (Nat.mul a (Nat.pow 2 16)))) := w_shl s a 16 rfl
theorem shl8 (s : AV → AV → Option AV) (a : Nat) : binF .shl s (W a) (.int .u64 8) = some (W (M32 (Nat.mul a (Nat.pow 2 8)))) := w_shl s a 8 rfl
theorem word_lo {H : AH} {wi e z : Nat} {ws bs : Nat → Nat} {i pi po pc pn : Nat} {pop : Bool} (hi : i < 16) (hw : Row H wi false false e z (wl ws)) (hh : H.hide = []) (hlo : H.lo ≤ wi) (hpc : 64 ≤ pc)
    (hb : ∀ j, j < 64 → ld1 (.ptr pi (po + j)) H = some (.int .u8 (Int.ofNat (bs j)))) :
    FnE look 563 [.ptr wi 0, .int .i64 (i : Int), .sl pi po pn pc pop] H fun r H' => r = W (be bs i) ∧ Row H' wi false false e z (wl (upd ws i (be bs i))) ∧ HP (· ≠ wi) H H' ∧ H'.next = H.next := by
  refine zzb zpg1 noext rfl ?_
  unfold f563c
  have hrem : (i : Int).tmod 16 = (i : Int) := by rw [Int.tmod_eq_emod_of_nonneg (by omega)]; omega
  have hix := ix16 (wi := wi) hi rfl
  have hsl := sl_lhm (L := look) (t := 28) (i := pi) (o := po) (n := pn) (c := pc) (op := pop) (k := .i64) (k' := .i64) (k'' := .i64) (l := 4 * i) (a := 4 * i + 4) (b := 4 * i + 4) u35 z5 (by omega) (by omega) (by omega) (beq_f (by omega))
  rw [show 4 * i + 4 - 4 * i = 4 from by omega, Nat.mul_one] at hsl
  rw [show ((4 * i : Nat) : Int) = 4 * (i : Int) from by omega, show ((4 * i + 4 : Nat) : Int) = 4 * (i : Int) + 4 from by omega] at hsl
  have b0 : ixS 1 (.sl pi (po + 4 * i) 4 4 false) (.int .i64 0) = some (.ptr pi (po + (4 * i + 0))) := by rw [← Nat.add_assoc]; exact ix4 (j := 0) (by omega)
  have b1 : ixS 1 (.sl pi (po + 4 * i) 4 4 false) (.int .i64 1) = some (.ptr pi (po + (4 * i + 1))) := by rw [← Nat.add_assoc]; exact ix4 (j := 1) (by omega)
  have b2 : ixS 1 (.sl pi (po + 4 * i) 4 4 false) (.int .i64 2) = some (.ptr pi (po + (4 * i + 2))) := by rw [← Nat.add_assoc]; exact ix4 (j := 2) (by omega)
  have b3 : ixS 1 (.sl pi (po + 4 * i) 4 4 false) (.int .i64 3) = some (.ptr pi (po + (4 * i + 3))) := by rw [← Nat.add_assoc]; exact ix4 (j := 3) (by omega)
  have l0 := hb (4 * i) (by omega)
  have l1 := hb (4 * i + 1) (by omega)
  have l2 := hb (4 * i + 2) (by omega)
  have l3 := hb (4 * i + 3) (by omega)
  have hi16 : (i : Int) < 16 := by omega
  (repeat' (first | refine Z ?_ | refine Zq ?_ | refine zaa (by decide) ?_ | ((first | refine' Y ?_ ?_ | refine' X ?_ ?_ ?_); rotate_left; (· (first | (simp (disch := omega) only [evl, Nat.reduceEqDiff, Nat.reduceAdd, reduceIte, reduceCtorEq, hrem, hix, hsl, b0, b1, b2, b3, l0, l1, l2, l3, shl24, shl16, shl8, w_b, w_or] <;> exact rfl) | exact rfl)); all_goals try (refine fun (hb : _ = _) => ?_; try simp only [Zu, ne_eq, reduceCtorEq] at hb)) | (apply zba; · simp [evl])))
  obtain ⟨H1, hs1, hr1, hp1, hn1⟩ := hw.st1 (L := look) (t := 519) (v := W (be bs i)) (k := i) hh hlo z380 rfl (by rw [zje1]; exact hi)
  rw [zke1 ws hi] at hr1
  have hrd := hr1.rd (zrp (upd ws i (be bs i)) hi)
  rw [show upd ws i (be bs i) i = be bs i from by simp [upd]] at hrd
  apply rk_st
  · (simp (disch := omega) only [evl, Nat.reduceEqDiff, Nat.reduceAdd, reduceIte, reduceCtorEq])
    exact hs1
  simp only [zpa]
  (repeat' (first | refine Z ?_ | refine Zq ?_ | refine zaa (by decide) ?_ | ((first | refine' Y ?_ ?_ | refine' X ?_ ?_ ?_); rotate_left; (· (first | (simp (disch := omega) only [evl, Nat.reduceEqDiff, Nat.reduceAdd, reduceIte, reduceCtorEq, hrd] <;> exact rfl) | exact rfl)); all_goals try (refine fun (hb : _ = _) => ?_; try simp only [Zu, ne_eq, reduceCtorEq] at hb)) | (apply zba; · simp [evl])))
  refine zma ?_
  refine zqc (zjc _ _) ⟨(by (first | (simp (disch := omega) only [evl, Nat.reduceEqDiff, Nat.reduceAdd, reduceIte, reduceCtorEq] <;> exact rfl) | exact rfl)), hr1, hp1, hn1⟩
theorem zqd (T : Tr AV) : ptrsO (some []) T = some [] := rfl
theorem zka {T : Tr AV} {k i o : Nat} {ks : List S2} {js : List Nat} (h : (tO k).ev T = .ptr i o) (hs : ptrsO (some ks) T = some js) : ptrsO (some (sOf k :: ks)) T = some (i :: js) := by
  have hg : (sOf k).get T = some (.ptr i o) := by
    rw [ev_tO] at h
    rw [zql]
    unfold gT at h
    cases hT : T.get k with
    | none => rw [hT] at h; cases h
    | some v => rw [hT] at h; exact congrArg some h
  show (match (sOf k).get T with | some (.ptr i _) => (match ptrsO (some ks) T with | some js => some (i :: js) | none => none) | _ => none) = _
  rw [hg, hs]
theorem zal {n : Int} {m : Nat} (hrot : ∀ a H, FnE look 562 [W a, .int .i64 n] H fun r H' => r = W (rotR m a) ∧ H' = H) {rd : Option (List S2)} {js : List Nat} {x : O2} {a : Nat} {s : List Kf} {T : Tr AV} {H : AH} {Q : PostC} {k : K2} {d : Option S2}
    (hx : x.ev T = W a) (hp : ptrsO rd T = some js) (hs : zkg H H js = true) (h : RK look k s (putS d (W (rotR m a)) T) H Q) : RK look (.cw rd 562 [x, .con (.int .i64 n)] d k) s T H Q := by
  refine rk_cw (R := fun r H' => r = W (rotR m a) ∧ H' = H) hp ?_ ?_
  · show FnE look 562 [x.ev T, .int .i64 n] H _
    rw [hx]
    exact hrot a H
  · rintro v H' ⟨rfl, rfl⟩
    exact ⟨hs, h⟩
theorem shr3 (s : AV → AV → Option AV) (a : Nat) : binF .shr s (W a) (.int .u64 3) = some (W (Nat.div a (Nat.pow 2 3))) := w_shr s a 3 rfl
theorem shr10 (s : AV → AV → Option AV) (a : Nat) : binF .shr s (W a) (.int .u64 10) = some (W (Nat.div a (Nat.pow 2 10))) := w_shr s a 10 rfl
def xor3 (a b c : Nat) : Nat := M32 (Nat.xor (M32 (M32 (Nat.xor (M32 a) (M32 b)))) (M32 c))
def sig0 (x : Nat) : Nat := xor3 (rotR 7 x) (rotR 18 x) (Nat.div x (Nat.pow 2 3))
def sig1 (x : Nat) : Nat := xor3 (rotR 17 x) (rotR 19 x) (Nat.div x (Nat.pow 2 10))
def nw (ws : Nat → Nat) (i : Nat) : Nat := M32 (Nat.add (M32 (Nat.add (M32 (Nat.add (ws (i % 16)) (sig0 (ws ((i - 15) % 16))))) (ws ((i - 7) % 16)))) (sig1 (ws ((i - 2) % 16))))
theorem zqg1 (ws : Nat → Nat) (k u v : Nat) : upd (upd ws k u) k v = upd ws k v := by funext j; unfold upd; split <;> rfl
theorem zkr (ws : Nat → Nat) (k v : Nat) : upd ws k v k = v := by simp [upd]
theorem upd_ne (ws : Nat → Nat) {k j : Nat} (v : Nat) (h : j ≠ k) : upd ws k v j = ws j := by simp [upd, h]
theorem word_hi {H : AH} {wi e z : Nat} {ws : Nat → Nat} {i : Nat} {p : AV} (hi : 16 ≤ i) (hi2 : i < 64) (hw : Row H wi false false e z (wl ws)) (hh : H.hide = []) (hlo : H.lo ≤ wi) :
    FnE look 563 [.ptr wi 0, .int .i64 (i : Int), p] H fun r H' => r = W (nw ws i) ∧ Row H' wi false false e z (wl (upd ws (i % 16) (nw ws i))) ∧ HP (· ≠ wi) H H' ∧ H'.next = H.next := by
  refine zzb zpg1 noext rfl ?_
  unfold f563c
  have m0 : i % 16 < 16 := Nat.mod_lt _ (by omega)
  have m15 : (i - 15) % 16 < 16 := Nat.mod_lt _ (by omega)
  have m7 : (i - 7) % 16 < 16 := Nat.mod_lt _ (by omega)
  have m2 : (i - 2) % 16 < 16 := Nat.mod_lt _ (by omega)
  have hix := ix16 (wi := wi) (n := (i : Int).tmod 16) m0 (by rw [Int.tmod_eq_emod_of_nonneg (by omega)]; omega)
  have hix15 := ix16 (wi := wi) (n := ((i : Int) - 15).tmod 16) m15 (by rw [Int.tmod_eq_emod_of_nonneg (by omega)]; omega)
  have hix7 := ix16 (wi := wi) (n := ((i : Int) - 7).tmod 16) m7 (by rw [Int.tmod_eq_emod_of_nonneg (by omega)]; omega)
  have hix2 := ix16 (wi := wi) (n := ((i : Int) - 2).tmod 16) m2 (by rw [Int.tmod_eq_emod_of_nonneg (by omega)]; omega)
  have hi16 : 16 ≤ (i : Int) := by omega
  have hi64 : (i : Int) < 64 := by omega
  have r0 := hw.rd (zrp ws m0)
  have r15 := hw.rd (zrp ws m15)
  have r2 := hw.rd (zrp ws m2)
  (repeat' (first | refine Z ?_ | refine Zq ?_ | refine zaa (by decide) ?_ | ((first | refine' Y ?_ ?_ | refine' X ?_ ?_ ?_); rotate_left; (· (first | (simp (disch := omega) only [evl, Nat.reduceEqDiff, Nat.reduceAdd, reduceIte, reduceCtorEq, hix, hix15, hix7, hix2, r0, r15, r2, shr3, w_xor, w_add] <;> exact rfl) | exact rfl)); all_goals try (refine fun (hb : _ = _) => ?_; try simp only [Zu, ne_eq, reduceCtorEq] at hb)) | (apply zba; · simp [evl])))
  refine zal rot7 (a := ws ((i - 15) % 16)) (by (simp (disch := omega) only [evl, Nat.reduceEqDiff, Nat.reduceAdd, reduceIte, reduceCtorEq])) (zka (i := wi) (o := i % 16) (by (simp (disch := omega) only [evl, Nat.reduceEqDiff, Nat.reduceAdd, reduceIte, reduceCtorEq])) (zqd _)) (zsa hw rfl (zbd _ _)) ?_
  refine zal rot18 (a := ws ((i - 15) % 16)) (by (simp (disch := omega) only [evl, Nat.reduceEqDiff, Nat.reduceAdd, reduceIte, reduceCtorEq])) (zka (i := wi) (o := i % 16) (by (simp (disch := omega) only [evl, Nat.reduceEqDiff, Nat.reduceAdd, reduceIte, reduceCtorEq])) (zqd _)) (zsa hw rfl (zbd _ _)) ?_
  (repeat' (first | refine Z ?_ | refine Zq ?_ | refine zaa (by decide) ?_ | ((first | refine' Y ?_ ?_ | refine' X ?_ ?_ ?_); rotate_left; (· (first | (simp (disch := omega) only [evl, Nat.reduceEqDiff, Nat.reduceAdd, reduceIte, reduceCtorEq, hix, hix15, hix7, hix2, r0, r15, r2, shr3, w_xor, w_add] <;> exact rfl) | exact rfl)); all_goals try (refine fun (hb : _ = _) => ?_; try simp only [Zu, ne_eq, reduceCtorEq] at hb)) | (apply zba; · simp [evl])))
  have k7 : (i - 7) % 16 ≠ i % 16 := by omega
  have k2 : (i - 2) % 16 ≠ i % 16 := by omega
  let h1 := M32 (Nat.add (ws (i % 16)) (sig0 (ws ((i - 15) % 16))))
  let h2 := M32 (Nat.add h1 (ws ((i - 7) % 16)))
  let h3 := M32 (Nat.add h2 (sig1 (ws ((i - 2) % 16))))
  obtain ⟨H1, hs1, hr1, hp1, hn1⟩ := hw.st1 (L := look) (t := 519) (v := W h1) (k := i % 16) hh hlo z380 rfl (by rw [zje1]; exact m0)
  rw [zke1 ws m0] at hr1
  have e0 := hr1.rd (zrp (upd ws (i % 16) h1) m0)
  rw [zkr] at e0
  have e7 := hr1.rd (zrp (upd ws (i % 16) h1) m7)
  rw [upd_ne ws h1 k7] at e7
  apply rk_st
  · (simp (disch := omega) only [evl, Nat.reduceEqDiff, Nat.reduceAdd, reduceIte, reduceCtorEq])
    exact hs1
  simp only [zpa]
  (repeat' (first | refine Z ?_ | refine Zq ?_ | refine zaa (by decide) ?_ | ((first | refine' Y ?_ ?_ | refine' X ?_ ?_ ?_); rotate_left; (· (first | (simp (disch := omega) only [evl, Nat.reduceEqDiff, Nat.reduceAdd, reduceIte, reduceCtorEq, hix, hix15, hix7, hix2, e0, e7, w_xor, w_add] <;> exact rfl) | exact rfl)); all_goals try (refine fun (hb : _ = _) => ?_; try simp only [Zu, ne_eq, reduceCtorEq] at hb)) | (apply zba; · simp [evl])))
  obtain ⟨H2, hs2, hr2, hp2, hn2⟩ := hr1.st1 (L := look) (t := 519) (v := W h2) (k := i % 16) (hp1.hide.trans hh) (by rw [hp1.lo]; exact hlo) z380 rfl (by rw [zje1]; exact m0)
  rw [zke1 _ m0, zqg1] at hr2
  have f0 := hr2.rd (zrp (upd ws (i % 16) h2) m0)
  rw [zkr] at f0
  apply rk_st
  · (simp (disch := omega) only [evl, Nat.reduceEqDiff, Nat.reduceAdd, reduceIte, reduceCtorEq])
    exact hs2
  simp only [zpa]
  (repeat' (first | refine Z ?_ | refine Zq ?_ | refine zaa (by decide) ?_ | ((first | refine' Y ?_ ?_ | refine' X ?_ ?_ ?_); rotate_left; (· (first | (simp (disch := omega) only [evl, Nat.reduceEqDiff, Nat.reduceAdd, reduceIte, reduceCtorEq, hix, hix15, hix7, hix2, f0, shr10, w_xor, w_add] <;> exact rfl) | exact rfl)); all_goals try (refine fun (hb : _ = _) => ?_; try simp only [Zu, ne_eq, reduceCtorEq] at hb)) | (apply zba; · simp [evl])))
  refine zal rot17 (a := ws ((i - 2) % 16)) (by (simp (disch := omega) only [evl, Nat.reduceEqDiff, Nat.reduceAdd, reduceIte, reduceCtorEq])) (zka (i := wi) (o := i % 16) (by (simp (disch := omega) only [evl, Nat.reduceEqDiff, Nat.reduceAdd, reduceIte, reduceCtorEq])) (zqd _)) (zsa hr2 rfl (zbd _ _)) ?_
  refine zal rot19 (a := ws ((i - 2) % 16)) (by (simp (disch := omega) only [evl, Nat.reduceEqDiff, Nat.reduceAdd, reduceIte, reduceCtorEq])) (zka (i := wi) (o := i % 16) (by (simp (disch := omega) only [evl, Nat.reduceEqDiff, Nat.reduceAdd, reduceIte, reduceCtorEq])) (zqd _)) (zsa hr2 rfl (zbd _ _)) ?_
  (repeat' (first | refine Z ?_ | refine Zq ?_ | refine zaa (by decide) ?_ | ((first | refine' Y ?_ ?_ | refine' X ?_ ?_ ?_); rotate_left; (· (first | (simp (disch := omega) only [evl, Nat.reduceEqDiff, Nat.reduceAdd, reduceIte, reduceCtorEq, hix, hix15, hix7, hix2, f0, shr10, w_xor, w_add] <;> exact rfl) | exact rfl)); all_goals try (refine fun (hb : _ = _) => ?_; try simp only [Zu, ne_eq, reduceCtorEq] at hb)) | (apply zba; · simp [evl])))
  obtain ⟨H3, hs3, hr3, hp3, hn3⟩ := hr2.st1 (L := look) (t := 519) (v := W h3) (k := i % 16) (hp2.hide.trans (hp1.hide.trans hh)) (by rw [hp2.lo, hp1.lo]; exact hlo) z380 rfl (by rw [zje1]; exact m0)
  rw [zke1 _ m0, zqg1] at hr3
  have g0 := hr3.rd (zrp (upd ws (i % 16) h3) m0)
  rw [zkr] at g0
  apply rk_st
  · (simp (disch := omega) only [evl, Nat.reduceEqDiff, Nat.reduceAdd, reduceIte, reduceCtorEq])
    exact hs3
  simp only [zpa]
  (repeat' (first | refine Z ?_ | refine Zq ?_ | refine zaa (by decide) ?_ | ((first | refine' Y ?_ ?_ | refine' X ?_ ?_ ?_); rotate_left; (· (first | (simp (disch := omega) only [evl, Nat.reduceEqDiff, Nat.reduceAdd, reduceIte, reduceCtorEq, g0] <;> exact rfl) | exact rfl)); all_goals try (refine fun (hb : _ = _) => ?_; try simp only [Zu, ne_eq, reduceCtorEq] at hb)) | (apply zba; · simp [evl])))
  refine zma ?_
  refine zqc (zjc _ _) ⟨(by (first | (simp (disch := omega) only [evl, Nat.reduceEqDiff, Nat.reduceAdd, reduceIte, reduceCtorEq] <;> exact rfl) | exact rfl)), hr3, (hp1.trans hp2 (r := (· ≠ wi)) fun _ _ h => ⟨h, h⟩).trans hp3 fun _ _ h => ⟨h, h⟩, by rw [hn3, hn2, hn1]⟩
def kN : List Nat := [1116352408, 1899447441, 3049323471, 3921009573, 961987163, 1508970993, 2453635748, 2870763221, 3624381080, 310598401, 607225278, 1426881987, 1925078388, 2162078206, 2614888103, 3248222580, 3835390401, 4022224774, 264347078, 604807628, 770255983, 1249150122, 1555081692, 1996064986, 2554220882, 2821834349, 2952996808, 3210313671, 3336571891, 3584528711, 113926993, 338241895, 666307205, 773529912, 1294757372, 1396182291, 1695183700, 1986661051, 2177026350, 2456956037, 2730485921, 2820302411, 3259730800, 3345764771, 3516065817, 3600352804, 4094571909, 275423344, 430227734, 506948616, 659060556, 883997877, 958139571, 1322822218, 1537002063, 1747873779, 1955562222, 2024104815, 2227730452, 2361852424, 2428436474, 2756734187, 3204031479, 3329325298]
def kl : List AV := kN.map W
theorem a438 : look.isAgg 629 = some true := by kernel_rfl
theorem z438 : look.size 629 = some 64 := by kernel_rfl
theorem resC {L : Lk} {H : AH} {a t s i e z : Nat} {ro op : Bool} {l : List AV} (ha : L.isAgg t = some true) (hs : L.size t = some s) (hr : Row H i ro op e z l) (hl : l.length = s) : ∃ c : Ce, c.l = l ∧ ∀ T : Tr AV, gT T a = .ptr i 0 → resV L [.cell a t] T H = some c.toV := by
  obtain ⟨c, h1, h2⟩ := hr.rdN (o := 0) (s := s) (by omega)
  refine ⟨c, by rw [h2, List.drop_zero, List.take_of_length_le (by omega)], fun T hT => ?_⟩
  have hg : T.get a = some (.ptr i 0) := by
    unfold gT at hT
    cases hg : T.get a with
    | none => rw [hg] at hT; cases hT
    | some v => rw [hg] at hT; exact congrArg some hT
  have hld : zyd L t (.ptr i 0) H = some c.toV := by
    unfold zyd
    simp only [ha, hs]
    have h3 : orec none (fun c => some (ceV c)) (subCF H i 0 s) = some c.toV := h1
    rw [zli] at h3
    cases hc : H.subC i 0 s with
    | none => rw [hc] at h3; cases h3
    | some c' => rw [hc] at h3; exact (show some (ceV c') = some c'.toV from by rw [zbj1]).symm.trans h3
  show (match (obind (match T.get a with | some v => zyd L t v H | none => none) fun b => obind (some []) fun bs => some (b :: bs)) with
    | some vs => (match vs with | [v] => some v | vs => some (.tup vs))
    | none => none) = _
  rw [hg]
  simp only [hld]
  rfl
theorem zwy {H : AH} (hh : H.hide = []) (hlo : H.lo ≤ H.next) : FnE look 561 [] H fun r H' => (∃ c : Ce, r = c.toV ∧ c.l = kl) ∧ HX H H' ∧ H'.next = H.next + 1 := by
  refine zzb f561_eq noext rfl ?_
  unfold f561c
  obtain ⟨H1, hal, hx1, hn1, hr1⟩ := zmi (e := 629) (s := 64) (c := AV.toC (.agg (List.replicate 64 (.int .u32 0)))) hh
  rw [toC_l] at hr1
  have hh1 : H1.hide = [] := hx1.hide.trans hh
  obtain ⟨H2, hs2, hr2, hp2, hn2⟩ := Row.stN (L := look) (t := 629) (v := .agg kl) (s := 64) (k := 0) hr1 hh1 (by rw [hx1.lo]; exact hlo) rfl (by rfl) (by decide)
  obtain ⟨c, hc, hres⟩ := resC (a := 0) (t := 629) a438 z438 hr2 (by rfl)
  (repeat' (first | refine Z ?_ | refine Zq ?_ | refine zaa (by decide) ?_ | ((first | refine' Y ?_ ?_ | refine' X ?_ ?_ ?_); rotate_left; (· (first | (simp (disch := omega) only [evl, Nat.reduceEqDiff, Nat.reduceAdd, reduceIte, reduceCtorEq] <;> exact rfl) | exact rfl)); all_goals try (refine fun (hb : _ = _) => ?_; try simp only [Zu, ne_eq, reduceCtorEq] at hb)) | (apply zba; · simp [evl])))
  unfold f561r0
  refine rk_al hal ?_
  simp only [zpa]
  (repeat' (first | refine Z ?_ | refine Zq ?_ | refine zaa (by decide) ?_ | ((first | refine' Y ?_ ?_ | refine' X ?_ ?_ ?_); rotate_left; (· (first | (simp (disch := omega) only [evl, Nat.reduceEqDiff, Nat.reduceAdd, reduceIte, reduceCtorEq] <;> exact rfl) | exact rfl)); all_goals try (refine fun (hb : _ = _) => ?_; try simp only [Zu, ne_eq, reduceCtorEq] at hb)) | (apply zba; · simp [evl])))
  apply rk_st
  · (simp (disch := omega) only [evl, Nat.reduceEqDiff, Nat.reduceAdd, reduceIte, reduceCtorEq])
    exact hs2
  simp only [zpa]
  (repeat' (first | refine Z ?_ | refine Zq ?_ | refine zaa (by decide) ?_ | ((first | refine' Y ?_ ?_ | refine' X ?_ ?_ ?_); rotate_left; (· (first | (simp (disch := omega) only [evl, Nat.reduceEqDiff, Nat.reduceAdd, reduceIte, reduceCtorEq] <;> exact rfl) | exact rfl)); all_goals try (refine fun (hb : _ = _) => ?_; try simp only [Zu, ne_eq, reduceCtorEq] at hb)) | (apply zba; · simp [evl])))
  refine zma ?_
  refine zqc (hres _ (by (first | (simp (disch := omega) only [evl, Nat.reduceEqDiff, Nat.reduceAdd, reduceIte, reduceCtorEq] <;> exact rfl) | exact rfl))) ⟨⟨c, rfl, hc⟩, (hx1.hp fun _ => True).trans hp2 (r := fun _ => True) (fun j hj _ => ⟨trivial, by omega⟩) |>.hx fun _ _ => trivial, by rw [hn2, hn1]⟩
def sl8 (s : Nat → Nat) : List AV := (List.range 8).map fun j => W (s j)
theorem zod (s : Nat → Nat) {j : Nat} (h : j < 8) : (sl8 s)[j]? = some (W (s j)) := by
  unfold sl8; rw [List.getElem?_map, List.getElem?_range h]; rfl
theorem zwl (s : Nat → Nat) : (sl8 s).length = 8 := by simp [sl8]
theorem ix8 {i j : Nat} {n : Int} (h : j < 8) (hn : n = (j : Int)) : ixA 8 1 (.ptr i 0) (.int .i64 n) = some (.ptr i j) := by
  subst hn
  show brec none (some (AV.ptr i (0 + j * 1))) (Nat.blt j 8) = _
  rw [show Nat.blt j 8 = true from by rw [Nat.blt_eq]; exact h]
  show some (AV.ptr i (0 + j * 1)) = _
  rw [Nat.zero_add, Nat.mul_one]
theorem ix64 {i j : Nat} {n : Int} (h : j < 64) (hn : n = (j : Int)) : ixA 64 1 (.ptr i 0) (.int .i64 n) = some (.ptr i j) := by
  subst hn
  show brec none (some (AV.ptr i (0 + j * 1))) (Nat.blt j 64) = _
  rw [show Nat.blt j 64 = true from by rw [Nat.blt_eq]; exact h]
  show some (AV.ptr i (0 + j * 1)) = _
  rw [Nat.zero_add, Nat.mul_one]
def kN_at (i : Nat) : Nat := kN.getD i 0
theorem kl_get {i : Nat} (h : i < 64) : kl[i]? = some (W (kN_at i)) := by
  unfold kl kN_at
  rw [List.getElem?_map, List.getD_eq_getElem?_getD]
  have : i < kN.length := h
  rw [List.getElem?_eq_getElem this]
  rfl
def wd (ws bs : Nat → Nat) (i : Nat) : Nat := if i < 16 then be bs i else nw ws i
def chs (e f g : Nat) : Nat := M32 (Nat.xor (M32 (M32 (Nat.land (M32 e) (M32 f)))) (M32 (M32 (Nat.land (M32 (not32 e)) (M32 g)))))
def zik1 (a b : Nat) : Nat := M32 (Nat.land (M32 a) (M32 b))
def maj (a b c : Nat) : Nat := xor3 (zik1 a b) (zik1 a c) (zik1 b c)
def t1 (s : Nat → Nat) (k w : Nat) : Nat := M32 (Nat.add (M32 (Nat.add (M32 (Nat.add (M32 (Nat.add (s 7) (xor3 (rotR 6 (s 4)) (rotR 11 (s 4)) (rotR 25 (s 4))))) (chs (s 4) (s 5) (s 6)))) k)) w)
def t2 (s : Nat → Nat) : Nat := M32 (Nat.add (xor3 (rotR 2 (s 0)) (rotR 13 (s 0)) (rotR 22 (s 0))) (maj (s 0) (s 1) (s 2)))
def rnd (s : Nat → Nat) (t u : Nat) : Nat → Nat := fun j => if j = 0 then M32 (Nat.add t u) else if j = 4 then M32 (Nat.add (s 3) t) else s (j - 1)
theorem word_ok {H : AH} {wi e z : Nat} {ws bs : Nat → Nat} {i pi po pc pn : Nat} {pop : Bool} (hi : i < 64) (hw : Row H wi false false e z (wl ws)) (hh : H.hide = []) (hlo : H.lo ≤ wi) (hpc : 64 ≤ pc)
    (hb : ∀ j, j < 64 → ld1 (.ptr pi (po + j)) H = some (.int .u8 (Int.ofNat (bs j)))) :
    FnE look 563 [.ptr wi 0, .int .i64 (i : Int), .sl pi po pn pc pop] H fun r H' => r = W (wd ws bs i) ∧ Row H' wi false false e z (wl (upd ws (i % 16) (wd ws bs i))) ∧ HP (· ≠ wi) H H' ∧ H'.next = H.next := by
  by_cases h : i < 16
  · have e1 : wd ws bs i = be bs i := if_pos h
    rw [e1, Nat.mod_eq_of_lt h]
    exact word_lo h hw hh hlo hpc hb
  · have e1 : wd ws bs i = nw ws i := if_neg h
    rw [e1]
    exact word_hi (by omega) hi hw hh hlo
theorem b382 (a b c d e f g h : Nat) : zee look 521 (zipF [0, 1, 2, 3, 4, 5, 6, 7] [W a, W b, W c, W d, W e, W f, W g, W h]) = some (.agg [W a, W b, W c, W d, W e, W f, W g, W h]) := by kernel_rfl
theorem abs_T {P : Tr AV → Prop} {T : Tr AV} (F : Tr AV → Prop) (hF : F T) (h : ∀ T', F T' → P T') : P T := h T hF
theorem sl8_rnd (s : Nat → Nat) (t u : Nat) : sl8 (rnd s t u) = [W (M32 (Nat.add t u)), W (s 0), W (s 1), W (s 2), W (M32 (Nat.add (s 3) t)), W (s 4), W (s 5), W (s 6)] := rfl
theorem zlr (a b : Nat) : fw .u32 (Int.ofNat a + Int.ofNat b) = Int.ofNat (M32 (Nat.add a b)) := rfl
structure TA (T : Tr AV) (p : AV) (sI bI kI wI rI : Nat) (i : Nat) : Prop where
  t1 : gT T 1 = p
  t2 : gT T 2 = .ptr sI 0
  t4 : gT T 4 = .ptr rI 0
  t5 : gT T 5 = .ptr bI 0
  t6 : gT T 6 = .ptr kI 0
  t7 : gT T 7 = .ptr wI 0
  t16 : gT T 16 = .int .i64 (i : Int)
set_option maxHeartbeats 16000000 in
theorem zle1 {H : AH} {T : Tr AV} {pi po pn pc : Nat} {pop : Bool} {sI bI kI wI rI i : Nat} {s ws bs : Nat → Nat} (hi : i < 64) (hT : TA T (.sl pi po pn pc pop) sI bI kI wI rI i)
    (hs : Row H sI false false 521 8 (sl8 s)) (hk : Row H kI false false 629 64 kl) (hw : Row H wI false false 632 16 (wl ws)) (hby : ∀ j, j < 64 → ld1 (.ptr pi (po + j)) H = some (.int .u8 (Int.ofNat (bs j)))) (hpc : 64 ≤ pc)
    (hh : H.hide = []) (hloS : H.lo ≤ sI) (hloW : H.lo ≤ wI) (hws : wI ≠ sI) (hwk : wI ≠ kI) (hks : kI ≠ sI) (hkn : kI < H.next) (hsn : sI < H.next) (hwn : wI < H.next) :
    RC look zge1 [] T H fun ex T' H' => ex = .normal ∧ TA T' (.sl pi po pn pc pop) sI bI kI wI rI (i + 1) ∧ Row H' sI false false 521 8 (sl8 (rnd s (t1 s (kN_at i) (wd ws bs i)) (t2 s))) ∧ Row H' wI false false 632 16 (wl (upd ws (i % 16) (wd ws bs i))) ∧ HP (fun j => j ≠ sI ∧ j ≠ wI) H H' ∧ H'.next = H.next := by
  obtain ⟨e1, e2, e4, e5, e6, e7, e16⟩ := hT
  have hi64 : (i : Int) < 64 := by omega
  have x0 := ix8 (i := sI) (j := 0) (n := 0) (by decide) rfl
  have x1 := ix8 (i := sI) (j := 1) (n := 1) (by decide) rfl
  have x2 := ix8 (i := sI) (j := 2) (n := 2) (by decide) rfl
  have x3 := ix8 (i := sI) (j := 3) (n := 3) (by decide) rfl
  have x4 := ix8 (i := sI) (j := 4) (n := 4) (by decide) rfl
  have x5 := ix8 (i := sI) (j := 5) (n := 5) (by decide) rfl
  have x6 := ix8 (i := sI) (j := 6) (n := 6) (by decide) rfl
  have x7 := ix8 (i := sI) (j := 7) (n := 7) (by decide) rfl
  have xk := ix64 (i := kI) (j := i) (n := (i : Int)) hi rfl
  have r0 := hs.rd (zod s (j := 0) (by decide))
  have r1 := hs.rd (zod s (j := 1) (by decide))
  have r2 := hs.rd (zod s (j := 2) (by decide))
  have r3 := hs.rd (zod s (j := 3) (by decide))
  have r4 := hs.rd (zod s (j := 4) (by decide))
  have r5 := hs.rd (zod s (j := 5) (by decide))
  have r6 := hs.rd (zod s (j := 6) (by decide))
  have r7 := hs.rd (zod s (j := 7) (by decide))
  have rk := hk.rd (kl_get hi)
  unfold zge1
  (repeat' (first | refine Z ?_ | refine Zq ?_ | refine zaa (by decide) ?_ | ((first | refine' Y ?_ ?_ | refine' X ?_ ?_ ?_); rotate_left; (· (first | (simp (disch := omega) only [evl, Nat.reduceEqDiff, Nat.reduceAdd, reduceIte, reduceCtorEq, e1, e2, e6, e7, e16, hi64, x0, x4, r0, r4, x5, x6, x7, r5, r6, r7, xk, rk, w_and, w_not, w_xor] <;> exact rfl) | exact rfl)); all_goals try (refine fun (hb : _ = _) => ?_; try simp only [Zu, ne_eq, reduceCtorEq] at hb)) | (apply zba; · simp [evl])))
  have sm : ∀ H' : AH, zkg H H [kI, sI, sI, sI] = true := fun _ => zsa hk rfl (zsa hs rfl (zsa hs rfl (zsa hs rfl (zbd _ _))))
  refine zal rot6 (a := s 4) (by (simp (disch := omega) only [evl, Nat.reduceEqDiff, Nat.reduceAdd, reduceIte, reduceCtorEq, r4])) (zka (i := kI) (o := i) (by (simp (disch := omega) only [evl, Nat.reduceEqDiff, Nat.reduceAdd, reduceIte, reduceCtorEq, xk])) (zka (i := sI) (o := 6) (by (simp (disch := omega) only [evl, Nat.reduceEqDiff, Nat.reduceAdd, reduceIte, reduceCtorEq])) (zka (i := sI) (o := 5) (by (simp (disch := omega) only [evl, Nat.reduceEqDiff, Nat.reduceAdd, reduceIte, reduceCtorEq])) (zka (i := sI) (o := 7) (by (simp (disch := omega) only [evl, Nat.reduceEqDiff, Nat.reduceAdd, reduceIte, reduceCtorEq])) (zqd _))))) (sm H) ?_
  refine zal rot11 (a := s 4) (by (simp (disch := omega) only [evl, Nat.reduceEqDiff, Nat.reduceAdd, reduceIte, reduceCtorEq, r4])) (zka (i := kI) (o := i) (by (simp (disch := omega) only [evl, Nat.reduceEqDiff, Nat.reduceAdd, reduceIte, reduceCtorEq, xk])) (zka (i := sI) (o := 6) (by (simp (disch := omega) only [evl, Nat.reduceEqDiff, Nat.reduceAdd, reduceIte, reduceCtorEq])) (zka (i := sI) (o := 5) (by (simp (disch := omega) only [evl, Nat.reduceEqDiff, Nat.reduceAdd, reduceIte, reduceCtorEq])) (zka (i := sI) (o := 7) (by (simp (disch := omega) only [evl, Nat.reduceEqDiff, Nat.reduceAdd, reduceIte, reduceCtorEq])) (zqd _))))) (sm H) ?_
  (repeat' (first | refine Z ?_ | refine Zq ?_ | refine zaa (by decide) ?_ | ((first | refine' Y ?_ ?_ | refine' X ?_ ?_ ?_); rotate_left; (· (first | (simp (disch := omega) only [evl, Nat.reduceEqDiff, Nat.reduceAdd, reduceIte, reduceCtorEq, w_xor] <;> exact rfl) | exact rfl)); all_goals try (refine fun (hb : _ = _) => ?_; try simp only [Zu, ne_eq, reduceCtorEq] at hb)) | (apply zba; · simp [evl])))
  refine zal rot25 (a := s 4) (by (simp (disch := omega) only [evl, Nat.reduceEqDiff, Nat.reduceAdd, reduceIte, reduceCtorEq, r4])) (zka (i := kI) (o := i) (by (simp (disch := omega) only [evl, Nat.reduceEqDiff, Nat.reduceAdd, reduceIte, reduceCtorEq, xk])) (zka (i := sI) (o := 6) (by (simp (disch := omega) only [evl, Nat.reduceEqDiff, Nat.reduceAdd, reduceIte, reduceCtorEq])) (zka (i := sI) (o := 5) (by (simp (disch := omega) only [evl, Nat.reduceEqDiff, Nat.reduceAdd, reduceIte, reduceCtorEq])) (zka (i := sI) (o := 7) (by (simp (disch := omega) only [evl, Nat.reduceEqDiff, Nat.reduceAdd, reduceIte, reduceCtorEq])) (zqd _))))) (sm H) ?_
  (repeat' (first | refine Z ?_ | refine Zq ?_ | refine zaa (by decide) ?_ | ((first | refine' Y ?_ ?_ | refine' X ?_ ?_ ?_); rotate_left; (· (first | (simp (disch := omega) only [evl, Nat.reduceEqDiff, Nat.reduceAdd, reduceIte, reduceCtorEq, w_xor, w_add, zlr] <;> exact rfl) | exact rfl)); all_goals try (refine fun (hb : _ = _) => ?_; try simp only [Zu, ne_eq, reduceCtorEq] at hb)) | (apply zba; · simp [evl])))
  refine rk_cw (js := [kI, sI, sI, sI]) (R := fun r H' => r = W (wd ws bs i) ∧ Row H' wI false false 632 16 (wl (upd ws (i % 16) (wd ws bs i))) ∧ HP (· ≠ wI) H H' ∧ H'.next = H.next) ?_ ?_ ?_
  · exact zka (i := kI) (o := i) (by (simp (disch := omega) only [evl, Nat.reduceEqDiff, Nat.reduceAdd, reduceIte, reduceCtorEq, xk])) (zka (i := sI) (o := 6) (by (simp (disch := omega) only [evl, Nat.reduceEqDiff, Nat.reduceAdd, reduceIte, reduceCtorEq])) (zka (i := sI) (o := 5) (by (simp (disch := omega) only [evl, Nat.reduceEqDiff, Nat.reduceAdd, reduceIte, reduceCtorEq])) (zka (i := sI) (o := 7) (by (simp (disch := omega) only [evl, Nat.reduceEqDiff, Nat.reduceAdd, reduceIte, reduceCtorEq])) (zqd _))))
  · (simp (disch := omega) only [evl, Nat.reduceEqDiff, Nat.reduceAdd, reduceIte, reduceCtorEq, e7, e16, e1])
    exact word_ok hi hw hh hloW hpc hby
  rintro r H1 ⟨rfl, hw1, hp1, hn1⟩
  have hs1 := hs.hp hp1 hsn (fun h => hws h.symm)
  have hk1 := hk.hp hp1 hkn (fun h => hwk h.symm)
  refine ⟨zsa hk (hp1.get hkn (fun h => hwk h.symm)) (zsa hs (hp1.get hsn (fun h => hws h.symm)) (zsa hs (hp1.get hsn (fun h => hws h.symm)) (zsa hs (hp1.get hsn (fun h => hws h.symm)) (zbd _ _)))), ?_⟩
  have q0 := hs1.rd (zod s (j := 0) (by decide))
  have q1 := hs1.rd (zod s (j := 1) (by decide))
  have q2 := hs1.rd (zod s (j := 2) (by decide))
  have q3 := hs1.rd (zod s (j := 3) (by decide))
  have q4 := hs1.rd (zod s (j := 4) (by decide))
  have q5 := hs1.rd (zod s (j := 5) (by decide))
  have q6 := hs1.rd (zod s (j := 6) (by decide))
  refine rk_p2 (v := W (t1 s (kN_at i) (wd ws bs i))) ?_ ?_
  · (simp (disch := omega) only [evl, Nat.reduceEqDiff, Nat.reduceAdd, reduceIte, reduceCtorEq, w_add, zlr])
    rfl
  refine rk_mv ?_
  refine rk_done ?_
  refine abs_T (P := fun T => RN look _ .normal T H1 _) (fun T => TA T (.sl pi po pn pc pop) sI bI kI wI rI i ∧ gT T 9 = W (s 0) ∧ gT T 10 = W (s 4) ∧ gT T 11 = W (t1 s (kN_at i) (wd ws bs i))) ⟨⟨(by (first | (simp (disch := omega) only [evl, Nat.reduceEqDiff, Nat.reduceAdd, reduceIte, reduceCtorEq, e1] <;> exact rfl) | exact rfl)), (by (first | (simp (disch := omega) only [evl, Nat.reduceEqDiff, Nat.reduceAdd, reduceIte, reduceCtorEq, e2] <;> exact rfl) | exact rfl)), (by (first | (simp (disch := omega) only [evl, Nat.reduceEqDiff, Nat.reduceAdd, reduceIte, reduceCtorEq, e4] <;> exact rfl) | exact rfl)), (by (first | (simp (disch := omega) only [evl, Nat.reduceEqDiff, Nat.reduceAdd, reduceIte, reduceCtorEq, e5] <;> exact rfl) | exact rfl)), (by (first | (simp (disch := omega) only [evl, Nat.reduceEqDiff, Nat.reduceAdd, reduceIte, reduceCtorEq, e6] <;> exact rfl) | exact rfl)), (by (first | (simp (disch := omega) only [evl, Nat.reduceEqDiff, Nat.reduceAdd, reduceIte, reduceCtorEq, e7] <;> exact rfl) | exact rfl)), (by (first | (simp (disch := omega) only [evl, Nat.reduceEqDiff, Nat.reduceAdd, reduceIte, reduceCtorEq, e16] <;> exact rfl) | exact rfl))⟩, (by (first | (simp (disch := omega) only [evl, Nat.reduceEqDiff, Nat.reduceAdd, reduceIte, reduceCtorEq, r0] <;> exact rfl) | exact rfl)), (by (first | (simp (disch := omega) only [evl, Nat.reduceEqDiff, Nat.reduceAdd, reduceIte, reduceCtorEq, r4] <;> exact rfl) | exact rfl)), (by (first | (simp (disch := omega) only [evl, Nat.reduceEqDiff, Nat.reduceAdd, reduceIte, reduceCtorEq] <;> exact rfl) | exact rfl))⟩ ?_
  rintro T2 ⟨⟨f1, f2, f4, f5, f6, f7, f16⟩, f9, f10, f11⟩
  have sm2 : zkg H1 H1 [sI, sI, sI, sI] = true := zsa hs1 rfl (zsa hs1 rfl (zsa hs1 rfl (zsa hs1 rfl (zbd _ _))))
  generalize t1 s (kN_at i) (wd ws bs i) = tv at *
  (repeat' (first | refine Z ?_ | refine Zq ?_ | refine zaa (by decide) ?_ | ((first | refine' Y ?_ ?_ | refine' X ?_ ?_ ?_); rotate_left; (· (first | (simp (disch := omega) only [evl, Nat.reduceEqDiff, Nat.reduceAdd, reduceIte, reduceCtorEq, f9, f2, x1, x2, q1, q2, w_and, w_xor] <;> exact rfl) | exact rfl)); all_goals try (refine fun (hb : _ = _) => ?_; try simp only [Zu, ne_eq, reduceCtorEq] at hb)) | (apply zba; · simp [evl])))
  refine zal rot2 (a := s 0) (by (simp (disch := omega) only [evl, Nat.reduceEqDiff, Nat.reduceAdd, reduceIte, reduceCtorEq, f9])) (zka (i := sI) (o := 2) (by (simp (disch := omega) only [evl, Nat.reduceEqDiff, Nat.reduceAdd, reduceIte, reduceCtorEq])) (zka (i := sI) (o := 1) (by (simp (disch := omega) only [evl, Nat.reduceEqDiff, Nat.reduceAdd, reduceIte, reduceCtorEq])) (zka (i := sI) (o := 2) (by (simp (disch := omega) only [evl, Nat.reduceEqDiff, Nat.reduceAdd, reduceIte, reduceCtorEq])) (zka (i := sI) (o := 1) (by (simp (disch := omega) only [evl, Nat.reduceEqDiff, Nat.reduceAdd, reduceIte, reduceCtorEq])) (zqd _))))) sm2 ?_
  refine zal rot13 (a := s 0) (by (simp (disch := omega) only [evl, Nat.reduceEqDiff, Nat.reduceAdd, reduceIte, reduceCtorEq, f9])) (zka (i := sI) (o := 2) (by (simp (disch := omega) only [evl, Nat.reduceEqDiff, Nat.reduceAdd, reduceIte, reduceCtorEq])) (zka (i := sI) (o := 1) (by (simp (disch := omega) only [evl, Nat.reduceEqDiff, Nat.reduceAdd, reduceIte, reduceCtorEq])) (zka (i := sI) (o := 2) (by (simp (disch := omega) only [evl, Nat.reduceEqDiff, Nat.reduceAdd, reduceIte, reduceCtorEq])) (zka (i := sI) (o := 1) (by (simp (disch := omega) only [evl, Nat.reduceEqDiff, Nat.reduceAdd, reduceIte, reduceCtorEq])) (zqd _))))) sm2 ?_
  (repeat' (first | refine Z ?_ | refine Zq ?_ | refine zaa (by decide) ?_ | ((first | refine' Y ?_ ?_ | refine' X ?_ ?_ ?_); rotate_left; (· (first | (simp (disch := omega) only [evl, Nat.reduceEqDiff, Nat.reduceAdd, reduceIte, reduceCtorEq, w_xor] <;> exact rfl) | exact rfl)); all_goals try (refine fun (hb : _ = _) => ?_; try simp only [Zu, ne_eq, reduceCtorEq] at hb)) | (apply zba; · simp [evl])))
  refine zal rot22 (a := s 0) (by (simp (disch := omega) only [evl, Nat.reduceEqDiff, Nat.reduceAdd, reduceIte, reduceCtorEq, f9])) (zka (i := sI) (o := 2) (by (simp (disch := omega) only [evl, Nat.reduceEqDiff, Nat.reduceAdd, reduceIte, reduceCtorEq])) (zka (i := sI) (o := 1) (by (simp (disch := omega) only [evl, Nat.reduceEqDiff, Nat.reduceAdd, reduceIte, reduceCtorEq])) (zka (i := sI) (o := 2) (by (simp (disch := omega) only [evl, Nat.reduceEqDiff, Nat.reduceAdd, reduceIte, reduceCtorEq])) (zka (i := sI) (o := 1) (by (simp (disch := omega) only [evl, Nat.reduceEqDiff, Nat.reduceAdd, reduceIte, reduceCtorEq])) (zqd _))))) sm2 ?_
  (repeat' (first | refine Z ?_ | refine zaa (by decide) ?_ | ((first | refine' Y ?_ ?_ | refine' X ?_ ?_ ?_); rotate_left; (· (first | (simp (disch := omega) only [evl, Nat.reduceEqDiff, Nat.reduceAdd, reduceIte, reduceCtorEq, w_xor, w_add, zlr] <;> exact rfl) | exact rfl)); all_goals try (refine fun (hb : _ = _) => ?_; try simp only [Zu, ne_eq, reduceCtorEq] at hb)) | (apply zba; · simp [evl])))
  refine abs_T (P := fun T => RN look _ .normal T H1 _) (fun T => TA T (.sl pi po pn pc pop) sI bI kI wI rI i ∧ gT T 9 = W (s 0) ∧ gT T 10 = W (s 4) ∧ gT T 11 = W tv ∧ gT T 12 = W (t2 s)) ⟨⟨(by (first | (simp (disch := omega) only [evl, Nat.reduceEqDiff, Nat.reduceAdd, reduceIte, reduceCtorEq, f1] <;> exact rfl) | exact rfl)), (by (first | (simp (disch := omega) only [evl, Nat.reduceEqDiff, Nat.reduceAdd, reduceIte, reduceCtorEq, f2] <;> exact rfl) | exact rfl)), (by (first | (simp (disch := omega) only [evl, Nat.reduceEqDiff, Nat.reduceAdd, reduceIte, reduceCtorEq, f4] <;> exact rfl) | exact rfl)), (by (first | (simp (disch := omega) only [evl, Nat.reduceEqDiff, Nat.reduceAdd, reduceIte, reduceCtorEq, f5] <;> exact rfl) | exact rfl)), (by (first | (simp (disch := omega) only [evl, Nat.reduceEqDiff, Nat.reduceAdd, reduceIte, reduceCtorEq, f6] <;> exact rfl) | exact rfl)), (by (first | (simp (disch := omega) only [evl, Nat.reduceEqDiff, Nat.reduceAdd, reduceIte, reduceCtorEq, f7] <;> exact rfl) | exact rfl)), (by (first | (simp (disch := omega) only [evl, Nat.reduceEqDiff, Nat.reduceAdd, reduceIte, reduceCtorEq, f16] <;> exact rfl) | exact rfl))⟩, (by (first | (simp (disch := omega) only [evl, Nat.reduceEqDiff, Nat.reduceAdd, reduceIte, reduceCtorEq, f9] <;> exact rfl) | exact rfl)), (by (first | (simp (disch := omega) only [evl, Nat.reduceEqDiff, Nat.reduceAdd, reduceIte, reduceCtorEq, f10] <;> exact rfl) | exact rfl)), (by (first | (simp (disch := omega) only [evl, Nat.reduceEqDiff, Nat.reduceAdd, reduceIte, reduceCtorEq, f11] <;> exact rfl) | exact rfl)), (by (first | (simp (disch := omega) only [evl, Nat.reduceEqDiff, Nat.reduceAdd, reduceIte, reduceCtorEq, zlr] <;> exact rfl) | exact rfl))⟩ ?_
  rintro T3 ⟨⟨g1, g2, g4, g5, g6, g7, g16⟩, g9, g10, g11, g12⟩
  generalize t2 s = uv at *
  (repeat' (first | refine Z ?_ | refine Zq ?_ | refine zaa (by decide) ?_ | ((first | refine' Y ?_ ?_ | refine' X ?_ ?_ ?_); rotate_left; (· (first | (simp (disch := omega) only [evl, Nat.reduceEqDiff, Nat.reduceAdd, reduceIte, reduceCtorEq, w_add, zlr, g2, g9, g10, g11, g12, x1, x2, x3, x5, x6, q1, q2, q3, q5, q6, b382] <;> exact rfl) | exact rfl)); all_goals try (refine fun (hb : _ = _) => ?_; try simp only [Zu, ne_eq, reduceCtorEq] at hb)) | (apply zba; · simp [evl])))
  obtain ⟨H2, hst2, hs2, hp2, hn2⟩ := Row.stN (L := look) (t := 521) (v := .agg [W (M32 (Nat.add tv uv)), W (s 0), W (s 1), W (s 2), W (M32 (Nat.add (s 3) tv)), W (s 4), W (s 5), W (s 6)]) (s := 8) (k := 0) hs1 (hp1.hide.trans hh) (by rw [hp1.lo]; exact hloS) rfl (by rfl) (by rw [zwl]; decide)
  apply rk_st
  · (simp (disch := omega) only [evl, Nat.reduceEqDiff, Nat.reduceAdd, reduceIte, reduceCtorEq, g2])
    exact hst2
  simp only [zpa]
  (repeat' (first | refine Z ?_ | refine Zq ?_ | refine zaa (by decide) ?_ | ((first | refine' Y ?_ ?_ | refine' X ?_ ?_ ?_); rotate_left; (· (first | (simp (disch := omega) only [evl, Nat.reduceEqDiff, Nat.reduceAdd, reduceIte, reduceCtorEq, g16] <;> exact rfl) | exact rfl)); all_goals try (refine fun (hb : _ = _) => ?_; try simp only [Zu, ne_eq, reduceCtorEq] at hb)) | (apply zba; · simp [evl])))
  have hs3 : Row H2 sI false false 521 8 (sl8 (rnd s tv uv)) := by
    rw [sl8_rnd]
    have hd : (sl8 s).drop 8 = [] := List.drop_eq_nil_of_le (by rw [zwl]; exact Nat.le_refl _)
    have hs2' : Row H2 sI false false 521 8 ((sl8 s).take 0 ++ [W (M32 (Nat.add tv uv)), W (s 0), W (s 1), W (s 2), W (M32 (Nat.add (s 3) tv)), W (s 4), W (s 5), W (s 6)] ++ (sl8 s).drop 8) := hs2
    rw [hd, List.take_zero, List.nil_append, List.append_nil] at hs2'
    exact hs2'
  refine zma ⟨rfl, ⟨(by (first | (simp (disch := omega) only [evl, Nat.reduceEqDiff, Nat.reduceAdd, reduceIte, reduceCtorEq, g1] <;> exact rfl) | exact rfl)), (by (first | (simp (disch := omega) only [evl, Nat.reduceEqDiff, Nat.reduceAdd, reduceIte, reduceCtorEq, g2] <;> exact rfl) | exact rfl)), (by (first | (simp (disch := omega) only [evl, Nat.reduceEqDiff, Nat.reduceAdd, reduceIte, reduceCtorEq, g4] <;> exact rfl) | exact rfl)), (by (first | (simp (disch := omega) only [evl, Nat.reduceEqDiff, Nat.reduceAdd, reduceIte, reduceCtorEq, g5] <;> exact rfl) | exact rfl)), (by (first | (simp (disch := omega) only [evl, Nat.reduceEqDiff, Nat.reduceAdd, reduceIte, reduceCtorEq, g6] <;> exact rfl) | exact rfl)), (by (first | (simp (disch := omega) only [evl, Nat.reduceEqDiff, Nat.reduceAdd, reduceIte, reduceCtorEq, g7] <;> exact rfl) | exact rfl)), (by (first | (simp (disch := omega) only [evl, Nat.reduceEqDiff, Nat.reduceAdd, reduceIte, reduceCtorEq] <;> exact rfl) | exact rfl))⟩, hs3, hw1.hp hp2 (by omega) hws, (hp1.trans hp2 (r := fun j => j ≠ sI ∧ j ≠ wI) fun j _ h => ⟨h.2, h.1⟩), by rw [hn2, hn1]⟩
theorem rk_alT {L : Lk} {st : List Kf} {T : Tr AV} {H : AH} {Q : PostC} {k : K2} {d : Option S2} {c : Ce} {e s : Nat} (hh : H.hide = []) (h : ∀ H1, HX H H1 → H1.next = H.next + 1 → Row H1 H.next false false e s c.l → RK L k st (putS d (.ptr H.next 0) T) H1 Q) : RK L (.al true (alF c e s) d k) st T H Q := by
  refine rk_al (v := .ptr H.next 0) (H' := (hIn true H).new (.cells c e s false false)) ?_ ?_
  · exact zwi (.cells c e s false false) (fun m H' => some (.ptr m 0, H')) (hIn true H)
  · exact h (H.new (.cells c e s false false)) (HX.new _ _) rfl (Row.new hh _ _ _ _ _)
theorem sl8_eq (s : Nat → Nat) : sl8 s = [W (s 0), W (s 1), W (s 2), W (s 3), W (s 4), W (s 5), W (s 6), W (s 7)] := rfl
theorem sl8_V {c : Ce} {s : Nat → Nat} (h : c.l = sl8 s) : c.toV = .agg (sl8 s) := by
  rw [sl8_eq] at h ⊢
  exact zgp h (fun n hn => by cases hn)
theorem kl_V {c : Ce} (h : c.l = kl) : c.toV = .agg kl := by
  have e : kl = W 1116352408 :: kl.tail := rfl
  rw [e] at h ⊢
  exact zgp h (fun n hn => by cases hn)
theorem ldA {H : AH} {i e z : Nat} {ro op : Bool} {s : Nat → Nat} (h : Row H i ro op e z (sl8 s)) : ldN 8 (.ptr i 0) H = some (.agg (sl8 s)) := by
  obtain ⟨c, h1, h2⟩ := h.rdN (o := 0) (s := 8) (by rw [zwl]; decide)
  rw [List.drop_zero, List.take_of_length_le (by rw [zwl]; decide)] at h2
  rw [h1, sl8_V h2]
theorem stA {H : AH} {i e z : Nat} {op : Bool} {l : List AV} (s : Nat → Nat) (h : Row H i false op e z l) (hl : l.length = 8) (hh : H.hide = []) (hlo : H.lo ≤ i) : ∃ H', stN 8 (.ptr i 0) (.agg (sl8 s)) H = some H' ∧ Row H' i false op e z (sl8 s) ∧ HP (· ≠ i) H H' ∧ H'.next = H.next := by
  obtain ⟨H', h1, h2, h3, h4⟩ := Row.stN (L := look) (t := 0) (v := .agg (sl8 s)) (s := 8) (k := 0) h hh hlo rfl (by rfl) (by rw [hl]; decide)
  have h2 : Row H' i false op e z (l.take 0 ++ sl8 s ++ l.drop (0 + 8)) := h2
  rw [List.take_zero, List.nil_append, List.drop_eq_nil_of_le (by rw [hl]; decide), List.append_nil] at h2
  exact ⟨H', h1, h2, h3, h4⟩
theorem stK {H : AH} {i e z : Nat} {op : Bool} {l : List AV} (h : Row H i false op e z l) (hl : l.length = 64) (hh : H.hide = []) (hlo : H.lo ≤ i) : ∃ H', stN 64 (.ptr i 0) (.agg kl) H = some H' ∧ Row H' i false op e z kl ∧ HP (· ≠ i) H H' ∧ H'.next = H.next := by
  obtain ⟨H', h1, h2, h3, h4⟩ := Row.stN (L := look) (t := 0) (v := .agg kl) (s := 64) (k := 0) h hh hlo rfl (by rfl) (by rw [hl]; decide)
  have h2 : Row H' i false op e z (l.take 0 ++ kl ++ l.drop (0 + 64)) := h2
  rw [List.take_zero, List.nil_append, List.drop_eq_nil_of_le (by rw [hl]; decide), List.append_nil] at h2
  exact ⟨H', h1, h2, h3, h4⟩
structure Stp (s bs : Nat → Nat) (S : Nat → (Nat → Nat) × (Nat → Nat)) : Prop where
  h0 : S 0 = (s, fun _ => 0)
  hs : ∀ i, S (i + 1) = (rnd (S i).1 (t1 (S i).1 (kN_at i) (wd (S i).2 bs i)) (t2 (S i).1), upd (S i).2 (i % 16) (wd (S i).2 bs i))
def trn (F s : Nat → Nat) : Nat → Nat := fun j => M32 (Nat.add (F j) (s j))
theorem trn_cur (F s : Nat → Nat) : (sl8 fun j => if j < 8 then M32 (Nat.add (F j) (s j)) else F j) = sl8 (trn F s) := rfl
theorem z382 : look.size 521 = some 8 := by kernel_rfl
theorem a382 : look.isAgg 521 = some true := by kernel_rfl
theorem set_cur (f g : Nat → Nat) {u : Nat} (hu : u < 8) : (sl8 fun j => if j < u then g j else f j).set u (W (g u)) = sl8 fun j => if j < u + 1 then g j else f j := by
  refine List.ext_getElem? fun j => ?_
  rw [List.getElem?_set]
  unfold sl8
  by_cases hj : j < 8
  · rw [List.getElem?_map, List.getElem?_map, List.getElem?_range hj]
    by_cases hk : u = j
    · subst hk; simp [hu]
    · rw [if_neg hk]
      have : (j < u) ↔ (j < u + 1) := by omega
      simp [this]
  · rw [List.getElem?_eq_none (by simp; omega)]
    by_cases hk : u = j
    · omega
    · rw [if_neg hk, List.getElem?_eq_none (by simp; omega)]
set_option maxHeartbeats 16000000 in
theorem zme1 {H : AH} {s bs : Nat → Nat} {S : Nat → (Nat → Nat) × (Nat → Nat)} (hS : Stp s bs S) {pi po pn pc : Nat} {pop : Bool} (hpi : pi < H.next) (hpc : 64 ≤ pc) (hby : ∀ j, j < 64 → ld1 (.ptr pi (po + j)) H = some (.int .u8 (Int.ofNat (bs j)))) (hh : H.hide = []) (hlo : H.lo ≤ H.next) :
    FnE look 451 [.agg (sl8 s), .sl pi po pn pc pop] H fun r H' => r = .agg (sl8 (trn (S 64).1 s)) ∧ HX H H' := by
  refine zzb f451_eq noext rfl ?_
  unfold f451c
  obtain ⟨H1, hal1, hx1, hn1, hs1⟩ := zmi (e := 521) (s := 8) (c := (AV.agg (sl8 s)).toC) hh
  rw [toC_l] at hs1
  have hs1 : Row H1 H.next false false 521 8 (sl8 s) := hs1
  have hh1 : H1.hide = [] := hx1.hide.trans hh
  obtain ⟨H2, hal2, hx2, hn2, hr2⟩ := zmi (e := 521) (s := 8) (c := AV.toC (.agg [(.int .u32 (0)), (.int .u32 (0)), (.int .u32 (0)), (.int .u32 (0)), (.int .u32 (0)), (.int .u32 (0)), (.int .u32 (0)), (.int .u32 (0))])) hh1
  rw [toC_l] at hr2
  have hh2 : H2.hide = [] := hx2.hide.trans hh1
  have hs2 := hs1.hx hx2 (by omega)
  have hl2 := ldA hs2
  (repeat' (first | refine Z ?_ | refine zaa (by decide) ?_ | ((first | refine' Y ?_ ?_ | refine' X ?_ ?_ ?_); rotate_left; (· (first | (simp (disch := omega) only [evl, Nat.reduceEqDiff, Nat.reduceAdd, reduceIte, reduceCtorEq] <;> exact rfl) | exact rfl)); all_goals try (refine fun (hb : _ = _) => ?_; try simp only [Zu, ne_eq, reduceCtorEq] at hb)) | (apply zba; · simp [evl])))
  apply rk_m1
  · (simp (disch := omega) only [evl, Nat.reduceEqDiff, Nat.reduceAdd, reduceIte, reduceCtorEq])
    exact hal1
  simp only [zpa]
  (repeat' (first | refine Z ?_ | refine zaa (by decide) ?_ | ((first | refine' Y ?_ ?_ | refine' X ?_ ?_ ?_); rotate_left; (· (first | (simp (disch := omega) only [evl, Nat.reduceEqDiff, Nat.reduceAdd, reduceIte, reduceCtorEq] <;> exact rfl) | exact rfl)); all_goals try (refine fun (hb : _ = _) => ?_; try simp only [Zu, ne_eq, reduceCtorEq] at hb)) | (apply zba; · simp [evl])))
  refine rk_al hal2 ?_
  simp only [zpa]
  (repeat' (first | refine Z ?_ | refine zaa (by decide) ?_ | ((first | refine' Y ?_ ?_ | refine' X ?_ ?_ ?_); rotate_left; (· (first | (simp (disch := omega) only [evl, Nat.reduceEqDiff, Nat.reduceAdd, reduceIte, reduceCtorEq] <;> exact rfl) | exact rfl)); all_goals try (refine fun (hb : _ = _) => ?_; try simp only [Zu, ne_eq, reduceCtorEq] at hb)) | (apply zba; · simp [evl])))
  refine rn_seq_n ?_
  (repeat' (first | refine Z ?_ | refine zaa (by decide) ?_ | ((first | refine' Y ?_ ?_ | refine' X ?_ ?_ ?_); rotate_left; (· (first | (simp (disch := omega) only [evl, Nat.reduceEqDiff, Nat.reduceAdd, reduceIte, reduceCtorEq, hl2] <;> exact rfl) | exact rfl)); all_goals try (refine fun (hb : _ = _) => ?_; try simp only [Zu, ne_eq, reduceCtorEq] at hb)) | (apply zba; · simp [evl])))
  refine rk_cw (js := [H.next]) (R := fun r H' => (∃ c : Ce, r = c.toV ∧ c.l = kl) ∧ HX H2 H' ∧ H'.next = H2.next + 1) ?_ ?_ ?_
  · exact zka (i := H.next) (o := 0) (by (simp (disch := omega) only [evl, Nat.reduceEqDiff, Nat.reduceAdd, reduceIte, reduceCtorEq])) (zqd _)
  · (simp (disch := omega) only [evl, Nat.reduceEqDiff, Nat.reduceAdd, reduceIte, reduceCtorEq])
    exact zwy hh2 (by rw [hx2.lo, hx1.lo]; omega)
  rintro r H3 ⟨⟨c3, rfl, hc3⟩, hx3, hn3⟩
  rw [kl_V hc3]
  have hh3 : H3.hide = [] := hx3.hide.trans hh2
  refine ⟨zsa hs2 (hx3.get (by omega)) (zbd _ _), ?_⟩
  refine rk_alT hh3 fun H4 hx4 hn4 hb4 => ?_
  have hh4 : H4.hide = [] := hx4.hide.trans hh3
  refine rk_alT hh4 fun H5 hx5 hn5 hk5 => ?_
  have hh5 : H5.hide = [] := hx5.hide.trans hh4
  have hlo5 : H5.lo = H.lo := by rw [hx5.lo, hx4.lo, hx3.lo, hx2.lo, hx1.lo]
  rw [toC_l] at hb4 hk5
  obtain ⟨H6, hst6, hb6, hp6, hn6⟩ := stA s (hb4.hx hx5 (by omega)) rfl hh5 (by omega)
  have hh6 : H6.hide = [] := hp6.hide.trans hh5
  obtain ⟨H7, hst7, hk7, hp7, hn7⟩ := stK (hk5.hp hp6 (by omega) (by omega)) rfl hh6 (by rw [hp6.lo]; omega)
  have hh7 : H7.hide = [] := hp7.hide.trans hh6
  apply rk_st
  · (simp (disch := omega) only [evl, Nat.reduceEqDiff, Nat.reduceAdd, reduceIte, reduceCtorEq, hl2])
    exact hst6
  simp only [zpa]
  apply rk_st
  · (simp (disch := omega) only [evl, Nat.reduceEqDiff, Nat.reduceAdd, reduceIte, reduceCtorEq])
    exact hst7
  simp only [zpa]
  obtain ⟨H8, hal8, hx8, hn8, hw8⟩ := zmi (e := 632) (s := 16) (c := AV.toC (.agg [(.int .u32 (0)), (.int .u32 (0)), (.int .u32 (0)), (.int .u32 (0)), (.int .u32 (0)), (.int .u32 (0)), (.int .u32 (0)), (.int .u32 (0)), (.int .u32 (0)), (.int .u32 (0)), (.int .u32 (0)), (.int .u32 (0)), (.int .u32 (0)), (.int .u32 (0)), (.int .u32 (0)), (.int .u32 (0))])) hh7
  rw [toC_l] at hw8
  have hw8 : Row H8 H7.next false false 632 16 (wl fun _ => 0) := hw8
  have hh8 : H8.hide = [] := hx8.hide.trans hh7
  (repeat' (first | refine Z ?_ | refine zaa (by decide) ?_ | ((first | refine' Y ?_ ?_ | refine' X ?_ ?_ ?_); rotate_left; (· (first | (simp (disch := omega) only [evl, Nat.reduceEqDiff, Nat.reduceAdd, reduceIte, reduceCtorEq] <;> exact rfl) | exact rfl)); all_goals try (refine fun (hb : _ = _) => ?_; try simp only [Zu, ne_eq, reduceCtorEq] at hb)) | (apply zba; · simp [evl])))
  refine rn_seq_n ?_
  (repeat' (first | refine Z ?_ | refine zaa (by decide) ?_ | ((first | refine' Y ?_ ?_ | refine' X ?_ ?_ ?_); rotate_left; (· (first | (simp (disch := omega) only [evl, Nat.reduceEqDiff, Nat.reduceAdd, reduceIte, reduceCtorEq] <;> exact rfl) | exact rfl)); all_goals try (refine fun (hb : _ = _) => ?_; try simp only [Zu, ne_eq, reduceCtorEq] at hb)) | (apply zba; · simp [evl])))
  refine rk_al hal8 ?_
  simp only [zpa]
  have n1 : H1.next = H.next + 1 := hn1
  have n2 : H2.next = H.next + 2 := by omega
  have n3 : H3.next = H.next + 3 := by omega
  have n4 : H4.next = H.next + 4 := by omega
  have n5 : H5.next = H.next + 5 := by omega
  have n7 : H7.next = H.next + 5 := by omega
  have n8 : H8.next = H.next + 6 := by omega
  have hpx : HP (fun j => j ≠ H3.next ∧ j ≠ H4.next) H2 H8 := ((((((hx3.trans hx4).trans hx5).hp fun _ => True).trans hp6 (r := fun j => j ≠ H3.next) fun j _ h => ⟨trivial, h⟩).trans hp7 (r := fun j => j ≠ H3.next ∧ j ≠ H4.next) fun j _ h => ⟨h.1, h.2⟩).trans (hx8.hp fun _ => True) fun j _ h => ⟨h, trivial⟩)
  have hs8 : Row H8 H.next false false 521 8 (sl8 s) := hs2.hp hpx (by omega) ⟨by omega, by omega⟩
  have hr8 := hr2.hp hpx (by omega) ⟨by omega, by omega⟩
  have hb8 : Row H8 H3.next false false 521 8 (sl8 s) := (hb6.hp hp7 (by omega) (by omega)).hx hx8 (by omega)
  have hk8 : Row H8 H4.next false false 629 64 kl := hk7.hx hx8 (by omega)
  have hx08 : HX H H8 := (((hx1.trans hx2).hp fun _ => True).trans hpx (r := fun _ => True) fun j hj _ => ⟨trivial, by omega, by omega⟩).hx fun _ _ => trivial
  have hby8 : ∀ H' : AH, HP (fun j => j ≠ H.next ∧ j ≠ H7.next) H8 H' → ∀ j, j < 64 → ld1 (.ptr pi (po + j)) H' = some (.int .u8 (Int.ofNat (bs j))) := fun H' hp j hj => by
    have h := hby j hj
    rw [zul] at h ⊢
    unfold AH.read1 AH.row at h ⊢
    rw [hp.get (by omega) ⟨by omega, by omega⟩, hx08.get hpi]; exact h
  (repeat' (first | refine Z ?_ | refine zaa (by decide) ?_ | ((first | refine' Y ?_ ?_ | refine' X ?_ ?_ ?_); rotate_left; (· (first | (simp (disch := omega) only [evl, Nat.reduceEqDiff, Nat.reduceAdd, reduceIte, reduceCtorEq] <;> exact rfl) | exact rfl)); all_goals try (refine fun (hb : _ = _) => ?_; try simp only [Zu, ne_eq, reduceCtorEq] at hb)) | (apply zba; · simp [evl])))
  refine rn_seq_n ?_
  (repeat' (first | refine Z ?_ | refine zaa (by decide) ?_ | ((first | refine' Y ?_ ?_ | refine' X ?_ ?_ ?_); rotate_left; (· (first | (simp (disch := omega) only [evl, Nat.reduceEqDiff, Nat.reduceAdd, reduceIte, reduceCtorEq] <;> exact rfl) | exact rfl)); all_goals try (refine fun (hb : _ = _) => ?_; try simp only [Zu, ne_eq, reduceCtorEq] at hb)) | (apply zba; · simp [evl])))
  refine rn_seq_n ?_
  refine rc_blk ?_
  refine zoh (R := fun ex T' H' => ex = .exit 0 ∧ gT T' 2 = .ptr H.next 0 ∧ gT T' 4 = .ptr H1.next 0 ∧ gT T' 5 = .ptr H3.next 0 ∧ Row H' H.next false false 521 8 (sl8 (S 64).1) ∧ HP (fun j => j ≠ H.next ∧ j ≠ H7.next) H8 H' ∧ H'.next = H8.next) ?_ ?_
  · refine zxm zhe1 (fun k T' H' => ∃ i, k = 64 - i ∧ i ≤ 64 ∧ TA T' (.sl pi po pn pc pop) H.next H3.next H4.next H7.next H1.next i ∧ Row H' H.next false false 521 8 (sl8 (S i).1) ∧ Row H' H7.next false false 632 16 (wl (S i).2) ∧ HP (fun j => j ≠ H.next ∧ j ≠ H7.next) H8 H' ∧ H'.next = H8.next) _ ?_ 64 _ _ ?_
    · rintro k T' H' ⟨i, hk, hi, hT, hsr, hwr, hp, hn⟩
      by_cases hlt : i < 64
      · have hkr := hk8.hp hp (by omega) ⟨by omega, by omega⟩
        refine ⟨(zle1 hlt hT hsr hkr hwr (hby8 H' hp) hpc (hp.hide.trans hh8) (by rw [hp.lo, hx08.lo]; exact hlo) (by rw [hp.lo, hx08.lo]; omega) (by omega) (by omega) (by omega) (by omega) (by omega) (by omega)).h.mono ?_⟩
        rintro ex T2 H2' ⟨rfl, hT2, hs2', hw2', hp2', hn2'⟩
        have hsn := hS.hs i
        refine lpq_n (64 - (i + 1)) (by omega) ⟨i + 1, rfl, by omega, hT2, by rw [hsn]; exact hs2', by rw [hsn]; exact hw2', hp.trans hp2' fun j _ h => ⟨h, h⟩, by omega⟩
      · obtain rfl : i = 64 := by omega
        obtain ⟨e1, e2, e4, e5, e6, e7, e16⟩ := hT
        unfold zge1
        (repeat' (first | refine Z ?_ | refine Zq ?_ | refine zaa (by decide) ?_ | ((first | refine' Y ?_ ?_ | refine' X ?_ ?_ ?_); rotate_left; (· (first | (simp (disch := omega) only [evl, Nat.reduceEqDiff, Nat.reduceAdd, reduceIte, reduceCtorEq, e16] <;> exact rfl) | exact rfl)); all_goals try (refine fun (hb : _ = _) => ?_; try simp only [Zu, ne_eq, reduceCtorEq] at hb)) | (apply zba; · simp [evl])))
        refine zma ?_; refine lpq_e ?_
        exact ⟨rfl, (by (first | (simp (disch := omega) only [evl, Nat.reduceEqDiff, Nat.reduceAdd, reduceIte, reduceCtorEq, e2] <;> exact rfl) | exact rfl)), (by (first | (simp (disch := omega) only [evl, Nat.reduceEqDiff, Nat.reduceAdd, reduceIte, reduceCtorEq, e4] <;> exact rfl) | exact rfl)), (by (first | (simp (disch := omega) only [evl, Nat.reduceEqDiff, Nat.reduceAdd, reduceIte, reduceCtorEq, e5] <;> exact rfl) | exact rfl)), hsr, hp, hn⟩
    · exact ⟨0, rfl, Nat.zero_le _, ⟨(by (first | (simp (disch := omega) only [evl, Nat.reduceEqDiff, Nat.reduceAdd, reduceIte, reduceCtorEq] <;> exact rfl) | exact rfl)), (by (first | (simp (disch := omega) only [evl, Nat.reduceEqDiff, Nat.reduceAdd, reduceIte, reduceCtorEq] <;> exact rfl) | exact rfl)), (by (first | (simp (disch := omega) only [evl, Nat.reduceEqDiff, Nat.reduceAdd, reduceIte, reduceCtorEq] <;> exact rfl) | exact rfl)), (by (first | (simp (disch := omega) only [evl, Nat.reduceEqDiff, Nat.reduceAdd, reduceIte, reduceCtorEq] <;> exact rfl) | exact rfl)), (by (first | (simp (disch := omega) only [evl, Nat.reduceEqDiff, Nat.reduceAdd, reduceIte, reduceCtorEq] <;> exact rfl) | exact rfl)), (by (first | (simp (disch := omega) only [evl, Nat.reduceEqDiff, Nat.reduceAdd, reduceIte, reduceCtorEq] <;> exact rfl) | exact rfl)), (by (first | (simp (disch := omega) only [evl, Nat.reduceEqDiff, Nat.reduceAdd, reduceIte, reduceCtorEq] <;> exact rfl) | exact rfl))⟩, by rw [hS.h0]; exact hs8, by rw [hS.h0]; exact hw8, HP.refl _ _, rfl⟩
  rintro ex T' H9 ⟨rfl, e2, e4, e5, hs9, hp9, hn9⟩
  generalize (S 64).1 = F at *
  have hh9 : H9.hide = [] := hp9.hide.trans hh8
  have hb9 := hb8.hp hp9 (by omega) ⟨by omega, by omega⟩
  (repeat' (first | refine Z ?_ | refine zaa (by decide) ?_ | ((first | refine' Y ?_ ?_ | refine' X ?_ ?_ ?_); rotate_left; (· (first | (simp (disch := omega) only [evl, Nat.reduceEqDiff, Nat.reduceAdd, reduceIte, reduceCtorEq] <;> exact rfl) | exact rfl)); all_goals try (refine fun (hb : _ = _) => ?_; try simp only [Zu, ne_eq, reduceCtorEq] at hb)) | (apply zba; · simp [evl])))
  refine rn_seq_n ?_
  (repeat' (first | refine Z ?_ | refine zaa (by decide) ?_ | ((first | refine' Y ?_ ?_ | refine' X ?_ ?_ ?_); rotate_left; (· (first | (simp (disch := omega) only [evl, Nat.reduceEqDiff, Nat.reduceAdd, reduceIte, reduceCtorEq] <;> exact rfl) | exact rfl)); all_goals try (refine fun (hb : _ = _) => ?_; try simp only [Zu, ne_eq, reduceCtorEq] at hb)) | (apply zba; · simp [evl])))
  refine rn_seq_n ?_
  refine rc_blk ?_
  refine zoh (R := fun ex T' H' => ex = .exit 2 ∧ gT T' 2 = .ptr H.next 0 ∧ gT T' 4 = .ptr H1.next 0 ∧ Row H' H.next false false 521 8 (sl8 (trn F s)) ∧ HP (· ≠ H.next) H9 H' ∧ H'.next = H9.next) ?_ ?_
  · refine zxm zie1 (fun k T' H' => ∃ u, k = 8 - u ∧ u ≤ 8 ∧ gT T' 2 = .ptr H.next 0 ∧ gT T' 4 = .ptr H1.next 0 ∧ gT T' 5 = .ptr H3.next 0 ∧ gT T' 96 = .int .i64 (u : Int) ∧ Row H' H.next false false 521 8 (sl8 fun j => if j < u then M32 (Nat.add (F j) (s j)) else F j) ∧ HP (· ≠ H.next) H9 H' ∧ H'.next = H9.next) _ ?_ 8 _ _ ?_
    · rintro k T' H' ⟨u, hk, hu, e2, e4, e5, e96, hsr, hp, hn⟩
      unfold f451l1
      by_cases hlt : u < 8
      · have hu8 : (u : Int) < 8 := by omega
        have xs := ix8 (i := H.next) (j := u) (n := (u : Int)) hlt rfl
        have xb := ix8 (i := H3.next) (j := u) (n := (u : Int)) hlt rfl
        have rs := hsr.rd (zod _ hlt)
        simp only [Nat.lt_irrefl, if_false] at rs
        have rb := (hb9.hp hp (by omega) (by omega)).rd (zod s hlt)
        obtain ⟨H2', hst, hr2', hp2', hn2'⟩ := hsr.st1 (L := look) (t := 519) (v := W (M32 (Nat.add (F u) (s u)))) (k := u) (hp.hide.trans hh9) (by rw [hp.lo, hp9.lo, hx08.lo]; exact hlo) z380 rfl (by rw [zwl]; exact hlt)
        rw [set_cur F (fun j => M32 (Nat.add (F j) (s j))) hlt] at hr2'
        (repeat' (first | refine Z ?_ | refine Zq ?_ | refine zaa (by decide) ?_ | ((first | refine' Y ?_ ?_ | refine' X ?_ ?_ ?_); rotate_left; (· (first | (simp (disch := omega) only [evl, Nat.reduceEqDiff, Nat.reduceAdd, reduceIte, reduceCtorEq, e2, e5, e96, hu8, xs, xb, rs, rb, w_add, zlr] <;> exact rfl) | exact rfl)); all_goals try (refine fun (hb : _ = _) => ?_; try simp only [Zu, ne_eq, reduceCtorEq] at hb)) | (apply zba; · simp [evl])))
        apply rk_st
        · (simp (disch := omega) only [evl, Nat.reduceEqDiff, Nat.reduceAdd, reduceIte, reduceCtorEq, e2, e5, xs, xb, w_add, zlr])
          exact hst
        simp only [zpa]
        (repeat' (first | refine Z ?_ | refine Zq ?_ | refine zaa (by decide) ?_ | ((first | refine' Y ?_ ?_ | refine' X ?_ ?_ ?_); rotate_left; (· (first | (simp (disch := omega) only [evl, Nat.reduceEqDiff, Nat.reduceAdd, reduceIte, reduceCtorEq, e96] <;> exact rfl) | exact rfl)); all_goals try (refine fun (hb : _ = _) => ?_; try simp only [Zu, ne_eq, reduceCtorEq] at hb)) | (apply zba; · simp [evl])))
        refine zma ?_; refine lpq_n (8 - (u + 1)) (by omega) ?_
        exact ⟨u + 1, rfl, by omega, (by (first | (simp (disch := omega) only [evl, Nat.reduceEqDiff, Nat.reduceAdd, reduceIte, reduceCtorEq, e2] <;> exact rfl) | exact rfl)), (by (first | (simp (disch := omega) only [evl, Nat.reduceEqDiff, Nat.reduceAdd, reduceIte, reduceCtorEq, e4] <;> exact rfl) | exact rfl)), (by (first | (simp (disch := omega) only [evl, Nat.reduceEqDiff, Nat.reduceAdd, reduceIte, reduceCtorEq, e5] <;> exact rfl) | exact rfl)), (by (first | (simp (disch := omega) only [evl, Nat.reduceEqDiff, Nat.reduceAdd, reduceIte, reduceCtorEq] <;> exact rfl) | exact rfl)), hr2', hp.trans hp2' fun j _ h => ⟨h, h⟩, by omega⟩
      · obtain rfl : u = 8 := by omega
        (repeat' (first | refine Z ?_ | refine Zq ?_ | refine zaa (by decide) ?_ | ((first | refine' Y ?_ ?_ | refine' X ?_ ?_ ?_); rotate_left; (· (first | (simp (disch := omega) only [evl, Nat.reduceEqDiff, Nat.reduceAdd, reduceIte, reduceCtorEq, e96] <;> exact rfl) | exact rfl)); all_goals try (refine fun (hb : _ = _) => ?_; try simp only [Zu, ne_eq, reduceCtorEq] at hb)) | (apply zba; · simp [evl])))
        refine zma ?_; refine lpq_e ?_
        refine ⟨rfl, (by (first | (simp (disch := omega) only [evl, Nat.reduceEqDiff, Nat.reduceAdd, reduceIte, reduceCtorEq, e2] <;> exact rfl) | exact rfl)), (by (first | (simp (disch := omega) only [evl, Nat.reduceEqDiff, Nat.reduceAdd, reduceIte, reduceCtorEq, e4] <;> exact rfl) | exact rfl)), ?_, hp, hn⟩
        rw [← trn_cur]; exact hsr
    · refine ⟨0, rfl, Nat.zero_le _, (by (first | (simp (disch := omega) only [evl, Nat.reduceEqDiff, Nat.reduceAdd, reduceIte, reduceCtorEq, e2] <;> exact rfl) | exact rfl)), (by (first | (simp (disch := omega) only [evl, Nat.reduceEqDiff, Nat.reduceAdd, reduceIte, reduceCtorEq, e4] <;> exact rfl) | exact rfl)), (by (first | (simp (disch := omega) only [evl, Nat.reduceEqDiff, Nat.reduceAdd, reduceIte, reduceCtorEq, e5] <;> exact rfl) | exact rfl)), (by (first | (simp (disch := omega) only [evl, Nat.reduceEqDiff, Nat.reduceAdd, reduceIte, reduceCtorEq] <;> exact rfl) | exact rfl)), ?_, HP.refl _ _, rfl⟩
      simpa using hs9
  rintro ex T2 HA ⟨rfl, g2, g4, hsA, hpA, hnA⟩
  have hlA := ldA hsA
  have hhA : HA.hide = [] := hpA.hide.trans hh9
  have hrA := (hr8.hp hp9 (by omega) ⟨by omega, by omega⟩).hp hpA (by omega) (by omega)
  obtain ⟨HB, hstB, hrB, hpB, hnB⟩ := stA (trn F s) hrA rfl hhA (by rw [hpA.lo, hp9.lo, hx08.lo]; omega)
  (repeat' (first | refine Z ?_ | refine zaa (by decide) ?_ | ((first | refine' Y ?_ ?_ | refine' X ?_ ?_ ?_); rotate_left; (· (first | (simp (disch := omega) only [evl, Nat.reduceEqDiff, Nat.reduceAdd, reduceIte, reduceCtorEq] <;> exact rfl) | exact rfl)); all_goals try (refine fun (hb : _ = _) => ?_; try simp only [Zu, ne_eq, reduceCtorEq] at hb)) | (apply zba; · simp [evl])))
  refine rn_seq_n ?_
  (repeat' (first | refine Z ?_ | refine zaa (by decide) ?_ | ((first | refine' Y ?_ ?_ | refine' X ?_ ?_ ?_); rotate_left; (· (first | (simp (disch := omega) only [evl, Nat.reduceEqDiff, Nat.reduceAdd, reduceIte, reduceCtorEq, g2, hlA] <;> exact rfl) | exact rfl)); all_goals try (refine fun (hb : _ = _) => ?_; try simp only [Zu, ne_eq, reduceCtorEq] at hb)) | (apply zba; · simp [evl])))
  apply rk_st
  · (simp (disch := omega) only [evl, Nat.reduceEqDiff, Nat.reduceAdd, reduceIte, reduceCtorEq, g2, g4, hlA])
    exact hstB
  simp only [zpa]
  (repeat' (first | refine Z ?_ | refine zaa (by decide) ?_ | ((first | refine' Y ?_ ?_ | refine' X ?_ ?_ ?_); rotate_left; (· (first | (simp (disch := omega) only [evl, Nat.reduceEqDiff, Nat.reduceAdd, reduceIte, reduceCtorEq] <;> exact rfl) | exact rfl)); all_goals try (refine fun (hb : _ = _) => ?_; try simp only [Zu, ne_eq, reduceCtorEq] at hb)) | (apply zba; · simp [evl])))
  refine rn_seq_n ?_
  refine rc_ret ?_
  refine zma ?_
  obtain ⟨c, hc, hres⟩ := resC (a := 4) (t := 521) a382 z382 hrB (by rw [zwl])
  refine zqc (hres _ (by (first | (simp (disch := omega) only [evl, Nat.reduceEqDiff, Nat.reduceAdd, reduceIte, reduceCtorEq, g4] <;> exact rfl) | exact rfl))) ⟨sl8_V hc, ?_⟩
  exact ((((hx08.hp fun _ => True).trans hp9 (r := fun _ => True) fun j hj _ => ⟨trivial, by omega, by omega⟩).trans hpA (r := fun _ => True) fun j hj _ => ⟨trivial, by omega⟩).trans hpB (r := fun _ => True) fun j hj _ => ⟨trivial, by omega⟩).hx fun _ _ => trivial
def T1 (e f g h k w : Nat) : Nat := M32 (Nat.add (M32 (Nat.add (M32 (Nat.add (M32 (Nat.add h (xor3 (rotR 6 e) (rotR 11 e) (rotR 25 e)))) (chs e f g))) k)) w)
def T2 (a b c : Nat) : Nat := M32 (Nat.add (xor3 (rotR 2 a) (rotR 13 a) (rotR 22 a)) (maj a b c))
theorem t1_T (s : Nat → Nat) (k w : Nat) : t1 s k w = T1 (s 4) (s 5) (s 6) (s 7) k w := rfl
theorem t2_T (s : Nat → Nat) : t2 s = T2 (s 0) (s 1) (s 2) := rfl
section
noncomputable section
def gq (q : List Nat) : Nat → Nat := lrec (β := Nat → Nat) (fun _ => 0) (fun a _ ih j => Nat.rec (motive := fun _ => Nat → (Nat → Nat) → Nat) (fun a _ => a) (fun p _ _ ih => ih p) j a ih) q
def sqK (v : Nat) (q : List Nat) : Nat → (List Nat → List Nat) → List Nat :=
  lrec (β := Nat → (List Nat → List Nat) → List Nat) (fun _ K => K []) (fun a l ih j K => Nat.rec (motive := fun _ => Nat → List Nat → (Nat → (List Nat → List Nat) → List Nat) → (List Nat → List Nat) → List Nat) (fun _ l _ K => K (v :: l)) (fun p _ a _ ih K => ih p (fun l' => K (a :: l'))) j a l ih K) q
theorem sqK_eq (v : Nat) : ∀ (q : List Nat) (j : Nat) (K : List Nat → List Nat), sqK v q j K = K (q.set j v)
  | [], j, K => rfl
  | a :: l, 0, K => rfl
  | a :: l, j + 1, K => by
    show sqK v l j (fun l' => K (a :: l')) = _
    rw [sqK_eq v l j]; rfl
theorem gq_set : ∀ (q : List Nat) (k v j : Nat), k < q.length → gq (q.set k v) j = if j = k then v else gq q j
  | [], k, v, j, h => by simp at h
  | a :: l, 0, v, 0, _ => rfl
  | a :: l, 0, v, j + 1, _ => rfl
  | a :: l, k + 1, v, 0, _ => rfl
  | a :: l, k + 1, v, j + 1, h => by
    show gq (l.set k v) j = _
    rw [gq_set l k v j (by simpa using h)]
    by_cases hj : j = k
    · subst hj; simp
    · rw [if_neg hj, if_neg (by omega)]; rfl
def wq (N : Nat) (q : List Nat) (i : Nat) : Nat := brec (nw (gq q) i) (be (Ce.byteAt N) i) (Nat.blt i 16)
theorem brec_if {α : Type} (i : Nat) (x y : α) : brec x y (Nat.blt i 16) = if i < 16 then y else x := by
  by_cases h : i < 16
  · rw [if_pos h, show Nat.blt i 16 = true from by rw [Nat.blt_eq]; exact h]; rfl
  · rw [if_neg h, show Nat.blt i 16 = false from by cases hb : Nat.blt i 16 with | false => rfl | true => rw [Nat.blt_eq] at hb; exact absurd hb h]; rfl
theorem wq_def (N : Nat) (q : List Nat) (i : Nat) : wq N q i = brec (nw (gq q) i) (be (Ce.byteAt N) i) (Nat.blt i 16) := rfl
theorem wd_def (ws bs : Nat → Nat) (i : Nat) : wd ws bs i = if i < 16 then be bs i else nw ws i := rfl
theorem wq_eq (N : Nat) (q : List Nat) (i : Nat) : wq N q i = wd (gq q) (Ce.byteAt N) i :=
  (wq_def N q i).trans ((brec_if i _ _).trans (wd_def (gq q) (Ce.byteAt N) i).symm)
def rnS (N k : Nat) (ih : Nat → List Nat → Nat → Nat → Nat → Nat → Nat → Nat → Nat → Nat → List Nat) (i : Nat) (q : List Nat) (a b c d e f g h : Nat) : List Nat :=
  zzi (fun w => zzi (fun t => zzi (fun x => zzi (fun y => sqK w q (Nat.mod i 16) (fun q' => ih (Nat.succ i) q' x a b c y e f g)) (M32 (Nat.add d t))) (M32 (Nat.add t (T2 a b c)))) (T1 e f g h k w)) (wq N q i)
def rnq (N : Nat) (ks : List Nat) : Nat → List Nat → Nat → Nat → Nat → Nat → Nat → Nat → Nat → Nat → List Nat :=
  lrec (β := Nat → List Nat → Nat → Nat → Nat → Nat → Nat → Nat → Nat → Nat → List Nat) (fun _ _ a b c d e f g h => [a, b, c, d, e, f, g, h]) (fun k _ ih => rnS N k ih) ks
theorem zja {α β : Type} (z : β) (f : α → List α → β → β) (a : α) (l : List α) : lrec z f (a :: l) = f a l (lrec z f l) := rfl
theorem rnq_nil (N i : Nat) (q : List Nat) (a b c d e f g h : Nat) : rnq N [] i q a b c d e f g h = [a, b, c, d, e, f, g, h] := rfl
theorem rnq_c (N k : Nat) (ks : List Nat) : rnq N (k :: ks) = rnS N k (rnq N ks) := zja _ _ _ _
theorem mod16 (i : Nat) : Nat.mod i 16 = i % 16 := rfl
theorem zjk1 (N k : Nat) (ks : List Nat) (i : Nat) (q : List Nat) (a b c d e f g h : Nat) : rnq N (k :: ks) i q a b c d e f g h =
    rnq N ks (i + 1) (q.set (i % 16) (wd (gq q) (Ce.byteAt N) i)) (M32 (Nat.add (T1 e f g h k (wd (gq q) (Ce.byteAt N) i)) (T2 a b c))) a b c (M32 (Nat.add d (T1 e f g h k (wd (gq q) (Ce.byteAt N) i)))) e f g := by
  rw [rnq_c]
  unfold rnS
  simp only [zkj, sqK_eq, wq_eq, mod16, Nat.succ_eq_add_one]
theorem rnd_0 (s : Nat → Nat) (t u : Nat) : rnd s t u 0 = M32 (Nat.add t u) := if_pos rfl
theorem rnd_4 (s : Nat → Nat) (t u : Nat) : rnd s t u 4 = M32 (Nat.add (s 3) t) := by
  unfold rnd
  generalize M32 (Nat.add t u) = x
  generalize M32 (Nat.add (s 3) t) = y
  rfl
theorem rnd_s (s : Nat → Nat) (t u j : Nat) (h : j ≠ 3) : rnd s t u (j + 1) = s j := by
  unfold rnd
  rw [if_neg (by omega), if_neg (by omega)]; rfl
def stp (s bs : Nat → Nat) (i : Nat) : (Nat → Nat) × (Nat → Nat) :=
  Nat.rec (motive := fun _ => (Nat → Nat) × (Nat → Nat)) (s, fun _ => 0) (fun i p => (rnd p.1 (t1 p.1 (kN_at i) (wd p.2 bs i)) (t2 p.1), upd p.2 (i % 16) (wd p.2 bs i))) i
theorem stp_ok (s bs : Nat → Nat) : Stp s bs (stp s bs) := ⟨rfl, fun _ => rfl⟩
theorem rnq_ok {s : Nat → Nat} {N : Nat} {S : Nat → (Nat → Nat) × (Nat → Nat)} (hS : Stp s (Ce.byteAt N) S) : ∀ (ks : List Nat) (i : Nat) (q : List Nat), (∀ j k, ks[j]? = some k → k = kN_at (i + j)) → i + ks.length = 64 → q.length = 16 → (∀ j, j < 16 → gq q j = (S i).2 j) →
    ∀ (F : Nat → Nat), (S i).1 = F → rnq N ks i q (F 0) (F 1) (F 2) (F 3) (F 4) (F 5) (F 6) (F 7) = [(S 64).1 0, (S 64).1 1, (S 64).1 2, (S 64).1 3, (S 64).1 4, (S 64).1 5, (S 64).1 6, (S 64).1 7]
  | [], i, q, hk, hi, hq, hw, F, hF => by
    have : i = 64 := by simpa using hi
    subst this
    rw [hF, rnq_nil]
  | k :: ks, i, q, hk, hi, hq, hw, F, hF => by
    have hk0 : k = kN_at i := hk 0 k rfl
    subst hk0
    rw [zjk1]
    have hwd : wd (gq q) (Ce.byteAt N) i = wd (S i).2 (Ce.byteAt N) i := by
      unfold wd nw
      rw [hw (i % 16) (Nat.mod_lt _ (by decide)), hw ((i - 15) % 16) (Nat.mod_lt _ (by decide)), hw ((i - 7) % 16) (Nat.mod_lt _ (by decide)), hw ((i - 2) % 16) (Nat.mod_lt _ (by decide))]
    rw [hwd]
    have hs := hS.hs i
    have hF2 : (S (i + 1)).1 = rnd F (t1 F (kN_at i) (wd (S i).2 (Ce.byteAt N) i)) (t2 F) := by rw [hs, hF]
    have hW2 : (S (i + 1)).2 = upd (S i).2 (i % 16) (wd (S i).2 (Ce.byteAt N) i) := by rw [hs]
    clear hs
    have key := rnq_ok hS ks (i + 1) (q.set (i % 16) (wd (S i).2 (Ce.byteAt N) i)) (fun j k h => by rw [hk (j + 1) k h]; congr 1; omega) (by simp only [List.length_cons] at hi; omega) (by simp [hq]) (fun j hj => by
      rw [gq_set _ _ _ _ (by rw [hq]; exact Nat.mod_lt _ (by decide)), hW2, hw j hj, upd]) _ hF2
    generalize wd (S i).2 (Ce.byteAt N) i = x at *
    rw [rnd_0, rnd_4, show (7 : Nat) = 6 + 1 from rfl, rnd_s _ _ _ _ (by decide), show (6 : Nat) = 5 + 1 from rfl, rnd_s _ _ _ _ (by decide), show (5 : Nat) = 4 + 1 from rfl, rnd_s _ _ _ _ (by decide), show (3 : Nat) = 2 + 1 from rfl, rnd_s _ _ _ _ (by decide), show (2 : Nat) = 1 + 1 from rfl, rnd_s _ _ _ _ (by decide), show (1 : Nat) = 0 + 1 from rfl, rnd_s _ _ _ _ (by decide), t1_T, t2_T] at key
    exact key
def add8 (a b c d e f g h : Nat) (l : List Nat) : List Nat :=
  List.rec (motive := fun _ => List Nat) [] (fun x l _ => List.rec (motive := fun _ => List Nat) [] (fun y l _ => List.rec (motive := fun _ => List Nat) [] (fun z l _ => List.rec (motive := fun _ => List Nat) [] (fun w l _ => List.rec (motive := fun _ => List Nat) [] (fun x' l _ => List.rec (motive := fun _ => List Nat) [] (fun y' l _ => List.rec (motive := fun _ => List Nat) [] (fun z' l _ => List.rec (motive := fun _ => List Nat) [] (fun w' l _ =>
    [M32 (Nat.add x a), M32 (Nat.add y b), M32 (Nat.add z c), M32 (Nat.add w d), M32 (Nat.add x' e), M32 (Nat.add y' f), M32 (Nat.add z' g), M32 (Nat.add w' h)]) l) l) l) l) l) l) l) l
theorem add8_eq (a b c d e f g h x y z w x' y' z' w' : Nat) : add8 a b c d e f g h [x, y, z, w, x', y', z', w'] = [M32 (Nat.add x a), M32 (Nat.add y b), M32 (Nat.add z c), M32 (Nat.add w d), M32 (Nat.add x' e), M32 (Nat.add y' f), M32 (Nat.add z' g), M32 (Nat.add w' h)] := rfl
def shaQ (a b c d e f g h N : Nat) : List Nat := add8 a b c d e f g h (rnq N kN 0 [0, 0, 0, 0, 0, 0, 0, 0, 0, 0, 0, 0, 0, 0, 0, 0] a b c d e f g h)
end
end
theorem range8 : List.range 8 = [0, 1, 2, 3, 4, 5, 6, 7] := rfl
theorem shaQ_ok {s : Nat → Nat} {N : Nat} {S : Nat → (Nat → Nat) × (Nat → Nat)} (hS : Stp s (Ce.byteAt N) S) : (shaQ (s 0) (s 1) (s 2) (s 3) (s 4) (s 5) (s 6) (s 7) N).map W = sl8 (trn (S 64).1 s) := by
  have h := rnq_ok hS kN 0 [0, 0, 0, 0, 0, 0, 0, 0, 0, 0, 0, 0, 0, 0, 0, 0] (fun j k h => by
    unfold kN_at
    rw [Nat.zero_add, List.getD_eq_getElem?_getD, h, Option.getD_some]) rfl rfl (fun j hj => by
      rw [hS.h0]
      rcases j with _ | _ | _ | _ | _ | _ | _ | _ | _ | _ | _ | _ | _ | _ | _ | _ | j <;> first | rfl | omega) s (by rw [hS.h0])
  unfold shaQ
  rw [h, add8_eq]
  unfold sl8 trn
  rw [range8]
  simp only [List.map_cons, List.map_nil]
def unW (v : AV) : Option Nat := match v with | .int .u32 (.ofNat m) => some m | _ => none
theorem zsp {v : AV} {m : Nat} (h : unW v = some m) : v = W m := by
  unfold unW at h
  split at h
  · cases h; rfl
  · cases h
def unW8 (vs : List AV) : Option (List Nat) := match vs with
  | [a, b, c, d, e, f, g, h] => (match unW a, unW b, unW c, unW d, unW e, unW f, unW g, unW h with
    | some a, some b, some c, some d, some e, some f, some g, some h => some [a, b, c, d, e, f, g, h]
    | _, _, _, _, _, _, _, _ => none)
  | _ => none
theorem sl8_gq (a b c d e f g h : Nat) : sl8 (gq [a, b, c, d, e, f, g, h]) = [W a, W b, W c, W d, W e, W f, W g, W h] := rfl
theorem unW8_ok {vs : List AV} {l : List Nat} (hy : unW8 vs = some l) : ∃ a b c d e f g h, l = [a, b, c, d, e, f, g, h] ∧ vs = sl8 (gq l) := by
  unfold unW8 at hy
  split at hy
  · split at hy
    · next ha hb hc hd he hf hg hh =>
      cases hy
      refine ⟨_, _, _, _, _, _, _, _, rfl, ?_⟩
      rw [sl8_gq, zsp ha, zsp hb, zsp hc, zsp hd, zsp he, zsp hf, zsp hg, zsp hh]
    · cases hy
  · cases hy
def bytN (c : Ce) : Option Nat := match c with | .byt _ N => some N | .lst l => Ce.pack l
theorem bytN_ok {c : Ce} {N : Nat} (h : bytN c = some N) {j : Nat} (hj : j < c.l.length) : c.l[j]? = some (.int .u8 (Int.ofNat (Ce.byteAt N j))) := by
  have key : ∀ n, bytesL n N = c.l → c.l[j]? = some (.int .u8 (Int.ofNat (Ce.byteAt N j))) := fun n hn => by
    rw [← hn, Ce.bytesL_get, if_pos (by rw [← Ce.bytesL_length n N, hn]; exact hj), Ce.byteAt_eq]
  cases c with
  | byt n M => cases h; exact key n rfl
  | lst l => exact key _ (Ce.pack_some l N h)
def zkk1 (l : List Nat) (K : List AV → Option (AV × AH)) : Option (AV × AH) :=
  lrec (β := (List AV → Option (AV × AH)) → Option (AV × AH)) (fun K => K []) (fun a _ ih K => zzi (fun a => ih (fun l => K (W a :: l))) a) l K
theorem zit : ∀ (l : List Nat) (K : List AV → Option (AV × AH)), zkk1 l K = K (l.map W)
  | [], K => rfl
  | a :: l, K => by
    show zzi (fun a => zkk1 l (fun l => K (W a :: l))) a = _
    rw [zkj, zit l]; rfl
def sha8 (l : List Nat) (N : Nat) : List Nat := match l with
  | [a, b, c, d, e, f, g, h] => shaQ a b c d e f g h N
  | _ => []
def zmr (F : List Nat → Nat → List Nat) : XFn := fun args H => match args with
  | [.agg ws, .sl i o _ c _] => (match H.hide with
    | [] => (match unW8 ws, Nat.ble 64 c, H.subC i o 64 with
      | some l, true, some ce => (match bytN ce with
        | some N => zkk1 (F l N) (fun r => some (.agg r, H))
        | none => none)
      | _, _, _ => none)
    | _ :: _ => none)
  | _ => none
theorem sha8_eq (a b c d e f g h N : Nat) : sha8 [a, b, c, d, e, f, g, h] N = shaQ a b c d e f g h N := rfl
theorem zlk1 {s : Nat → Nat} {N : Nat} {S : Nat → (Nat → Nat) × (Nat → Nat)} (hS : Stp s (Ce.byteAt N) S) {a b c d e f g h : Nat} (h0 : s 0 = a) (h1 : s 1 = b) (h2 : s 2 = c) (h3 : s 3 = d) (h4 : s 4 = e) (h5 : s 5 = f) (h6 : s 6 = g) (h7 : s 7 = h) :
    (sha8 [a, b, c, d, e, f, g, h] N).map W = sl8 (trn (S 64).1 s) := by
  rw [sha8_eq, ← h0, ← h1, ← h2, ← h3, ← h4, ← h5, ← h6, ← h7]
  exact shaQ_ok hS
theorem sha8_ok (a b c d e f g h N : Nat) : ∃ S, Stp (gq [a, b, c, d, e, f, g, h]) (Ce.byteAt N) S ∧ (sha8 [a, b, c, d, e, f, g, h] N).map W = sl8 (trn (S 64).1 (gq [a, b, c, d, e, f, g, h])) :=
  ⟨_, stp_ok _ _, zlk1 (stp_ok _ _) rfl rfl rfl rfl rfl rfl rfl rfl⟩
def xTurned : XFn := zmr sha8
theorem concL_W (l : List Nat) (E E' : Env) : concL E (l.map W) = concL E' (l.map W) := by
  induction l with
  | nil => rfl
  | cons a l ih => simp only [List.map_cons, concL]; rw [ih]; rfl
theorem zkv (B : Nat) (F : List Nat → Nat → List Nat) (hF : ∀ a b c d e f g h N, ∃ S, Stp (gq [a, b, c, d, e, f, g, h]) (Ce.byteAt N) S ∧ (F [a, b, c, d, e, f, g, h] N).map W = sl8 (trn (S 64).1 (gq [a, b, c, d, e, f, g, h]))) : XOk Tryz.prog B 451 (zmr F) := by
  intro args H p hp E w us hw hS hus
  unfold zmr at hp
  split at hp
  · next ws i o n c op =>
    split at hp
    · next hh =>
      split at hp
      · next l ce hl hc hce =>
        split at hp
        · next N hN =>
          rw [zit] at hp
          cases hp
          have hc := Nat.le_of_ble_eq_true hc
          obtain ⟨a, b, c', d, e, f, g, h, rfl, rfl⟩ := unW8_ok hl
          unfold AH.subC at hce
          split at hce
          · next c0 e0 z0 op0 ro0 hg =>
            obtain ⟨h2, h3⟩ := (zwc _ _ _ _).1 (Ce.sub_l hce)
            have hlen : ce.l.length = 64 := by rw [h3, List.length_take, List.length_drop]; omega
            have hby : ∀ j, j < 64 → ld1 (.ptr i (o + j)) H = some (.int .u8 (Int.ofNat (Ce.byteAt N j))) := fun j hj => by
              have h4 := bytN_ok hN (j := j) (by omega)
              rw [h3, List.getElem?_take_of_lt hj, List.getElem?_drop] at h4
              rw [zul]
              unfold AH.read1 AH.row
              rw [hg]
              show nth c0.l (o + j) = _
              rw [zve]; exact h4
            obtain ⟨S, hS0, hA⟩ := hF a b c' d e f g h N
            have hT := zme1 hS0 (pn := n) (pop := op) (hw.get_lt hg) hc hby hh hw.lo
            generalize trn _ _ = q at hA hT
            generalize F _ _ = z at hA
            rw [hA]
            refine (zgr look_ok (zia B) hT E w us hw hS hus).ok fun v' H' u w1 ⟨hv, hx⟩ hd => ?_
            subst hv
            rw [← hA] at hd
            have := hd.drop hw hS hx.hw (fun E E' => by show conc E (.agg _) = conc E' (.agg _); simp only [conc]; rw [concL_W _ E E']) (z := H.fz) (fun h => ⟨hx.fz.trans h, h⟩)
            rw [hA] at this
            exact this
          · cases hce
        · cases hp
      · cases hp
    · cases hp
  · cases hp
theorem xTurned_ok (B : Nat) : XOk Tryz.prog B 451 xTurned := zkv B sha8 sha8_ok
end HS.Hs
namespace HS.Tm
set_option maxRecDepth 100000
def zdz : Code := bodyN look 552
def f552r0 : K2 :=
  .mv (.con .nilSl) (some (sOf 4)) <|
  .done
def zjt : K2 := .ln (fun xs _ => pickF xs) [(tO 8), (tO 16), (.con (.bool false))] (some (sOf 17)) <|
  .done
def zkt : K2 := .gd (sOf 8) true (some (sOf 16)) (.p2 (binF .eql (evBin look .eql 5 (.tmp 14) (.tmp 15))) (tO 14) (tO 15) (some (sOf 16)) <|
  zjt) zjt
def zez : K2 := .gd (sOf 8) true (some (sOf 15)) (.mv (tO 1) (some (sOf 15)) <|
  zkt) zkt
def zfz : K2 := .gd (sOf 8) true (some (sOf 14)) (.r1 ld1 (tO 13) (some (sOf 14)) <|
  zez) zez
def zgz : K2 := .gd (sOf 8) true (some (sOf 13)) (.p2 (ixS 1) (tO 9) (tO 12) (some (sOf 13)) <|
  zfz) zfz
def zhz : K2 := .gd (sOf 8) true (some (sOf 12)) (.p2 (binF .sub (evBin look .sub 3 (.tmp 11) (.const (.int .i64 (1))))) (tO 11) (.con (.int .i64 (1))) (some (sOf 12)) <|
  zgz) zgz
def ziz : K2 := .gd (sOf 8) true (some (sOf 11)) (.ln (fun xs H => fstO (zna .len look [28] xs H)) [(tO 10)] (some (sOf 11)) <|
  zhz) zhz
def zjz : K2 := .gd (sOf 8) true (some (sOf 10)) (.mv (tO 0) (some (sOf 10)) <|
  ziz) ziz
def f552r1 : K2 :=
  .mv (tO 0) (some (sOf 5)) <|
  .ln (fun xs H => fstO (zna .len look [28] xs H)) [(tO 5)] (some (sOf 6)) <|
  .p2 (binF .gtr (evBin look .gtr 3 (.tmp 6) (.const (.int .i64 (0))))) (tO 6) (.con (.int .i64 (0))) (some (sOf 7)) <|
  .mv (tO 7) (some (sOf 8)) <|
  .gd (sOf 8) true (some (sOf 9)) (.mv (tO 0) (some (sOf 9)) <|
  zjz) zjz
def f552r2 : K2 :=
  .mv (tO 0) (some (sOf 18)) <|
  .mv (tO 0) (some (sOf 19)) <|
  .ln (fun xs H => fstO (zna .len look [28] xs H)) [(tO 19)] (some (sOf 20)) <|
  .p2 (binF .sub (evBin look .sub 3 (.tmp 20) (.const (.int .i64 (1))))) (tO 20) (.con (.int .i64 (1))) (some (sOf 21)) <|
  .ls (fun xs _ => zkk look 28 false true false xs) [(tO 18), (tO 21)] (opN zdz 2 4) (some (sOf 22)) <|
  .mv (tO 22) (some (sOf 0)) <|
  .done
def f552l0 : C2 := (.seq (.seq (.reg f552r1)
  (.cond (tO 17) .skip (.exit 0)))
  (.block 1 (.reg f552r2)))
def f552b0 : Code := lpN zdz 0
theorem zne1 : comp look f552b0 = f552l0 := by kernel_rfl
def f552r3 : K2 :=
  .mv (tO 0) (some (sOf 23)) <|
  .mv (tO 23) (some (sOf 4)) <|
  .done
def f552c : C2 := (.seq (.reg f552r0)
  (.seq (.block 0 (.loop f552b0))
  (.seq (.reg f552r3)
  .ret)))
theorem f552_eq : fnF look 552 = some ⟨24, f552c, [.tmp 4]⟩ := by kernel_rfl
open Go.Ev
open Ra Rb Rc Rd Re Rf Rg Rh Ri Rj Rk Rl Rm Rn Ro Rp Rq Rr
theorem uT35 : look.under 28 = some (.slice 5) := by kernel_rfl
theorem zT5 : look.size 5 = some 1 := by kernel_rfl
theorem sl_hiO {L : Lk} {t e z : Nat} {i o n c : Nat} {op : Bool} {k : IntKind} {a : Nat} (ht : L.under t = some (.slice e)) (hz : L.size e = some z) (h1 : a ≤ c) (hc : 0 < c) :
    zkk L t false true false [.sl i o n c op, .int k (a : Int)] = some (.sl i o a c op) := by
  show zmg L t (.sl i o n c op) none (some (.int k (a : Int))) none = _
  unfold zmg
  rw [ht]
  show (match bndOf none 0 with | none => none | some l => _) = _
  show (match L.size e with | none => none | some z => (match some a with
        | none => none
        | some h => match Nat.ble 0 h && Nat.ble h c with
            | true => (match op with
              | false => some (AV.sl i (offOf c 0 o z) (h - 0) (c - 0) false)
              | true => match Nat.beq c 0 with
                | true => (match Nat.beq o 0 with | true => some (.ext 1 i (c * z + 1)) | false => none)
                | false => some (.sl i (o + 0 * z) (h - 0) (c - 0) true))
            | false => none)) = _
  rw [hz]
  simp only
  rw [show Nat.ble 0 a = true from Nat.ble_eq_true_of_le (Nat.zero_le _), show Nat.ble a c = true from Nat.ble_eq_true_of_le h1]
  simp only [Bool.and_self, Nat.sub_zero]
  have : offOf c 0 o z = o := by unfold offOf; cases Nat.beq c 0 <;> simp
  have hb : Nat.beq c 0 = false := by cases c with | zero => omega | succ c => rfl
  cases op with
  | false => rw [this]
  | true => rw [hb]; simp
theorem ixO {i o n c j : Nat} {op : Bool} {m : Int} (h : j < n) (hm : m = (j : Int)) : ixS 1 (.sl i o n c op) (.int .i64 m) = some (.ptr i (o + j)) := by
  subst hm
  show brec none (some (AV.ptr i (o + j * 1))) (Nat.blt j n) = _
  rw [show Nat.blt j n = true from by rw [Nat.blt_eq]; exact h]
  show some (AV.ptr i (o + j * 1)) = _
  rw [Nat.mul_one]
theorem lenO {H : AH} {i o n c : Nat} {op : Bool} : fstO (zna .len look [28] [.sl i o n c op] H) = some (.int .i64 (n : Int)) := rfl
theorem trim_ok {H : AH} {i o n c : Nat} {op : Bool} {g : Nat → Nat} (hn : n ≤ c) (hn2 : n ≤ 1000000) (hb : ∀ j, j < n → ld1 (.ptr i (o + j)) H = some (.int .u8 (Int.ofNat (g j)))) :
    FnE look 552 [.sl i o n c op, .int .u8 0] H fun r H' => (∃ m, r = .sl i o m c op ∧ m ≤ n ∧ (∀ j, m ≤ j → j < n → g j = 0) ∧ (m = 0 ∨ g (m - 1) ≠ 0)) ∧ H' = H := by
  refine zzb f552_eq noext rfl ?_
  unfold f552c
  (repeat' (first | refine Z ?_ | refine zaa (by decide) ?_ | ((first | refine' Y ?_ ?_ | refine' X ?_ ?_ ?_); rotate_left; (· (first | (simp (disch := omega) only [evl, Nat.reduceEqDiff, Nat.reduceAdd, reduceIte, reduceCtorEq] <;> exact rfl) | exact rfl)); all_goals try (refine fun (hb : _ = _) => ?_; try simp only [Zu, ne_eq, reduceCtorEq] at hb)) | (apply zba; · simp [evl])))
  refine rn_seq_n ?_
  refine rc_seq ?_
  refine rc_blk ?_
  refine zoh (R := fun ex T' H' => ex = .exit 0 ∧ (∃ m, gT T' 0 = .sl i o m c op ∧ m ≤ n ∧ (∀ j, m ≤ j → j < n → g j = 0) ∧ (m = 0 ∨ g (m - 1) ≠ 0)) ∧ H' = H) ?_ ?_
  · refine zxm zne1 (fun k T' H' => gT T' 0 = .sl i o k c op ∧ gT T' 1 = .int .u8 0 ∧ k ≤ n ∧ (∀ j, k ≤ j → j < n → g j = 0) ∧ H' = H) _ ?_ n _ _ ?_
    · rintro k T' H' ⟨e0, e1, hk, hz, rfl⟩
      unfold f552l0
      cases k with
      | zero =>
        have hl := fun H' : AH => @lenO H' i o 0 c op
        (repeat' (first | refine Z ?_ | refine Zq ?_ | refine zaa (by decide) ?_ | ((first | refine' Y ?_ ?_ | refine' X ?_ ?_ ?_); rotate_left; (· (first | (simp (disch := omega) only [evl, Nat.reduceEqDiff, Nat.reduceAdd, reduceIte, reduceCtorEq, e0, e1, hl] <;> exact rfl) | exact rfl)); all_goals try (refine fun (hb : _ = _) => ?_; try simp only [Zu, ne_eq, reduceCtorEq] at hb)) | (apply zba; · simp [evl])))
        all_goals try (refine zma ?_; refine lpq_e ?_; exact ⟨rfl, ⟨0, (by (first | (simp (disch := omega) only [evl, Nat.reduceEqDiff, Nat.reduceAdd, reduceIte, reduceCtorEq, e0] <;> exact rfl) | exact rfl)), Nat.zero_le _, hz, .inl rfl⟩, rfl⟩)
      | succ k =>
        have hl := fun H' : AH => @lenO H' i o (k + 1) c op
        have hix := ixO (i := i) (o := o) (n := k + 1) (c := c) (j := k) (op := op) (m := ((k + 1 : Nat) : Int) - 1) (by omega) (by omega)
        have hr := hb k (by omega)
        have hs := sl_hiO (L := look) (t := 28) (i := i) (o := o) (n := k + 1) (c := c) (op := op) (k := .i64) (a := k) uT35 zT5 (by omega) (by omega)
        rw [show (k : Int) = ((k + 1 : Nat) : Int) - 1 from by omega] at hs
        have hp : (0 : Int) < ((k + 1 : Nat) : Int) := by omega
        by_cases hg : g k = 0
        · rw [hg] at hr
          (repeat' (first | refine Z ?_ | refine Zq ?_ | refine zaa (by decide) ?_ | ((first | refine' Y ?_ ?_ | refine' X ?_ ?_ ?_); rotate_left; (· (first | (simp (disch := omega) only [evl, Nat.reduceEqDiff, Nat.reduceAdd, reduceIte, reduceCtorEq, e0, e1, hl, hix, hr, hs, hp] <;> exact rfl) | exact rfl)); all_goals try (refine fun (hb : _ = _) => ?_; try simp only [Zu, ne_eq, reduceCtorEq] at hb)) | (apply zba; · simp [evl])))
          all_goals try exact absurd rfl ‹¬ Int.ofNat 0 = 0›
          all_goals try (refine zma ?_; refine lpq_n k (by omega) ?_; exact ⟨(by (first | (simp (disch := omega) only [evl, Nat.reduceEqDiff, Nat.reduceAdd, reduceIte, reduceCtorEq] <;> exact rfl) | exact rfl)), (by (first | (simp (disch := omega) only [evl, Nat.reduceEqDiff, Nat.reduceAdd, reduceIte, reduceCtorEq, e1] <;> exact rfl) | exact rfl)), by omega, fun j h1 h2 => by rcases Nat.eq_or_lt_of_le h1 with rfl | h1; exact hg; exact hz j h1 h2, rfl⟩)
        · have hg' : ¬ (Int.ofNat (g k) = 0) := by simpa using hg
          have hg2 : ¬ ((g k : Int) = 0) := by omega
          (repeat' (first | refine Z ?_ | refine Zq ?_ | refine zaa (by decide) ?_ | ((first | refine' Y ?_ ?_ | refine' X ?_ ?_ ?_); rotate_left; (· (first | (simp (disch := omega) only [evl, Nat.reduceEqDiff, Nat.reduceAdd, reduceIte, reduceCtorEq, e0, e1, hl, hix, hr, hs, hp, hg', hg2] <;> exact rfl) | exact rfl)); all_goals try (refine fun (hb : _ = _) => ?_; try simp only [Zu, ne_eq, reduceCtorEq] at hb)) | (apply zba; · simp [evl])))
          all_goals try (refine zma ?_; refine lpq_e ?_; exact ⟨rfl, ⟨k + 1, (by (first | (simp (disch := omega) only [evl, Nat.reduceEqDiff, Nat.reduceAdd, reduceIte, reduceCtorEq, e0] <;> exact rfl) | exact rfl)), hk, hz, .inr hg⟩, rfl⟩)
    · exact ⟨(by (first | (simp (disch := omega) only [evl, Nat.reduceEqDiff, Nat.reduceAdd, reduceIte, reduceCtorEq] <;> exact rfl) | exact rfl)), (by (first | (simp (disch := omega) only [evl, Nat.reduceEqDiff, Nat.reduceAdd, reduceIte, reduceCtorEq] <;> exact rfl) | exact rfl)), Nat.le_refl _, fun j h1 h2 => absurd h2 (by omega), rfl⟩
  rintro ex T' H' ⟨rfl, ⟨m, e0, hm⟩, rfl⟩
  (repeat' (first | refine Z ?_ | refine Zq ?_ | refine zaa (by decide) ?_ | ((first | refine' Y ?_ ?_ | refine' X ?_ ?_ ?_); rotate_left; (· (first | (simp (disch := omega) only [evl, Nat.reduceEqDiff, Nat.reduceAdd, reduceIte, reduceCtorEq, e0] <;> exact rfl) | exact rfl)); all_goals try (refine fun (hb : _ = _) => ?_; try simp only [Zu, ne_eq, reduceCtorEq] at hb)) | (apply zba; · simp [evl])))
  refine zma ?_; refine zqc (zjc _ _) ⟨⟨m, ?_, hm⟩, rfl⟩
  (first | (simp (disch := omega) only [evl, Nat.reduceEqDiff, Nat.reduceAdd, reduceIte, reduceCtorEq, e0] <;> exact rfl) | exact rfl)
def trimN (n N : Nat) : Nat := brec (Nat.succ (Nat.div (Nat.log2 (Nat.mod N (Nat.pow 256 n))) 8)) 0 (Nat.beq (Nat.mod N (Nat.pow 256 n)) 0)
theorem p256 (k : Nat) : 256 ^ k = 2 ^ (8 * k) := by rw [Nat.pow_mul]
theorem zoe1 {n N m : Nat} (hm : m ≤ n) (hz : ∀ j, m ≤ j → j < n → Ce.B N j = 0) (hl : m = 0 ∨ Ce.B N (m - 1) ≠ 0) : m = trimN n N := by
  have hM : trimN n N = brec (Nat.succ (Nat.div (Nat.log2 (N % 256 ^ n)) 8)) 0 (Nat.beq (N % 256 ^ n) 0) := rfl
  rw [hM]
  have hlt : N % 256 ^ n < 256 ^ n := Nat.mod_lt _ (Nat.pow_pos (by decide))
  have hB : ∀ i, i < n → Ce.B N i = Ce.B (N % 256 ^ n) i := (Ce.mod_eq_iff N (N % 256 ^ n) n).1 (Nat.mod_mod _ _).symm
  generalize N % 256 ^ n = M at *
  have h1 : ∀ i, i < m → Ce.B M i = Ce.B (M % 256 ^ m) i := (Ce.mod_eq_iff M (M % 256 ^ m) m).1 (Nat.mod_mod _ _).symm
  have hlt2 : M % 256 ^ m < 256 ^ m := Nat.mod_lt _ (Nat.pow_pos (by decide))
  have hpw : 256 ^ m ≤ 256 ^ n := Nat.pow_le_pow_right (by decide) hm
  have h2 : M % 256 ^ n = (M % 256 ^ m) % 256 ^ n := (Ce.mod_eq_iff M (M % 256 ^ m) n).2 fun i hi => by
    rcases Nat.lt_or_ge i m with h | h
    · exact h1 i h
    · rw [← hB i hi, hz i h hi]
      unfold Ce.B
      rw [Nat.div_eq_of_lt (Nat.lt_of_lt_of_le hlt2 (Nat.pow_le_pow_right (by decide) h))]
  rw [Nat.mod_eq_of_lt hlt, Nat.mod_eq_of_lt (Nat.lt_of_lt_of_le hlt2 hpw)] at h2
  have hMm : M < 256 ^ m := by rw [h2]; exact hlt2
  cases m with
  | zero =>
    have : M = 0 := by simpa using hMm
    subst this; rfl
  | succ k =>
    have hk : Ce.B M k ≠ 0 := by
      rcases hl with h | h
      · cases h
      · rw [← hB k (by omega)]; simpa using h
    have hge : 256 ^ k ≤ M := by
      rcases Nat.lt_or_ge M (256 ^ k) with h | h
      · exact absurd (by unfold Ce.B; rw [Nat.div_eq_of_lt h]) hk
      · exact h
    have hne : M ≠ 0 := by
      have : 0 < 256 ^ k := Nat.pow_pos (by decide)
      omega
    have hb : Nat.beq M 0 = false := by cases M with | zero => exact absurd rfl hne | succ M => rfl
    rw [hb]
    show k + 1 = Nat.log2 M / 8 + 1
    rw [p256] at hge hMm
    have g1 := (Nat.le_log2 hne).2 hge
    have g2 := (Nat.log2_lt hne).2 hMm
    omega
def xTrim : XFn := fun args H => match args with
  | [.sl i o n c op, .int .u8 (.ofNat z)] => (match Nat.beq z 0, Nat.ble n c, Nat.ble n 1000000, H.subC i o n with
    | true, true, true, some ce => (match Hs.bytN ce with
      | some N => zzi (fun m => some (.sl i o m c op, H)) (trimN n N)
      | none => none)
    | _, _, _, _ => none)
  | _ => none
theorem xTrim_ok (B : Nat) : XOk Tryz.prog B 552 xTrim := by
  intro args H p hp E w us hw hS hus
  unfold xTrim at hp
  split at hp
  · next i o n c op z =>
    split at hp
    · next ce hz hc hn hce =>
      split at hp
      · next N hN =>
        rw [zkj] at hp
        cases hp
        have hz := Nat.eq_of_beq_eq_true hz
        subst hz
        have hc := Nat.le_of_ble_eq_true hc
        have hn := Nat.le_of_ble_eq_true hn
        unfold AH.subC at hce
        split at hce
        · next c0 e0 z0 op0 ro0 hg =>
          obtain ⟨h2, h3⟩ := (zwc _ _ _ _).1 (Ce.sub_l hce)
          have hlen : ce.l.length = n := by rw [h3, List.length_take, List.length_drop]; omega
          have hby : ∀ j, j < n → ld1 (.ptr i (o + j)) H = some (.int .u8 (Int.ofNat (Ce.byteAt N j))) := fun j hj => by
            have h4 := Hs.bytN_ok hN (j := j) (by omega)
            rw [h3, List.getElem?_take_of_lt hj, List.getElem?_drop] at h4
            rw [zul]
            unfold AH.read1 AH.row
            rw [hg]
            show nth c0.l (o + j) = _
            rw [zve]; exact h4
          have hT := trim_ok (op := op) hc hn hby
          refine (zgr look_ok (zia B) hT E w us hw hS hus).ok fun v' H' u w1 ⟨⟨m, hv, hm, hz, hl⟩, hx⟩ hd => ?_
          subst hx
          have e := zoe1 (N := N) hm (fun j h1 h2 => by rw [← Ce.byteAt_eq]; exact hz j h1 h2) (by rw [← Ce.byteAt_eq]; exact hl)
          rw [e] at hv
          rw [hv] at hd
          exact hd
        · cases hce
      · cases hp
    · cases hp
  · cases hp
end HS.Tm
end
