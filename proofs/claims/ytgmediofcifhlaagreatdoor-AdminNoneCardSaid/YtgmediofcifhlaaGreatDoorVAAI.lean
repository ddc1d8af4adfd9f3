import Derived.Test.YtgmediofcifhlaaGreatDoorVAAH
import Derived.Test.YtgmediofcifhlaaGreatDoorVAAE
import Derived.Test.YtgmediofcifhlaaGreatDoorVAAF
noncomputable section
set_option maxHeartbeats 8000000
set_option linter.unusedSimpArgs false
set_option linter.unusedVariables false
open Go Go.Proofs Go.RowKit
namespace HS.Us
open Go.Ev
open Ra Rb Rc Rd Re Rf Rg Rh Ri Rj Rk Rl Rm Rn Ro Rp Rq Rr
set_option maxRecDepth 100000
def hasV (x n : Int) : Option Bool := match binF .shr (evBin look .shr 229 (.tmp 9) (.tmp 11)) (.int .u64 x) (.int .i64 n) with
  | some (.int .u64 y) => (match binF .and (evBin look .and 229 (.tmp 12) (.const (.int .u64 (1)))) (.int .u64 y) (.int .u64 1) with
    | some (.int .u64 b) => some (FI.beq b 1)
    | _ => none)
  | _ => none
def zbs (x y : Int) : Option Bool := match binF .andNot (evBin look .andNot 229 (.tmp 14) (.tmp 18)) (.int .u64 x) (.int .u64 y) with
  | some (.int .u64 z) => some (FI.beq z 0)
  | _ => none
theorem ix0 (i o n c : Nat) (op : Bool) : ixS 1 (.sl i o (n + 1) c op) (.int .i64 0) = some (.ptr i o) := by kernel_rfl
theorem lnB (i o n c : Nat) (op : Bool) (H : AH) : fstO (zla .len look [167] [.sl i o n c op] H) = some (.int .i64 (n : Nat)) := by kernel_rfl
theorem lnL (i o n c : Nat) (op : Bool) (H : AH) : fstO (zla .len look [93] [.sl i o n c op] H) = some (.int .i64 (n : Nat)) := by kernel_rfl
theorem zat (H : AH) (i o c n : Nat) (op : Bool) (x : Int) (b : Bool) (hn : n < 64) (hr : ld1 (.ptr i o) H = some (.int .u64 x)) (hb : hasV x n = some b) :
    FnE look 118 [.sl i o 1 c op, .int .i64 (n : Nat)] H fun r H' => r = .bool b ∧ H' = H := by
  unfold hasV at hb
  split at hb
  · next y hy =>
    split at hb
    · next z hz =>
      cases hb
      have htd : ((n : Nat) : Int).tdiv 64 = 0 := by rw [Int.tdiv_eq_ediv_of_nonneg (by omega)]; omega
      have htm : ((n : Nat) : Int).tmod 64 = (n : Nat) := by rw [Int.tmod_eq_emod_of_nonneg (by omega)]; omega
      have hix := ix0 i o 0 c op
      have hf : FI.beq z 1 = decide (z = 1) := by rw [FI.beq_eq]; rfl
      rw [hf]
      refine zzb f118_eq noext rfl ?_
      unfold f118c
      (repeat' (first | refine Z ?_ | refine Zq ?_ | refine zaa (by decide) ?_ | ((first | refine' Y ?_ ?_ | refine' X ?_ ?_ ?_); rotate_left; (· (first | (simp (disch := omega) only [evl, Nat.reduceEqDiff, Nat.reduceAdd, reduceIte, reduceCtorEq, htd, htm, hix, hr, hy, hz] <;> exact rfl) | exact rfl)); all_goals try (refine fun (hb : _ = _) => ?_; try simp only [Zu, ne_eq, reduceCtorEq] at hb)) | (apply zba; · simp [evl])))
      refine zga ?_; refine zfc (zkc _ _) ⟨?_, rfl⟩
      (simp (disch := omega) only [evl, Nat.reduceEqDiff, Nat.reduceAdd, reduceIte, reduceCtorEq])
    · cases hb
  · cases hb
theorem zsd1 (H : AH) (i o c j q d : Nat) (op oq : Bool) (x y : Int) (b : Bool) (hr : ld1 (.ptr i o) H = some (.int .u64 x)) (hs : ld1 (.ptr j q) H = some (.int .u64 y)) (hb : zbs x y = some b) :
    FnE look 124 [.sl i o 1 c op, .sl j q 1 d oq] H fun r H' => r = .bool b ∧ H' = H := by
  unfold zbs at hb
  split at hb
  · next z hz =>
    cases hb
    have hf : FI.beq z 0 = decide (z = 0) := by rw [FI.beq_eq]; rfl
    rw [hf]
    have hix := ix0 i o 0 c op
    have hjx := ix0 j q 0 d oq
    have hlen := fun H' => lnB i o 1 c op H'
    refine zzb f124_eq noext rfl ?_
    unfold f124c
    (repeat' (first | refine Z ?_ | refine Zq ?_ | refine zaa (by decide) ?_ | ((first | refine' Y ?_ ?_ | refine' X ?_ ?_ ?_); rotate_left; (· (first | (simp (disch := omega) only [evl, Nat.reduceEqDiff, Nat.reduceAdd, reduceIte, reduceCtorEq, hlen] <;> exact rfl) | exact rfl)); all_goals try (refine fun (hb : _ = _) => ?_; try simp only [Zu, ne_eq, reduceCtorEq] at hb)) | (apply zba; · simp [evl])))
    refine zyf (R := fun ex T' H' => (ex = .exit 0 ∧ z = 0 ∧ H' = H) ∨ (ex = .ret ∧ z ≠ 0 ∧ gT T' 4 = .bool false ∧ H' = H)) ?_ ?_
    · refine zbk zrd1 (fun k T H' => H' = H ∧ gT T 7 = .int .i64 ((1 : Nat) : Int) ∧ ((k = 1 ∧ gT T 0 = .sl i o 1 c op ∧ gT T 1 = .sl j q 1 d oq ∧ gT T 8 = .int .i64 0) ∨ (k = 0 ∧ z = 0 ∧ gT T 8 = .int .i64 1))) _ ?_ 1 _ _ ?_
      · rintro k T H2 ⟨rfl, e7, ⟨rfl, e0, e1, e8⟩ | ⟨rfl, hz0, e8⟩⟩
        · unfold zuj1
          by_cases hzz : z = 0
          · have hzd : decide (z = 0) = true := decide_eq_true hzz
            (repeat' (first | refine Z ?_ | refine Zq ?_ | refine zaa (by decide) ?_ | ((first | refine' Y ?_ ?_ | refine' X ?_ ?_ ?_); rotate_left; (· (first | (simp (disch := omega) only [evl, Nat.reduceEqDiff, Nat.reduceAdd, reduceIte, reduceCtorEq, e0, e1, e7, e8, hix, hjx, hr, hs, hz, hzz] <;> exact rfl) | exact rfl)); all_goals try (refine fun (hb : _ = _) => ?_; try simp only [Zu, ne_eq, reduceCtorEq] at hb)) | (apply zba; · simp [evl])))
            refine zga ?_
            refine lpq_n 0 (by omega) ⟨rfl, ?_, .inr ⟨rfl, hzz, ?_⟩⟩
            · (simp (disch := omega) only [evl, Nat.reduceEqDiff, Nat.reduceAdd, reduceIte, reduceCtorEq, e7])
            · (simp (disch := omega) only [evl, Nat.reduceEqDiff, Nat.reduceAdd, reduceIte, reduceCtorEq, e8]); rfl
          · (repeat' (first | refine Z ?_ | refine Zq ?_ | refine zaa (by decide) ?_ | ((first | refine' Y ?_ ?_ | refine' X ?_ ?_ ?_); rotate_left; (· (first | (simp (disch := omega) only [evl, Nat.reduceEqDiff, Nat.reduceAdd, reduceIte, reduceCtorEq, e0, e1, e7, e8, hix, hjx, hr, hs, hz] <;> exact rfl) | exact rfl)); all_goals try (refine fun (hb : _ = _) => ?_; try simp only [Zu, ne_eq, reduceCtorEq] at hb)) | (apply zba; · simp [evl])))
            refine zga ?_
            refine lpq_r (.inr ⟨rfl, hzz, ?_, rfl⟩)
            (simp (disch := omega) only [evl, Nat.reduceEqDiff, Nat.reduceAdd, reduceIte, reduceCtorEq])
        · unfold zuj1
          (repeat' (first | refine Z ?_ | refine Zq ?_ | refine zaa (by decide) ?_ | ((first | refine' Y ?_ ?_ | refine' X ?_ ?_ ?_); rotate_left; (· (first | (simp (disch := omega) only [evl, Nat.reduceEqDiff, Nat.reduceAdd, reduceIte, reduceCtorEq, e7, e8] <;> exact rfl) | exact rfl)); all_goals try (refine fun (hb : _ = _) => ?_; try simp only [Zu, ne_eq, reduceCtorEq] at hb)) | (apply zba; · simp [evl])))
          refine zga ?_
          exact lpq_e (.inl ⟨rfl, hz0, rfl⟩)
      · refine ⟨rfl, ?_, .inl ⟨rfl, ?_, ?_, ?_⟩⟩
        · (simp (disch := omega) only [evl, Nat.reduceEqDiff, Nat.reduceAdd, reduceIte, reduceCtorEq])
        · (simp (disch := omega) only [evl, Nat.reduceEqDiff, Nat.reduceAdd, reduceIte, reduceCtorEq])
        · (simp (disch := omega) only [evl, Nat.reduceEqDiff, Nat.reduceAdd, reduceIte, reduceCtorEq])
        · (simp (disch := omega) only [evl, Nat.reduceEqDiff, Nat.reduceAdd, reduceIte, reduceCtorEq])
    · rintro ex T' H' (⟨rfl, hz0, rfl⟩ | ⟨rfl, hzn, e4, rfl⟩)
      · (repeat' (first | refine Z ?_ | refine Zq ?_ | refine zaa (by decide) ?_ | ((first | refine' Y ?_ ?_ | refine' X ?_ ?_ ?_); rotate_left; (· (first | (simp (disch := omega) only [evl, Nat.reduceEqDiff, Nat.reduceAdd, reduceIte, reduceCtorEq] <;> exact rfl) | exact rfl)); all_goals try (refine fun (hb : _ = _) => ?_; try simp only [Zu, ne_eq, reduceCtorEq] at hb)) | (apply zba; · simp [evl])))
        refine zga ?_; refine zfc (zkc _ _) ⟨?_, rfl⟩
        rw [decide_eq_true hz0]
        (simp (disch := omega) only [evl, Nat.reduceEqDiff, Nat.reduceAdd, reduceIte, reduceCtorEq])
      · (repeat' (first | refine Z ?_ | refine Zq ?_ | refine zaa (by decide) ?_ | ((first | refine' Y ?_ ?_ | refine' X ?_ ?_ ?_); rotate_left; (· (first | (simp (disch := omega) only [evl, Nat.reduceEqDiff, Nat.reduceAdd, reduceIte, reduceCtorEq, e4] <;> exact rfl) | exact rfl)); all_goals try (refine fun (hb : _ = _) => ?_; try simp only [Zu, ne_eq, reduceCtorEq] at hb)) | (apply zba; · simp [evl])))
        refine zga ?_; refine zfc (zkc _ _) ⟨?_, rfl⟩
        rw [decide_eq_false hzn]
        (simp (disch := omega) only [evl, Nat.reduceEqDiff, Nat.reduceAdd, reduceIte, reduceCtorEq, e4])
  · cases hb
theorem refd_ok (H : AH) (i o c n : Nat) (op : Bool) (x : Int) (b : Bool) (pi pl lb lo lk lc : Nat) (po qo : Nat) (lop : Bool) (hn : n < 64) (hk : n < lk) (hr : ld1 (.ptr i o) H = some (.int .u64 x)) (hi : ld1 (.ptr pi po) H = some (.int .i64 (n : Nat))) (hl : ld1 (.ptr pl qo) H = some (.sl lb lo lk lc lop)) (hbv : hasV x n = some b) :
    FnE look 117 [.sl i o 1 c op, .ptr pi po, .ptr pl qo] H fun r H' => r = .bool b ∧ H' = H := by
  refine zzb f117_eq noext rfl ?_
  unfold f117c
  have hlen := fun H' => lnL lb lo lk lc lop H'
  (repeat' (first | refine Z ?_ | refine Zq ?_ | refine zaa (by decide) ?_ | ((first | refine' Y ?_ ?_ | refine' X ?_ ?_ ?_); rotate_left; (· (first | (simp (disch := omega) only [evl, Nat.reduceEqDiff, Nat.reduceAdd, reduceIte, reduceCtorEq, hi, hl, hlen] <;> exact rfl) | exact rfl)); all_goals try (refine fun (hb : _ = _) => ?_; try simp only [Zu, ne_eq, reduceCtorEq] at hb)) | (apply zba; · simp [evl])))
  refine rk_cl (by (simp (disch := omega) only [evl, Nat.reduceEqDiff, Nat.reduceAdd, reduceIte, reduceCtorEq, hi]); exact zat H i o c n op x b hn hr hbv) ?_
  rintro r H1 ⟨rfl, rfl⟩
  simp only [zra]
  (repeat' (first | refine Z ?_ | refine Zq ?_ | refine zaa (by decide) ?_ | ((first | refine' Y ?_ ?_ | refine' X ?_ ?_ ?_); rotate_left; (· (first | (simp (disch := omega) only [evl, Nat.reduceEqDiff, Nat.reduceAdd, reduceIte, reduceCtorEq] <;> exact rfl) | exact rfl)); all_goals try (refine fun (hb : _ = _) => ?_; try simp only [Zu, ne_eq, reduceCtorEq] at hb)) | (apply zba; · simp [evl])))
  refine zga ?_; refine zfc (zkc _ _) ⟨?_, rfl⟩
  (simp (disch := omega) only [evl, Nat.reduceEqDiff, Nat.reduceAdd, reduceIte, reduceCtorEq])
theorem zvj1 (H : AH) (i o c j q d : Nat) (op oq : Bool) (x y : Int) (b : Bool) (pg po : Nat) (hr : ld1 (.ptr i o) H = some (.int .u64 x)) (hg : ld1 (.ptr pg po) H = some (.sl j q 1 d oq)) (hs : ld1 (.ptr j q) H = some (.int .u64 y)) (hbv : zbs x y = some b) :
    FnE look 123 [.sl i o 1 c op, .ptr pg po] H fun r H' => r = .bool b ∧ H' = H := by
  refine zzb f123_eq noext rfl ?_
  unfold f123c
  (repeat' (first | refine Z ?_ | refine Zq ?_ | refine zaa (by decide) ?_ | ((first | refine' Y ?_ ?_ | refine' X ?_ ?_ ?_); rotate_left; (· (first | (simp (disch := omega) only [evl, Nat.reduceEqDiff, Nat.reduceAdd, reduceIte, reduceCtorEq, hg] <;> exact rfl) | exact rfl)); all_goals try (refine fun (hb : _ = _) => ?_; try simp only [Zu, ne_eq, reduceCtorEq] at hb)) | (apply zba; · simp [evl])))
  refine rk_cl (by (simp (disch := omega) only [evl, Nat.reduceEqDiff, Nat.reduceAdd, reduceIte, reduceCtorEq, hg]); exact zsd1 H i o c j q d op oq x y b hr hs hbv) ?_
  rintro r H1 ⟨rfl, rfl⟩
  simp only [zra]
  (repeat' (first | refine Z ?_ | refine Zq ?_ | refine zaa (by decide) ?_ | ((first | refine' Y ?_ ?_ | refine' X ?_ ?_ ?_); rotate_left; (· (first | (simp (disch := omega) only [evl, Nat.reduceEqDiff, Nat.reduceAdd, reduceIte, reduceCtorEq] <;> exact rfl) | exact rfl)); all_goals try (refine fun (hb : _ = _) => ?_; try simp only [Zu, ne_eq, reduceCtorEq] at hb)) | (apply zba; · simp [evl])))
  refine zga ?_; refine zfc (zkc _ _) ⟨?_, rfl⟩
  (simp (disch := omega) only [evl, Nat.reduceEqDiff, Nat.reduceAdd, reduceIte, reduceCtorEq])
abbrev bT : Code := seqB (seqB zcb)
theorem cT : zcb = .seq (seqA zcb) (.seq (seqA (seqB zcb)) (.seq (.seq (seqA (seqA bT)) (.block 0 (.loop zif))) (.seq (.region 7 (opsOf (seqA (seqB bT))) false) .ret))) := by kernel_rfl
theorem cTa : comp look (seqA zcb) = .reg f116r0 := by kernel_rfl
theorem cTb : comp look (seqA (seqB zcb)) = .reg f116r1 := by kernel_rfl
theorem cTc : comp look (seqA (seqA bT)) = .reg f116r2 := by kernel_rfl
theorem cTl : zif = .seq (.region 3 (opsOf (seqA zif)) false) (seqB zif) := by kernel_rfl
theorem cTo : (opsOf (seqA zif)).toList = [opN zif 0 0, opN zif 0 1] := by kernel_rfl
theorem cTr : comp look (seqB zif) = (.seq (.cond (tO 11) .skip (.exit 0)) (.block 1 (.seq (.reg f116r4) (.seq (.reg f116r5) (.cond (tO 17) (.reg f116r6) .skip))))) := by kernel_rfl
theorem cTp : (opsOf (seqA (seqB bT))).toList = [opN zcb 7 0, opN zcb 7 1, opN zcb 7 2] := by kernel_rfl
theorem oT0 : (opN zcb 2 1).op = .range 163 (.tmp 8) := by kernel_rfl
theorem oT1 : (opN zif 0 0).op = .next (.tmp 9) false ∧ (opN zif 0 0).guard = none ∧ (opN zif 0 0).dst = some 10 := ⟨by kernel_rfl, by kernel_rfl, by kernel_rfl⟩
theorem oT2 : (opN zif 0 1).op = .extract (.tmp 10) 0 ∧ (opN zif 0 1).guard = none ∧ (opN zif 0 1).dst = some 11 := ⟨by kernel_rfl, by kernel_rfl, by kernel_rfl⟩
theorem oT3 : (opN zcb 4 0).op = .entry (.tmp 9) := by kernel_rfl
theorem oT4 : (opN zcb 7 0).op = .move (.tmp 5) ∧ (opN zcb 7 0).guard = none ∧ (opN zcb 7 0).dst = some 22 := ⟨by kernel_rfl, by kernel_rfl, by kernel_rfl⟩
theorem oT5 : (opN zcb 7 1).op = .call { callee := .value (.func 113), args := #[.tmp 22], argTypes := #[24] } ∧ (opN zcb 7 1).guard = none ∧ (opN zcb 7 1).dst = some 23 := ⟨by kernel_rfl, by kernel_rfl, by kernel_rfl⟩
theorem oT6 : (opN zcb 7 2).op = .assign (.tmp 23) ∧ (opN zcb 7 2).guard = none ∧ (opN zcb 7 2).dst = some 4 := ⟨by kernel_rfl, by kernel_rfl, by kernel_rfl⟩
theorem wTa : wfC 24 (seqA zcb) = true := by kernel_rfl
theorem wTb : wfC 24 (seqA (seqB zcb)) = true := by kernel_rfl
theorem wTc : wfC 24 (seqA (seqA bT)) = true := by kernel_rfl
theorem wTl : wfC 24 (seqB zif) = true := by kernel_rfl
theorem wTo : wfOps 24 (opsOf (seqA zif)) = true := by kernel_rfl
theorem wTp : wfOps 24 (opsOf (seqA (seqB bT))) = true := by kernel_rfl
theorem uL : look.under 163 = some (.map 192 167) := by kernel_rfl
theorem lT : ∃ fn, look.func 116 = some fn ∧ fn.body = some zcb ∧ fn.ntmps = 24 ∧ fn.results.toList = [.tmp 4] := ⟨Tryz.f116, by kernel_rfl, by kernel_rfl, by kernel_rfl, by kernel_rfl⟩
structure AccU (H0 H : AH) (j r : Nat) (ask : En → Bool) (ft : List En) (ck : Nat) (pk : List En) (acc : List Ad) (v : AV) : Prop where
  it : H.get r = some (.miter j ck (pk.map (·.2.2)) ck)
  src : H.get j = some (.map ft ck)
  pc : Pk ft pk
  kc : (pk.filter ask).map (·.1) = acc.map aV
  ap : Ap H v acc.length (aC acc) 192 2 H0.next
  hx : HX H0 H
theorem zry (H0 H : AH) (T : Tr AV) (j r g : Nat) (caps : List AV) (ask : En → Bool) (ft : List En) (ck : Nat) (ls : List Ad) (hM : MapA ft ck ls) (pk : List En) (acc : List Ad) (e : En) (he : e ∈ leftE ft (pk.map (·.2.2)))
    (hA : AccU H0 H j r ask ft ck pk acc (gT T 5)) (t1 : gT T 1 = .fn (.func g) [] caps) (t9 : gT T 9 = .ptr r 0) (t11 : gT T 11 = .bool true) (hj : j < H0.next) (hr : H0.next ≤ r) (hr2 : r < H.next) (hlo : H0.lo ≤ H0.next) (hh : H0.hide = []) (hal : ft.length ≤ 50000)
    (hcall : ∀ H', HX H0 H' → FnE look g (e.2.1 :: caps) H' fun q H'' => q = .bool (ask e) ∧ H'' = H') :
    RC look (comp look (seqB zif)) [] T (H.put r (.miter j ck (pk.map (·.2.2) ++ [e.2.2]) ck)) fun ex T' H' => ex = .normal ∧ gT T' 1 = .fn (.func g) [] caps ∧ gT T' 9 = .ptr r 0 ∧ r < H'.next ∧ ∃ acc', AccU H0 H' j r ask ft ck (pk ++ [e]) acc' (gT T' 5) := by
  obtain ⟨hit, hsrc, hpk, hks, hap, hx⟩ := hA
  obtain ⟨v, hv⟩ : ∃ v, gT T 5 = v := ⟨_, rfl⟩
  rw [hv] at hap
  obtain ⟨hme, _⟩ := mem_left.1 he
  obtain ⟨p, hpe⟩ := hM.key hme
  have hnx := hx.next
  have hhH : H.hide = [] := hx.hide.trans hh
  have hxB : HX H0 (H.put r (.miter j ck (pk.map (·.2.2) ++ [e.2.2]) ck)) := hx.put hr _
  have hpB : HP (· ≠ r) H (H.put r (.miter j ck (pk.map (·.2.2) ++ [e.2.2]) ck)) := HP.put _ _ _
  have hgB : (H.put r (.miter j ck (pk.map (·.2.2) ++ [e.2.2]) ck)).get r = some (.miter j ck (pk.map (·.2.2) ++ [e.2.2]) ck) := AH.get_put hhH _ _
  have hnB : (H.put r (.miter j ck (pk.map (·.2.2) ++ [e.2.2]) ck)).next = H.next := rfl
  generalize H.put r (.miter j ck (pk.map (·.2.2) ++ [e.2.2]) ck) = HB at *
  have hloB : HB.lo = H0.lo := hxB.lo
  have hhB : HB.hide = [] := hxB.hide.trans hh
  have hsB : HB.get j = some (.map ft ck) := (hpB.get (by omega) (by omega)).trans hsrc
  have hapB : Ap HB v acc.length (aC acc) 192 2 H0.next := hap.hp hpB fun i hi => by
    obtain ⟨_, ⟨rfl, _⟩ | ⟨i', rfl, hri, hN', _⟩⟩ := hap
    · cases hi
    · cases hi
      intro h; subst h
      obtain ⟨c, h1, _⟩ := hri
      rw [hit] at h1; cases h1
  have hev : zcj (.ptr r 0) HB = some (.tup [e.1, e.2.1]) := by
    show (match HB.get r with
      | some (.miter m _ seen last) => (match HB.get m, lastN seen with
        | some (.map es clock), some b => (match Nat.beq clock last, zrf b es with
          | true, some e => some (AV.tup [e.1, e.2.1])
          | _, _ => none)
        | _, _ => none)
      | _ => none) = _
    rw [hgB]
    simp only
    rw [hsB, zhk]
    simp only
    rw [show Nat.beq ck ck = true from Nat.beq_refl _, zhi hM.nd hme]
  rw [cTr]
  obtain ⟨H1, hal1, hx1, hn1, hr1⟩ := zkh (e := 192) (s := 2) (c := AV.toC (.agg [(.int .i64 (0)), (.int .i64 (0))])) hhB
  rw [toC_l] at hr1
  have hh1 : H1.hide = [] := hx1.hide.trans hhB
  obtain ⟨H2, hs2, hr2', hp2, hn2⟩ := Row.stN (L := look) (t := 192) (v := aV p) (s := 2) (k := 0) hr1 hh1 (by rw [hx1.lo, hloB]; omega) rfl (by rfl) (by decide)
  have hx02 : HX HB H2 := ((hx1.hp fun _ => True).trans hp2 (r := fun _ => True) fun i hi _ => ⟨trivial, by omega⟩).hx fun _ _ => trivial
  have hrX : Row H2 HB.next false false 192 2 (aC [p]) := hr2'
  have hbx := bRd hrX
  have hxT : HX H0 H2 := hxB.trans hx02
  have hh2 : H2.hide = [] := hxT.hide.trans hh
  have hnx2 := hx02.next
  (repeat' (first | refine Z ?_ | refine Zq ?_ | refine zaa (by decide) ?_ | ((first | refine' Y ?_ ?_ | refine' X ?_ ?_ ?_); rotate_left; (· (first | (simp (disch := omega) only [evl, Nat.reduceEqDiff, Nat.reduceAdd, reduceIte, reduceCtorEq, t11] <;> exact rfl) | exact rfl)); all_goals try (refine fun (hb : _ = _) => ?_; try simp only [Zu, ne_eq, reduceCtorEq] at hb)) | (apply zba; · simp [evl])))
  unfold f116r4
  refine rk_gh (v := AV.tup [e.1, e.2.1]) (H' := HB) ?_ ?_
  · rw [hIn_f, zgk oT3, t9, hev]; rfl
  simp only [zra]
  rw [hpe]
  (repeat' (first | refine Z ?_ | refine Zq ?_ | refine zaa (by decide) ?_ | ((first | refine' Y ?_ ?_ | refine' X ?_ ?_ ?_); rotate_left; (· (first | (simp (disch := omega) only [evl, Nat.reduceEqDiff, Nat.reduceAdd, reduceIte, reduceCtorEq] <;> exact rfl) | exact rfl)); all_goals try (refine fun (hb : _ = _) => ?_; try simp only [Zu, ne_eq, reduceCtorEq] at hb)) | (apply zba; · simp [evl])))
  refine rk_al hal1 ?_
  simp only [zra]
  apply rk_st
  · (simp (disch := omega) only [evl, Nat.reduceEqDiff, Nat.reduceAdd, reduceIte, reduceCtorEq])
    exact hs2
  simp only [zra]
  (repeat' (first | refine Z ?_ | refine Zq ?_ | refine zaa (by decide) ?_ | ((first | refine' Y ?_ ?_ | refine' X ?_ ?_ ?_); rotate_left; (· (first | (simp (disch := omega) only [evl, Nat.reduceEqDiff, Nat.reduceAdd, reduceIte, reduceCtorEq, t1] <;> exact rfl) | exact rfl)); all_goals try (refine fun (hb : _ = _) => ?_; try simp only [Zu, ne_eq, reduceCtorEq] at hb)) | (apply zba; · simp [evl])))
  refine rk_cn (g := g) (args := e.2.1 :: caps) (by (simp (disch := omega) only [evl, Nat.reduceEqDiff, Nat.reduceAdd, reduceIte, reduceCtorEq, t1]); first | rfl | (show some (Next1.enter g ([] ++ [e.2.1] ++ caps)) = _; rfl)) (hcall H2 hxT) ?_
  rintro q H3 ⟨rfl, rfl⟩
  simp only [zra]
  have hit3 : H3.get r = some (.miter j ck ((pk ++ [e]).map (·.2.2)) ck) := by
    rw [List.map_append]
    exact (hx02.get (by omega)).trans hgB
  have hsrc3 : H3.get j = some (.map ft ck) := (hx02.get (by omega)).trans hsB
  have hap3 : Ap H3 v acc.length (aC acc) 192 2 H0.next := hapB.hx hx02
  have hlen : acc.length ≤ 50000 := by
    have h1 := hpk.len
    have h2 : (pk.filter ask).length = acc.length := by
      have := congrArg List.length hks
      simpa using this
    have h3 : (pk.filter ask).length ≤ pk.length := List.length_filter_le _ _
    omega
  by_cases ha : ask e = true
  · rw [ha]
    obtain ⟨H5, hb5, hx5, hn5, hr5⟩ := bs_one (s := 2) (e := 192) (z := .agg [(.int .i64 (0)), (.int .i64 (0))]) (v := aV p) (H := H3) hh2 rfl rfl
    obtain ⟨new, hsrc', hnl⟩ := srcRow (z := 2) (n := 1) (c := 1) (op := false) hr5 rfl
    have hap5 := hap3.hx hx5
    obtain ⟨s', H6, happ, hap6, hp6, hn6, hne6⟩ := hap5.app (b := 16) (x := .sl H3.next 0 1 1 false) (m := 1) rfl hsrc' (zbx (by rw [hnl]; rfl)) (by rw [hnl]; rfl) (Nat.le_refl _) (by omega) (by omega) (hx5.hide.trans hh2) (by rw [hx5.lo, hxT.lo]; exact hlo) (by have := hx5.next; have := hxT.next; omega)
    have hx36 : HP (blkNe v) H3 H6 := (hx5.hp fun _ => True).trans hp6 (r := blkNe v) fun i hi h => ⟨trivial, h⟩
    have hrv : blkNe v r := by
      obtain ⟨_, ⟨rfl, _⟩ | ⟨i', rfl, hri, hN', _⟩⟩ := hap
      · exact zlh _
      · refine zrg ?_
        intro h; subst h
        obtain ⟨c, h1, _⟩ := hri
        rw [hit] at h1; cases h1
    have hsv : ∀ i, i < H0.next → blkNe v i := fun i hi => by
      obtain ⟨_, ⟨rfl, _⟩ | ⟨i', rfl, _, hN', _⟩⟩ := hap
      · exact zlh _
      · exact zrg (by omega)
    have hx6 : HX H0 H6 := ((hxT.hp fun _ => True).trans hx36 (r := fun _ => True) fun i hi _ => ⟨trivial, hsv i hi⟩).hx fun _ _ => trivial
    have hn36 := hx36.next
    (repeat' (first | refine Z ?_ | refine Zq ?_ | refine zaa (by decide) ?_ | ((first | refine' Y ?_ ?_ | refine' X ?_ ?_ ?_); rotate_left; (· (first | (simp (disch := omega) only [evl, Nat.reduceEqDiff, Nat.reduceAdd, reduceIte, reduceCtorEq, hv, hbx] <;> exact rfl) | exact rfl)); all_goals try (refine fun (hb : _ = _) => ?_; try simp only [Zu, ne_eq, reduceCtorEq] at hb)) | (apply zba; · simp [evl])))
    apply rk_hn
    · (simp (disch := omega) only [evl, Nat.reduceEqDiff, Nat.reduceAdd, reduceIte, reduceCtorEq, hv, hbx])
      exact hb5
    simp only [zra]
    (repeat' (first | refine Z ?_ | refine Zq ?_ | refine zaa (by decide) ?_ | ((first | refine' Y ?_ ?_ | refine' X ?_ ?_ ?_); rotate_left; (· (first | (simp (disch := omega) only [evl, Nat.reduceEqDiff, Nat.reduceAdd, reduceIte, reduceCtorEq] <;> exact rfl) | exact rfl)); all_goals try (refine fun (hb : _ = _) => ?_; try simp only [Zu, ne_eq, reduceCtorEq] at hb)) | (apply zba; · simp [evl])))
    apply rk_hn
    · (simp (disch := omega) only [evl, Nat.reduceEqDiff, Nat.reduceAdd, reduceIte, reduceCtorEq, hv])
      exact happ
    simp only [zra]
    (repeat' (first | refine Z ?_ | refine Zq ?_ | refine zaa (by decide) ?_ | ((first | refine' Y ?_ ?_ | refine' X ?_ ?_ ?_); rotate_left; (· (first | (simp (disch := omega) only [evl, Nat.reduceEqDiff, Nat.reduceAdd, reduceIte, reduceCtorEq] <;> exact rfl) | exact rfl)); all_goals try (refine fun (hb : _ = _) => ?_; try simp only [Zu, ne_eq, reduceCtorEq] at hb)) | (apply zba; · simp [evl])))
    refine zga ⟨rfl, (by (first | (simp (disch := omega) only [evl, Nat.reduceEqDiff, Nat.reduceAdd, reduceIte, reduceCtorEq, t1] <;> exact rfl) | exact rfl)), (by (first | (simp (disch := omega) only [evl, Nat.reduceEqDiff, Nat.reduceAdd, reduceIte, reduceCtorEq, t9] <;> exact rfl) | exact rfl)), by omega, acc ++ [p], ?_, ?_, hpk.step he, ?_, ?_, hx6⟩
    · exact (hx36.get (by omega) hrv).trans hit3
    · exact (hx36.get (by omega) (hsv j hj)).trans hsrc3
    · rw [List.filter_append, List.map_append, List.map_append, hks]
      rw [show [e].filter ask = [e] from by rw [List.filter_cons, if_pos ha]; rfl]
      show _ ++ [e.1] = _ ++ [aV p]
      rw [hpe]
    · (simp (disch := omega) only [evl, Nat.reduceEqDiff, Nat.reduceAdd, reduceIte, reduceCtorEq])
      rw [hnl, show AV.cells (aV p) = aC [p] from rfl, ← aC_app] at hap6
      simpa using hap6
  · have ha' : ask e = false := by cases h : ask e with | false => rfl | true => exact absurd h ha
    rw [ha']
    (repeat' (first | refine Z ?_ | refine Zq ?_ | refine zaa (by decide) ?_ | ((first | refine' Y ?_ ?_ | refine' X ?_ ?_ ?_); rotate_left; (· (first | (simp (disch := omega) only [evl, Nat.reduceEqDiff, Nat.reduceAdd, reduceIte, reduceCtorEq] <;> exact rfl) | exact rfl)); all_goals try (refine fun (hb : _ = _) => ?_; try simp only [Zu, ne_eq, reduceCtorEq] at hb)) | (apply zba; · simp [evl])))
    refine zga ⟨rfl, (by (first | (simp (disch := omega) only [evl, Nat.reduceEqDiff, Nat.reduceAdd, reduceIte, reduceCtorEq, t1] <;> exact rfl) | exact rfl)), (by (first | (simp (disch := omega) only [evl, Nat.reduceEqDiff, Nat.reduceAdd, reduceIte, reduceCtorEq, t9] <;> exact rfl) | exact rfl)), by omega, acc, hit3, hsrc3, hpk.step he, ?_, ?_, hxT⟩
    · rw [List.filter_append, show [e].filter ask = [] from by rw [List.filter_cons, if_neg ha]; rfl, List.append_nil]
      exact hks
    · (simp (disch := omega) only [evl, Nat.reduceEqDiff, Nat.reduceAdd, reduceIte, reduceCtorEq, hv])
      exact hap3
theorem Ap.slA {H : AH} {v : AV} {xs : List Ad} {N : Nat} (h : Ap H v xs.length (aC xs) 192 2 N) : SlA H v xs := by
  obtain ⟨h0, ⟨rfl, hn⟩ | ⟨i, rfl, ⟨c, hg, hcl⟩, hNi, hi⟩⟩ := h
  · exact .inl ⟨rfl, List.eq_nil_of_length_eq_zero hn⟩
  · refine .inr ⟨i, 0, _, _, rfl, hi, c, _, _, _, _, hg, ?_, ?_⟩
    · rw [hcl, zrk]; omega
    · rw [hcl, List.drop_zero, List.take_of_length_le (by rw [zrk]; omega)]
theorem zwj1 (B : Nat) (H : AH) (j g : Nat) (caps : List AV) (ask : En → Bool) (ft : List En) (ck : Nat) (ls : List Ad) (hM : MapA ft ck ls) (hgj : H.get j = some (.map ft ck)) (hj : j < H.next) (hlo : H.lo ≤ H.next) (hh : H.hide = []) (hal : ft.length ≤ 50000)
    (hcall : ∀ H', HX H H' → ∀ e ∈ ft, FnE look g (e.2.1 :: caps) H' fun q H'' => q = .bool (ask e) ∧ H'' = H') :
    FnN Tryz.prog B 116 [.map j, .fn (.func g) [] caps] H fun v H' => ∃ acc ks : List Ad, ((ft.filter ask).map (·.1)).Perm (acc.map aV) ∧ ks.Nodup ∧ (∀ q, q ∈ ks ↔ q ∈ acc) ∧ Srt H H' v ks := by
  obtain ⟨fn, h1, h2, h3, h4⟩ := lT
  refine zgf look_ok h1 h2 (by rw [h3]; simp) ?_
  rw [h3, h4, cT]
  have hx1 : HX H (H.new (.miter j ck [] ck)) := HX.new _ _
  have hg1 : (H.new (.miter j ck [] ck)).get H.next = some (.miter j ck [] ck) := AH.get_new hh _
  have hrM : zld look 163 (.map j) H = some (.ptr H.next 0, H.new (.miter j ck [] ck)) := by
    unfold zld
    rw [uL]
    simp only [hgj]
  refine zva (R1 := fun ex T' H' => ex = .normal ∧ gT T' 0 = .map j ∧ gT T' 1 = .fn (.func g) [] caps ∧ H' = H) ?_ ?_ (fun ex T2 H2 h hne => absurd h.1 hne)
  · refine zhb look_ok (zda B) wTa ?_
    rw [cTa]
    unfold f116r0
    (repeat' (first | refine Z ?_ | refine Zq ?_ | refine zaa (by decide) ?_ | ((first | refine' Y ?_ ?_ | refine' X ?_ ?_ ?_); rotate_left; (· (first | (simp (disch := omega) only [evl, Nat.reduceEqDiff, Nat.reduceAdd, reduceIte, reduceCtorEq] <;> exact rfl) | exact rfl)); all_goals try (refine fun (hb : _ = _) => ?_; try simp only [Zu, ne_eq, reduceCtorEq] at hb)) | (apply zba; · simp [evl])))
    exact zga ⟨rfl, (by (first | (simp (disch := omega) only [evl, Nat.reduceEqDiff, Nat.reduceAdd, reduceIte, reduceCtorEq] <;> exact rfl) | exact rfl)), (by (first | (simp (disch := omega) only [evl, Nat.reduceEqDiff, Nat.reduceAdd, reduceIte, reduceCtorEq] <;> exact rfl) | exact rfl)), rfl⟩
  rintro T1 H1 ⟨_, t0, t1, rfl⟩
  refine zva (R1 := fun ex T' H' => ex = .normal ∧ gT T' 0 = .map j ∧ gT T' 1 = .fn (.func g) [] caps ∧ gT T' 5 = .nilSl ∧ H' = H1) ?_ ?_ (fun ex T2 H2 h hne => absurd h.1 hne)
  · refine zhb look_ok (zda B) wTb ?_
    rw [cTb]
    unfold f116r1
    (repeat' (first | refine Z ?_ | refine Zq ?_ | refine zaa (by decide) ?_ | ((first | refine' Y ?_ ?_ | refine' X ?_ ?_ ?_); rotate_left; (· (first | (simp (disch := omega) only [evl, Nat.reduceEqDiff, Nat.reduceAdd, reduceIte, reduceCtorEq] <;> exact rfl) | exact rfl)); all_goals try (refine fun (hb : _ = _) => ?_; try simp only [Zu, ne_eq, reduceCtorEq] at hb)) | (apply zba; · simp [evl])))
    exact zga ⟨rfl, (by (first | (simp (disch := omega) only [evl, Nat.reduceEqDiff, Nat.reduceAdd, reduceIte, reduceCtorEq, t0] <;> exact rfl) | exact rfl)), (by (first | (simp (disch := omega) only [evl, Nat.reduceEqDiff, Nat.reduceAdd, reduceIte, reduceCtorEq, t1] <;> exact rfl) | exact rfl)), (by (first | (simp (disch := omega) only [evl, Nat.reduceEqDiff, Nat.reduceAdd, reduceIte, reduceCtorEq] <;> exact rfl) | exact rfl)), rfl⟩
  rintro T2 H2 ⟨_, t0, t1, t5, rfl⟩
  refine zva (R1 := fun ex T' H' => ex = .normal ∧ ∃ pk acc, AccU H2 H' j H2.next ask ft ck pk acc (gT T' 5) ∧ leftE ft (pk.map (·.2.2)) = []) ?_ ?_ (fun ex T2 H2 h hne => absurd h.1 hne)
  · refine zva (R1 := fun ex T' H' => ex = .normal ∧ gT T' 1 = .fn (.func g) [] caps ∧ gT T' 5 = .nilSl ∧ gT T' 9 = .ptr H2.next 0 ∧ H' = H2.new (.miter j ck [] ck)) ?_ ?_ (fun ex T2 H2 h hne => absurd h.1 hne)
    · refine zhb look_ok (zda B) wTc ?_
      rw [cTc]
      unfold f116r2
      (repeat' (first | refine Z ?_ | refine Zq ?_ | refine zaa (by decide) ?_ | ((first | refine' Y ?_ ?_ | refine' X ?_ ?_ ?_); rotate_left; (· (first | (simp (disch := omega) only [evl, Nat.reduceEqDiff, Nat.reduceAdd, reduceIte, reduceCtorEq, t0] <;> exact rfl) | exact rfl)); all_goals try (refine fun (hb : _ = _) => ?_; try simp only [Zu, ne_eq, reduceCtorEq] at hb)) | (apply zba; · simp [evl])))
      refine rk_gh (v := AV.ptr H2.next 0) (H' := H2.new (.miter j ck [] ck)) ?_ ?_
      · rw [hIn_f, zfk oT0]
        have h6 : ∀ T : Tr AV, gT T 8 = .map j → val2 (zld look 163 (gT T 8) H2) = some (.val (.ptr H2.next 0) (H2.new (.miter j ck [] ck))) := fun T hT => by rw [hT, hrM]; rfl
        exact h6 _ (by (simp (disch := omega) only [evl, Nat.reduceEqDiff, Nat.reduceAdd, reduceIte, reduceCtorEq, t0]))
      simp only [zra]
      (repeat' (first | refine Z ?_ | refine Zq ?_ | refine zaa (by decide) ?_ | ((first | refine' Y ?_ ?_ | refine' X ?_ ?_ ?_); rotate_left; (· (first | (simp (disch := omega) only [evl, Nat.reduceEqDiff, Nat.reduceAdd, reduceIte, reduceCtorEq] <;> exact rfl) | exact rfl)); all_goals try (refine fun (hb : _ = _) => ?_; try simp only [Zu, ne_eq, reduceCtorEq] at hb)) | (apply zba; · simp [evl])))
      exact zga ⟨rfl, (by (first | (simp (disch := omega) only [evl, Nat.reduceEqDiff, Nat.reduceAdd, reduceIte, reduceCtorEq, t1] <;> exact rfl) | exact rfl)), (by (first | (simp (disch := omega) only [evl, Nat.reduceEqDiff, Nat.reduceAdd, reduceIte, reduceCtorEq, t5] <;> exact rfl) | exact rfl)), (by (first | (simp (disch := omega) only [evl, Nat.reduceEqDiff, Nat.reduceAdd, reduceIte, reduceCtorEq] <;> exact rfl) | exact rfl)), rfl⟩
    rintro T3 H3 ⟨_, t1, t5, t9, rfl⟩
    refine zgg (R1 := fun ex T' H' => (ex = .exit 0) ∧ ∃ pk acc, AccU H2 H' j H2.next ask ft ck pk acc (gT T' 5) ∧ leftE ft (pk.map (·.2.2)) = []) ?_ ?_
    · refine zek (fun k T' H' => gT T' 1 = .fn (.func g) [] caps ∧ gT T' 9 = .ptr H2.next 0 ∧ H2.next < H'.next ∧ ∃ pk acc, k + pk.length = ft.length ∧ AccU H2 H' j H2.next ask ft ck pk acc (gT T' 5)) _ ?_ ft.length _ _ ?_
      · intro k T' H' ⟨t1, t9, hnx, pk, acc, hk, hA⟩
        rw [cTl]
        have hlen := hA.pc.len
        obtain ⟨w, hw⟩ : ∃ w, gT T' 5 = w := ⟨_, rfl⟩
        refine zva (R1 := fun ex T2 H3 => ex = .normal ∧ gT T2 1 = .fn (.func g) [] caps ∧ gT T2 9 = .ptr H2.next 0 ∧ gT T2 5 = w ∧ ((leftE ft (pk.map (·.2.2)) = [] ∧ gT T2 11 = .bool false ∧ H3 = H') ∨ ∃ e ∈ leftE ft (pk.map (·.2.2)), gT T2 11 = .bool true ∧ H3 = H'.put H2.next (.miter j ck (pk.map (·.2.2) ++ [e.2.2]) ck))) ?_ ?_ (fun ex T2 H2 h hne => absurd h.1 hne)
        · refine zib wTo ?_
          rw [cTo]
          have last : ∀ (T2 : Tr AV) (H3 : AH) (b : Bool) (vs : List AV), gT T2 1 = .fn (.func g) [] caps → gT T2 9 = .ptr H2.next 0 → gT T2 5 = w → gT T2 10 = .tup (.bool b :: vs) → ((leftE ft (pk.map (·.2.2)) = [] ∧ b = false ∧ H3 = H') ∨ ∃ e ∈ leftE ft (pk.map (·.2.2)), b = true ∧ H3 = H'.put H2.next (.miter j ck (pk.map (·.2.2) ++ [e.2.2]) ck)) →
              OpsN Tryz.prog B (opsOf (seqA zif)) 1 [opN zif 0 1] T2 H3 fun T3 H4 => Ex.normal = Ex.normal ∧ gT T3 1 = .fn (.func g) [] caps ∧ gT T3 9 = .ptr H2.next 0 ∧ gT T3 5 = w ∧ ((leftE ft (pk.map (·.2.2)) = [] ∧ gT T3 11 = .bool false ∧ H4 = H') ∨ ∃ e ∈ leftE ft (pk.map (·.2.2)), gT T3 11 = .bool true ∧ H4 = H'.put H2.next (.miter j ck (pk.map (·.2.2) ++ [e.2.2]) ck)) := by
            intro T2 H3 b vs s1 s9 s5 s10 hh2
            refine zrr (n := 0) look_ok (zda B) (at_of cTo 1 rfl) oT2.2.1 (v := .bool b) (H1 := H3) ?_ ?_
            · unfold zqa
              rw [zsg oT2.1 s10]
              rfl
            · rw [oT2.2.2]
              refine znd ⟨rfl, by rw [znb, if_neg (by decide)]; exact s1, by rw [znb, if_neg (by decide)]; exact s9, by rw [znb, if_neg (by decide)]; exact s5, ?_⟩
              rw [znb, if_pos rfl]
              rcases hh2 with ⟨a1, rfl, a3⟩ | ⟨e, a1, rfl, a3⟩
              · exact .inl ⟨a1, rfl, a3⟩
              · exact .inr ⟨e, a1, rfl, a3⟩
          refine zrm (at_of cTo 0 rfl) oT1.2.1 oT1.1 (r := H2.next) (m := j) (since := ck) (last := ck) (seen := pk.map (·.2.2)) (es := ft) (clock := ck) (by rw [zbb, t9]) (by rw [hA.hx.lo]; omega) hA.it hA.src (Nat.le_refl _) hM.born ?_ ?_
          · intro hl0
            rw [oT1.2.2]
            exact last _ _ false [] (by rw [znb, if_neg (by decide)]; exact t1) (by rw [znb, if_neg (by decide)]; exact t9) (by rw [znb, if_neg (by decide)]; exact hw) (by rw [znb, if_pos rfl]) (.inl ⟨hl0, rfl, rfl⟩)
          · intro e he
            rw [oT1.2.2]
            exact last _ _ true [e.1, e.2.1] (by rw [znb, if_neg (by decide)]; exact t1) (by rw [znb, if_neg (by decide)]; exact t9) (by rw [znb, if_neg (by decide)]; exact hw) (by rw [znb, if_pos rfl]) (.inr ⟨e, he, rfl, rfl⟩)
        · rintro T3 H3 ⟨_, s1, s9, s5, ⟨hl0, s11, rfl⟩ | ⟨e, he, s11, rfl⟩⟩
          · refine zhb look_ok (zda B) wTl ?_
            rw [cTr]
            (repeat' (first | refine Z ?_ | refine Zq ?_ | refine zaa (by decide) ?_ | ((first | refine' Y ?_ ?_ | refine' X ?_ ?_ ?_); rotate_left; (· (first | (simp (disch := omega) only [evl, Nat.reduceEqDiff, Nat.reduceAdd, reduceIte, reduceCtorEq, s11] <;> exact rfl) | exact rfl)); all_goals try (refine fun (hb : _ = _) => ?_; try simp only [Zu, ne_eq, reduceCtorEq] at hb)) | (apply zba; · simp [evl])))
            refine zga ?_
            refine lpq_e ⟨rfl, pk, acc, ?_, hl0⟩
            rw [s5, ← hw]; exact hA
          · refine zdk (zhb look_ok (zda B) wTl (zry H2 H' T3 j H2.next g caps ask ft ck ls hM pk acc e he (by rw [s5, ← hw]; exact hA) s1 s9 s11 hj (Nat.le_refl _) hnx hlo hh hal (fun H' hx => hcall H' hx e (mem_left.1 he).1))) ?_
            rintro ex T4 H4 ⟨rfl, u1, u9, hn4, acc', hA4⟩
            have := (hA.pc.step he).len
            simp only [List.length_append, List.length_singleton] at this
            exact lpq_n (k - 1) (by omega) ⟨u1, u9, hn4, _, _, by simp only [List.length_append, List.length_singleton]; omega, hA4⟩
      · refine ⟨t1, t9, Nat.lt_succ_self _, [], [], by simp, hg1, (hx1.get hj).trans hgj, Pk.nil _, rfl, ?_, hx1⟩
        rw [t5]
        exact ⟨rfl, .inl ⟨rfl, rfl⟩⟩
    · rintro ex T4 H4 ⟨rfl, pk, acc, hA, hl0⟩
      have hb : blkEx 0 (.exit 0) = .normal := rfl
      rw [hb]
      exact ⟨rfl, pk, acc, hA, hl0⟩
  rintro T3 H3 ⟨_, pk, acc, hA, hl0⟩
  have hperm : ((ft.filter ask).map (·.1)).Perm (acc.map aV) := by
    rw [← hA.kc]
    exact (((hA.pc.all hM.nd hl0).filter ask).map _).symm
  have hacc : acc.length ≤ 50000 := by
    have h1 := hperm.length_eq
    simp only [List.length_map] at h1
    have h2 : (ft.filter ask).length ≤ ft.length := List.length_filter_le _ _
    omega
  have hx3 := hA.hx
  refine zva (R1 := fun ex T' H' => ex = .normal ∧ ∃ ks, ks.Nodup ∧ (∀ q, q ∈ ks ↔ q ∈ acc) ∧ Srt H2 H' (gT T' 4) ks) ?_ ?_ (fun ex T2 H2 h hne => absurd h.1 hne)
  · refine zib wTp ?_
    rw [cTp]
    refine zbd look_ok (zda B) (at_of cTp 0 rfl) ⟨.inl oT4.1, oT4.2⟩ ?_
    refine znf look_ok (at_of cTp 1 rfl) oT5 (args := [gT T3 5]) ?_ (zby B H3 (gT T3 5) acc (Ap.slA hA.ap) (by rw [hx3.lo]; have := hx3.next; omega) (hx3.hide.trans hh) (by omega)) ?_
    · show mapO (opnd _) [.tmp 22] = _
      rw [zza, zoc, zbb, zab, if_pos rfl]; rfl
    rintro v H4 ⟨ks, hn, hm, ys, hp, hasc, hnl, H5, hx5, hap5, hmz⟩
    refine zbd look_ok (zda B) (at_of cTp 2 rfl) ⟨.inr oT6.1, oT6.2⟩ ?_
    refine znd ⟨rfl, ks, hn, hm, ?_⟩
    rw [zab, if_pos rfl, zab, if_pos rfl]
    have hnx3 := hx3.next
    exact ⟨ys, hp, hasc, hnl, H5, hx3.trans hx5, Ap.le hap5 (by omega), hmz⟩
  rintro T4 H4 ⟨_, ks, hn, hm, hs⟩
  exact zhb look_ok (zda B) rfl (rc_ret (zga (zfc (zkc _ _) ⟨acc, ks, hperm, hn, hm, hs⟩)))
def memN (b : Nat) : List Nat → Bool
  | [] => false
  | c :: l => match Nat.beq b c with | true => true | false => memN b l
theorem zsy (b : Nat) : ∀ l, memN b l = true ↔ b ∈ l
  | [] => by simp [memN]
  | c :: l => by
    unfold memN
    cases h : Nat.beq b c with
    | true => have := Nat.eq_of_beq_eq_true h; subst this; simp
    | false =>
      have hne : b ≠ c := fun e => by subst e; rw [Nat.beq_refl] at h; cases h
      simp only; rw [zsy b l, List.mem_cons]; simp [hne]
def chkM (ck : Nat) : List En → Option (List Ad)
  | [] => some []
  | (.agg [.int .i64 a, .int .i64 b], _, n) :: l => (match Nat.blt n ck, memN n (l.map (·.2.2)), chkM ck l with
    | true, false, some xs => some ((a, b) :: xs)
    | _, _, _ => none)
  | _ :: _ => none
theorem ztf1 (ck : Nat) : ∀ (l : List En) (xs : List Ad), chkM ck l = some xs → MapA l ck xs
  | [], xs, h => by
    unfold chkM at h
    cases h
    exact ⟨rfl, (fun e he => by cases he), List.nodup_nil⟩
  | (k, v, n) :: l, xs, h => by
    unfold chkM at h
    split at h
    · next he => cases he
    · next a b v' n' l' he =>
      cases he
      split at h
      · next ys h1 h2 h3 =>
        cases h
        have := ztf1 ck l ys h3
        rw [Nat.blt_eq] at h1
        refine ⟨by rw [List.map_cons, List.map_cons, this.keys], fun e he => ?_, ?_⟩
        · rcases List.mem_cons.1 he with rfl | he
          · exact h1
          · exact this.born e he
        · rw [List.map_cons]
          refine List.nodup_cons.2 ⟨fun hm => ?_, this.nd⟩
          rw [(zsy n _).2 hm] at h2; cases h2
      · cases h
    · cases h
def zty (H : AH) (g : Nat) (caps : List AV) (e : En) : Option Bool :=
  match Nat.beq g 117, Nat.beq g 123, caps, e.2.1 with
  | true, _, [.ptr pi po, .ptr pl qo], .sl i o 1 _ _ => (match ld1 (.ptr pi po) H, ld1 (.ptr pl qo) H, ld1 (.ptr i o) H with
    | some (.int .i64 (.ofNat n)), some (.sl _ _ k _ _), some (.int .u64 x) => (match Nat.blt n 64 && Nat.blt n k with | true => hasV x (.ofNat n) | false => none)
    | _, _, _ => none)
  | false, true, [.ptr pg po], .sl i o 1 _ _ => (match ld1 (.ptr pg po) H, ld1 (.ptr i o) H with
    | some (.sl j q 1 _ _), some (.int .u64 x) => (match ld1 (.ptr j q) H with | some (.int .u64 y) => zbs x y | _ => none)
    | _, _ => none)
  | _, _, _, _ => none
theorem ld1_lt {H : AH} (hw : H.Wf) {i o : Nat} {v : AV} (h : ld1 (.ptr i o) H = some v) : i < H.next := by
  rw [zoi] at h
  unfold AH.read1 AH.row at h
  cases hg : H.get i with
  | none => rw [hg] at h; cases h
  | some b => exact hw.get_lt hg
theorem zfu {H H' : AH} (hw : H.Wf) (hx : HX H H') {i o : Nat} {v : AV} (h : ld1 (.ptr i o) H = some v) : ld1 (.ptr i o) H' = some v := by
  have hi := ld1_lt hw h
  rw [zoi] at h ⊢
  unfold AH.read1 AH.row at h ⊢
  rw [hx.get hi]; exact h
theorem ztd1 {H H' : AH} (hw : H.Wf) (hx : HX H H') {g : Nat} {caps : List AV} {e : En} {b : Bool} (h : zty H g caps e = some b) :
    FnE look g (e.2.1 :: caps) H' fun q H'' => q = .bool b ∧ H'' = H' := by
  unfold zty at h
  split at h
  · next pi po pl qo i o c op h1 he =>
    split at h
    · next n lb lo k lc lop x hi hl hr =>
      split at h
      · next hc =>
        rw [Bool.and_eq_true, Nat.blt_eq, Nat.blt_eq] at hc
        have hg := Nat.eq_of_beq_eq_true h1
        subst hg
        rw [he]
        exact refd_ok H' i o c n op x b pi pl lb lo k lc po qo lop hc.1 hc.2 (zfu hw hx hr) (zfu hw hx hi) (zfu hw hx hl) h
      · cases h
    · cases h
  · next pg po i o c op h1 h2 he =>
    split at h
    · next j q d oq x hg hr =>
      split at h
      · next y hs =>
        have hg2 := Nat.eq_of_beq_eq_true h2
        subst hg2
        rw [he]
        exact zvj1 H' i o c j q d op oq x y b pg po (zfu hw hx hr) (zfu hw hx hg) (zfu hw hx hs) h
      · cases h
    · cases h
  · cases h
def pickU (H : AH) (g : Nat) (caps : List AV) : List En → Option (List Ad)
  | [] => some []
  | e :: l => (match zty H g caps e, pickU H g caps l with
    | some true, some xs => some (unA e.1 :: xs)
    | some false, some xs => some xs
    | _, _ => none)
def askB (H : AH) (g : Nat) (caps : List AV) (e : En) : Bool := match zty H g caps e with | some b => b | none => false
theorem zjq (H : AH) (g : Nat) (caps : List AV) : ∀ (l : List En) (xs : List Ad), pickU H g caps l = some xs → (∀ e ∈ l, zty H g caps e = some (askB H g caps e)) ∧ xs = (l.filter (askB H g caps)).map fun e => unA e.1
  | [], xs, h => by unfold pickU at h; cases h; exact ⟨(fun _ h => by cases h), rfl⟩
  | e :: l, xs, h => by
    unfold pickU at h
    split at h
    · next ys h1 h2 =>
      cases h
      obtain ⟨k1, k2⟩ := zjq H g caps l ys h2
      have hb : askB H g caps e = true := by unfold askB; rw [h1]
      refine ⟨fun e' he => ?_, ?_⟩
      · rcases List.mem_cons.1 he with rfl | he
        · rw [h1, hb]
        · exact k1 e' he
      · rw [List.filter_cons, if_pos hb, List.map_cons, k2]
    · next ys h1 h2 =>
      cases h
      obtain ⟨k1, k2⟩ := zjq H g caps l xs h2
      have hb : askB H g caps e = false := by unfold askB; rw [h1]
      refine ⟨fun e' he => ?_, ?_⟩
      · rcases List.mem_cons.1 he with rfl | he
        · rw [h1, hb]
        · exact k1 e' he
      · rw [List.filter_cons, if_neg (by rw [hb]; decide), k2]
    · cases h
def xThose : XFn := fun args H => match args with
  | [.map m, .fn (.func g) [] caps] => (match H.hide, H.get m with
    | [], some (.map es ck) => (match chkM ck es, pickU H g caps es, Nat.ble (len es) 50000 with
      | some _, some xs, true => some (outA (srtA (ddA xs)) H)
      | _, _, _ => none)
    | _, _ => none)
  | _ => none
theorem xThose_ok (B : Nat) : XOk Tryz.prog B 116 xThose := by
  intro args H p hp E w us hw hS hus
  unfold xThose at hp
  split at hp
  · next m g caps =>
    split at hp
    · next es ck hh hg =>
      split at hp
      · next ls xs hM hx hl =>
        cases hp
        rw [zsc] at hl
        have hl := Nat.le_of_ble_eq_true hl
        obtain ⟨k1, k2⟩ := zjq H g caps es xs hx
        refine (zwj1 B H m g caps (askB H g caps) es ck ls (ztf1 ck es ls hM) hg (hw.get_lt hg) hw.lo hh hl (fun H' hx' e he => ztd1 hw hx' (k1 e he)) E w us hw hS hus).ok fun v' H' u w1 ⟨acc, ks, hpm, hn, hm, hs⟩ hd => zfq hw hS hd hs (zcy hn fun q => ?_)
        rw [hm]
        have h1 : (((es.filter (askB H g caps)).map (·.1)).map unA).Perm ((acc.map aV).map unA) := hpm.map unA
        rw [zsx, List.map_map] at h1
        rw [k2]
        exact (h1.mem_iff (a := q)).symm
      · cases hp
    · cases hp
  · cases hp
end HS.Us
namespace Go.Ev
open Go.RowKit
def zcs (G rt : Nat) : XFn := fun args H => match args with
  | [.ifc t _] => some (.ifc rt (.agg [.ext 2 G t]), H)
  | [.nilIfc] => some (.nilIfc, H)
  | _ => none
theorem zuy {P : Program} {B : Nat} {f G rt : Nat} (hf : Bare P f Extern.ReflectliteType.typeOf) (hG : P.globals.size = G) (hr : ∃ n, P.cutTypes.find? (·.1 == "internal/reflectlite.rtype") = some (n, rt)) : XOk P B f (zcs G rt) := by
  intro args H p hp E w us hw hS hus
  obtain ⟨nm, hr⟩ := hr
  unfold zcs at hp
  split at hp
  · next t v =>
    cases hp
    have hu := hus E (Agree.refl _ _)
    subst hu
    unfold CallOk
    have : (callFunc f (concL E [.ifc t v]).toArray).run P w = .ok (.value (.iface rt (.agg #[.pointer (some ⟨G, t, none⟩)]))) w := by
      refine hf.run ?_
      show (Extern.ReflectliteType.typeOf #[Value.iface t (conc E v)]).run P w = _
      have hi : Extern.ReflectliteType.typeOf #[Value.iface t (conc E v)] = Extern.ReflectliteType.toType t := rfl
      rw [hi]
      unfold Extern.ReflectliteType.toType cutType Extern.Rtype.handle typeHandle
      simp only [Sem.run_bind, program, Sem.run, Result.andThen_ok, hr, Sem.run_pure, hG]
    rw [this]
    exact Done.same hw hS (fun _ _ => rfl)
  · cases hp
    have hu := hus E (Agree.refl _ _)
    subst hu
    unfold CallOk
    have : (callFunc f (concL E [.nilIfc]).toArray).run P w = .ok (.value .nilIface) w := hf.run rfl
    rw [this]
    exact Done.same hw hS (fun _ _ => rfl)
  · cases hp
def zhg (G : Nat) (tab : List (Nat × Bool)) : XFn := fun args H => match args with
  | [.agg [.ext 2 g t]] => (match Nat.beq g G, tab.lookup t with | true, some b => some (.bool b, H) | _, _ => none)
  | _ => none
def eComp : Array Value → Sem Value := Extern.ReflectliteType.method fun t => do Extern.Rtype.noPackHeld "Comparable" t; pure (Value.bool (← typeInfo t).comparable)
theorem zvy {l : List (Nat × Bool)} {t : Nat} {b : Bool} (h : l.lookup t = some b) : (t, b) ∈ l := by
  induction l with
  | nil => cases h
  | cons p l ih =>
    obtain ⟨k, c⟩ := p
    rw [List.lookup_cons] at h
    split at h
    · next hk => have := eq_of_beq hk; subst this; cases h; exact List.mem_cons_self
    · exact List.mem_cons_of_mem _ (ih h)
theorem zum {P : Program} {B : Nat} {f G : Nat} {tab : List (Nat × Bool)} {e : Array Value → Sem Value} (hf : Bare P f e)
    (ht : ∀ p ∈ tab, ∀ w, (e #[.agg #[.pointer (some ⟨G, p.1, none⟩)]]).run P w = .ok (.bool p.2) w) : XOk P B f (zhg G tab) := by
  intro args H p hp E w us hw hS hus
  unfold zhg at hp
  split at hp
  · next g t =>
    split at hp
    · next b hg hb =>
      cases hp
      have hg := Nat.eq_of_beq_eq_true hg
      subst hg
      have hu := hus E (Agree.refl _ _)
      subst hu
      unfold CallOk
      have : (callFunc f (concL E [.agg [.ext 2 g t]]).toArray).run P w = .ok (.value (.bool b)) w := hf.run (ht (t, b) (zvy hb) w)
      rw [this]
      exact Done.same hw hS (fun _ _ => rfl)
    · cases hp
  · cases hp
theorem cmp_nil {Q : Nat × Bool → Prop} : ∀ p ∈ ([] : List (Nat × Bool)), Q p := fun p h => by cases h
theorem zwy {P : Program} {e : Array Value → Sem Value} {G t : Nat} {b : Bool} {l : List (Nat × Bool)} (h : ∀ w, (e #[.agg #[.pointer (some ⟨G, t, none⟩)]]).run P w = .ok (.bool b) w)
    (hl : ∀ p ∈ l, ∀ w, (e #[.agg #[.pointer (some ⟨G, p.1, none⟩)]]).run P w = .ok (.bool p.2) w) : ∀ p ∈ (t, b) :: l, ∀ w, (e #[.agg #[.pointer (some ⟨G, p.1, none⟩)]]).run P w = .ok (.bool p.2) w := fun p hp => by
  rcases List.mem_cons.1 hp with rfl | hp
  · exact h
  · exact hl p hp
def dLook (dl : List Nat) (f : Nat) : Bool := lrec (β := Bool) false (fun a _ ih => brec ih true (Nat.beq a f)) dl
def lkD (P : Program) (fs : Tr Func) (ts : Tr TypeInfo) (tab : List (Nat × XFn)) (zl : List (Nat × Nat)) (dl : List Nat) : Lk :=
  { func := fun f => fs.get f, info := fun t => ts.get t, plainEq := fun t => !P.stoodInHeld t && !P.eqGuardType P.depth t, ext := fun f => xLook tab f, zt := fun t => zLook zl t, dfn := fun f => dLook dl f }
theorem lkD_ok {P : Program} {tab : List (Nat × XFn)} {zl : List (Nat × Nat)} {dl : List Nat} (hm : P.follows .mixedOrders = true) (hf : P.funcs.toList.all fitFn = true) (hz : zl.all (zFits P.types.toList) = true) : LOk (lkD P (Tr.ofList P.funcs.toList) (Tr.ofList P.types.toList) tab zl dl) P :=
  let h := zri1 (tab := tab) hm hf hz
  ⟨⟨h.info, h.plainEq, h.zt⟩, h.func, h.mixed⟩
theorem zud1 {P : Program} {fs : Tr Func} {ts : Tr TypeInfo} {tab : List (Nat × XFn)} {zl : List (Nat × Nat)} {dl : List Nat} {B : Nat} (h : ∀ p ∈ tab, XOk P B p.1 p.2) : ExtOk (lkD P fs ts tab zl dl) P B :=
  fun f g hg => h (f, g) (zfc1 hg)
def trOf (l : List (Nat × XFn)) : Tr XFn := lrec (β := Tr XFn) Tr.nil (fun p _ t => t.set p.1 p.2) l
def uTr (l : List Nat) : Tr Unit := lrec (β := Tr Unit) Tr.nil (fun k _ t => t.set k ()) l
def lkT (P : Program) (fs : Tr Func) (ts : Tr TypeInfo) (tab : Tr XFn) (zl : List (Nat × Nat)) (dt : Tr Unit) : Lk :=
  { func := fun f => fs.get f, info := fun t => ts.get t, plainEq := fun t => !P.stoodInHeld t && !P.eqGuardType P.depth t, ext := fun f => tab.get f, zt := fun t => zLook zl t, dfn := fun f => orec false (fun _ => true) (dt.get f) }
theorem lkT_ok {P : Program} {tab : Tr XFn} {zl : List (Nat × Nat)} {dt : Tr Unit} (hm : P.follows .mixedOrders = true) (hf : P.funcs.toList.all fitFn = true) (hz : zl.all (zFits P.types.toList) = true) : LOk (lkT P (Tr.ofList P.funcs.toList) (Tr.ofList P.types.toList) tab zl dt) P :=
  let h := zri1 (tab := []) hm hf hz
  ⟨⟨h.info, h.plainEq, h.zt⟩, h.func, h.mixed⟩
def TOk (P : Program) (t : Tr XFn) : Prop := ∀ B f g, t.get f = some g → XOk P B f g
theorem zds {P : Program} {fs : Tr Func} {ts : Tr TypeInfo} {tab : Tr XFn} {zl : List (Nat × Nat)} {dt : Tr Unit} (h : TOk P tab) (B : Nat) : ExtOk (lkT P fs ts tab zl dt) P B :=
  fun f g hg => h B f g hg
theorem TOk.set {P : Program} {t : Tr XFn} {f : Nat} {g : XFn} (ht : TOk P t) (h : ∀ B, XOk P B f g) : TOk P (t.set f g) := fun B f' g' he => by
  rw [Tr.get_set] at he
  split at he
  · next e => subst e; cases he; exact h B
  · exact ht B f' g' he
theorem TOk.of {P : Program} : ∀ (l : List (Nat × XFn)), (∀ B, ∀ p ∈ l, XOk P B p.1 p.2) → TOk P (trOf l)
  | [], _ => fun B f g he => by
    have he : (Tr.nil : Tr XFn).get f = some g := he
    rw [Tr.get_nil] at he; cases he
  | p :: l, h => (TOk.of l fun B q hq => h B q (List.mem_cons_of_mem _ hq)).set fun B => h B p List.mem_cons_self
end Go.Ev
namespace HS
open Go.Ev
set_option maxRecDepth 1000000
def zl : List (Nat × Nat) := [(25, 32), (26, 32), (402, 256), (403, 256), (510, 2), (511, 2), (512, 32)]
theorem hm0 : Tryz.prog.follows .mixedOrders = true := by kernel_rfl
theorem hf0 : Tryz.prog.funcs.toList.all fitFn = true := by kernel_rfl
theorem hz0 : zl.all (zFits Tryz.prog.types.toList) = true := by kernel_rfl
def dl : List Nat := [144, 156, 162, 197, 199, 213, 412]
def lk (tab : List (Nat × XFn)) : Lk := lkD Tryz.prog (Tr.ofList Tryz.prog.funcs.toList) (Tr.ofList Tryz.prog.types.toList) tab zl dl
theorem lk_ok (tab : List (Nat × XFn)) : LOk (lk tab) Tryz.prog := lkD_ok hm0 hf0 hz0
theorem zqe {P : Program} {B : Nat} {f : Nat} {g : XFn} {l : List (Nat × XFn)} (h : XOk P B f g) (hl : ∀ p ∈ l, XOk P B p.1 p.2) : ∀ p ∈ (f, g) :: l, XOk P B p.1 p.2 := fun p hp => by
  rcases List.mem_cons.1 hp with rfl | hp
  · exact h
  · exact hl p hp
theorem zxy {P : Program} {B f : Nat} {F : Fact} {l : List Fact} (h : XOk P B f F.fn) (hl : ∀ F ∈ l, XOk P B f F.fn) : ∀ G ∈ F :: l, XOk P B f G.fn := fun G hG => by
  rcases List.mem_cons.1 hG with rfl | hG
  · exact h
  · exact hl G hG
def fI (n : Nat) : AV := .int .i64 (.ofNat n)
def fI0 : AV := .int .i64 (.ofNat 0)
def fB0 : AV := .int .u8 (.ofNat 0)
def fU (n : Nat) : AV := .int .u64 (.ofNat n)
def fU0 : AV := .int .u64 (.ofNat 0)
def byL (n N : Nat) (r : List AV) : List AV := nrecF (α := Nat) (β := List AV) (fun _ => r) (fun _ ih N => zqi (fun M => AV.int .u8 (.ofNat (Nat.mod N 256)) :: ih M) (Nat.div N 256)) n N
def rpL (n : Nat) (a : AV) (r : List AV) : List AV := nrecF (α := Unit) (β := List AV) (fun _ => r) (fun _ ih u => a :: ih u) n ()
theorem s282 (B : Nat) : XOk Tryz.prog B 282 (Hs.xTurned) := Hs.xTurned_ok B
theorem s113 (B : Nat) : XOk Tryz.prog B 113 (zgd1) := zhd1 B
theorem s168 (B : Nat) : XOk Tryz.prog B 168 (zvr) := zdy B
theorem s400 (B : Nat) : XOk Tryz.prog B 400 (Tm.xTrim) := Tm.xTrim_ok B
theorem s116 (B : Nat) : XOk Tryz.prog B 116 (Us.xThose) := Us.xThose_ok B
theorem b408 : Bare Tryz.prog 408 Extern.ReflectliteType.typeOf := ⟨Tryz.f408, Tryz.func408, by kernel_rfl, by kernel_rfl, by kernel_rfl, by kernel_rfl⟩
theorem g408 : Tryz.prog.globals.size = 3 := by kernel_rfl
theorem c408 : Tryz.prog.cutTypes.find? (·.1 == "internal/reflectlite.rtype") = some ("internal/reflectlite.rtype", 497) := by kernel_rfl
theorem s408 (B : Nat) : XOk Tryz.prog B 408 (zcs 3 497) := by
  have h := @zuy Tryz.prog B 408 3 497 b408 g408 ⟨_, c408⟩
  exact h
theorem b456 : Bare Tryz.prog 456 eComp := ⟨Tryz.f456, Tryz.func456, by kernel_rfl, by kernel_rfl, by kernel_rfl, by kernel_rfl⟩
theorem c456_52 (w : World) : (eComp #[.agg #[.pointer (some ⟨3, 52, none⟩)]]).run Tryz.prog w = .ok (.bool true) w := by kernel_rfl
theorem zxj1 (w : World) : (eComp #[.agg #[.pointer (some ⟨3, 444, none⟩)]]).run Tryz.prog w = .ok (.bool true) w := by kernel_rfl
theorem s456 (B : Nat) : XOk Tryz.prog B 456 (zhg 3 [(52, true), (444, true)]) := by
  have h := @zum Tryz.prog B 456 3 [(52, true), (444, true)] eComp b456 (@zwy Tryz.prog eComp 3 52 true _ c456_52 (@zwy Tryz.prog eComp 3 444 true _ zxj1 (cmp_nil)))
  exact h
theorem b302 : Bare Tryz.prog 302 Extern.BytealgIndexByte.indexByte := ⟨Tryz.f302, Tryz.func302, by kernel_rfl, by kernel_rfl, by kernel_rfl, by kernel_rfl⟩
theorem s302 (B : Nat) : XOk Tryz.prog B 302 (zjh) := by
  have h := @zfo Tryz.prog B 302 b302
  exact h
theorem b317 : Bare Tryz.prog 317 Extern.BytealgCompare.compare := ⟨Tryz.f317, Tryz.func317, by kernel_rfl, by kernel_rfl, by kernel_rfl, by kernel_rfl⟩
theorem s317 (B : Nat) : XOk Tryz.prog B 317 (zlm) := by
  have h := @zwt Tryz.prog B 317 b317
  exact h
def tab0 : List (Nat × XFn) := [(282, Hs.xTurned), (113, zgd1), (168, zvr), (400, Tm.xTrim), (116, Us.xThose), (408, zcs 3 497), (456, zhg 3 [(52, true), (444, true)]), (302, zjh), (317, zlm)]
theorem zuf1 (B : Nat) : ∀ p ∈ tab0, XOk Tryz.prog B p.1 p.2 := zqe (s282 B) (zqe (s113 B) (zqe (s168 B) (zqe (s400 B) (zqe (s116 B) (zqe (s408 B) (zqe (s456 B) (zqe (s302 B) (zqe (s317 B) (fun _ h => by cases h)))))))))
def rgL (n a : Nat) (r : List AV) : List AV := nrecF (α := Nat) (β := List AV) (fun _ => r) (fun _ ih a => zqi (fun b => fI b :: ih (Nat.add b 1)) a) n a
abbrev LT := Tr XFn
def dT : Tr Unit := uTr dl
def lkt (t : LT) : Lk := lkT Tryz.prog (Tr.ofList Tryz.prog.funcs.toList) (Tr.ofList Tryz.prog.types.toList) t zl dT
theorem lkt_ok (t : LT) : LOk (lkt t) Tryz.prog := lkT_ok hm0 hf0 hz0
def T0 : LT := trOf tab0
abbrev LF := List Fact
def cT (l : List AV) (e z : Nat) : ABlk := .cells (.lst l) e z true false
def cF (l : List AV) (e z : Nat) : ABlk := .cells (.lst l) e z false false
def yT (n N e z : Nat) : ABlk := .cells (.byt n N) e z true false
def yF (n N e z : Nat) : ABlk := .cells (.byt n N) e z false false
def sT (i n : Nat) : AV := .sl i 0 n n true
def sF (i n : Nat) : AV := .sl i 0 n n false
def pP (i : Nat) : AV := .ptr i 0
def chk (t : LT) (f : Nat) (F : Fact) : Bool := F.ok && F.res (evF (lkt t) 1000000 (.call f F.args (hA F.pre)))
abbrev TO (t : LT) : Prop := TOk Tryz.prog t
theorem T0_ok : TO T0 := TOk.of _ zuf1
def LO (f : Nat) (l : LF) : Prop := ∀ B, ∀ G ∈ l, XOk Tryz.prog B f G.fn
theorem LO0 (f : Nat) : LO f [] := fun _ _ h => by cases h
theorem stp {t : LT} {l : LF} {f : Nat} {F : Fact} (ht : TO t) (hc : chk t f F = true) (hl : LO f l) : LO f (F :: l) ∧ TO (t.set f (facts (F :: l))) := by
  unfold chk at hc
  rw [Bool.and_eq_true] at hc
  have hl' : LO f (F :: l) := fun B => zxy (fact_ok (lkt_ok _) (zds ht) hc.1 (by rw [← zvt]; exact hc.2) B) (hl B)
  exact ⟨hl', ht.set fun B => zlx _ (hl' B)⟩
theorem zst {t : LT} {f : Nat} (ht : TO t) (hr : saysT (evF (lkt t) 1000000 (.call f [] H0)) = true) : (∀ B, XOk Tryz.prog B f zqk) ∧ TO (t.set f zqk) :=
  have h : ∀ B, XOk Tryz.prog B f zqk := fun B => zic1 (lkt_ok _) (zds ht) (by rw [← zvt]; exact hr)
  ⟨h, ht.set h⟩
end HS
end
