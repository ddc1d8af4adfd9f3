import Derived.Test.YtkihlgfcjhbgmaaGreatDoorVAAF
import Derived.Shelf.SlSortCmp.WholeK
import Derived.Ground.SlsfProg
import Derived.Ground.NamesProg
import Derived.Test.YtkihlgfcjhbgmaaGreatDoorProg
import Derived.RowKit
noncomputable section
set_option maxHeartbeats 8000000
set_option linter.unusedSimpArgs false
set_option linter.unusedVariables false
open Go Go.Ev Go.Proofs Go.RowKit
namespace HS
set_option maxRecDepth 100000
def zgd : Code := bodyN look 653
def f653r0 : K2 :=
  .m1 false (fun v H => alF v.toC 111 1 H) (tO 0) (some (sOf 2)) <|
  .mv (.con .nilSl) (some (sOf 4)) <|
  .done
def f653r1 : K2 :=
  .mv (tO 1) (some (sOf 6)) <|
  .done
def f653r2 : K2 :=
  .al false (alF (AV.toC (.agg [(.int .i64 (0)), (.int .i64 (0))])) 234 2) (some (sOf 5)) <|
  .st false (stN 2) (tO 5) (tO 7) none <|
  .done
def f653r3 : K2 :=
  .r1 ld1 (tO 2) (some (sOf 8)) <|
  .r1 (ldN 2) (tO 5) (some (sOf 9)) <|
  .hn false (fun xs H => bsF 2 1 (.agg [(.int .i64 (0)), (.int .i64 (0))]) 234 (zipF [0] xs) H) [(tO 9)] (some (sOf 10)) <|
  .hn false (appX 234 2 16) [(tO 8), (tO 10)] (some (sOf 11)) <|
  .st false (st1 look 111) (tO 2) (tO 11) none <|
  .done
def f653l0 : C2 := (.reg f653r2)
def znf : Code := lpN zgd 0
theorem zrd1 : comp look znf = f653l0 := by kernel_rfl
def f653l1 : C2 := (.block 1 (.reg f653r3))
def zof : Code := lpN zgd 1
theorem zsd1 : comp look zof = f653l1 := by kernel_rfl
def f653r4 : K2 :=
  .r1 ld1 (tO 2) (some (sOf 12)) <|
  .mv (tO 12) (some (sOf 4)) <|
  .done
def zse : Code := bodyN look 625
def f625r0 : K2 :=
  .r1 ld1 (tO 1) (some (sOf 4)) <|
  .gh false (opN zse 0 1) (some (sOf 5)) <|
  .done
def f625r2 : K2 :=
  .gh false (opN zse 2 0) (some (sOf 8)) <|
  .p1 (exN 0) (tO 8) (some (sOf 9)) <|
  .al false (alF (AV.toC (.agg [(.int .i64 (0)), (.int .i64 (0))])) 234 2) (some (sOf 3)) <|
  .st false (stN 2) (tO 3) (tO 9) none <|
  .done
def f625r3 : K2 :=
  .mv (tO 0) (some (sOf 10)) <|
  .r1 (ldN 2) (tO 3) (some (sOf 11)) <|
  .cn false (fun xs _ => zdd (hd xs) (tl xs)) [(tO 10), (tO 11)] (some (sOf 12)) <|
  .p1 notF (tO 12) (some (sOf 13)) <|
  .done
def zde : Code := lpN zse 0
def zte : Code := bodyN look 528
def f528r0 : K2 :=
  .mv (tO 1) (some (sOf 6)) <|
  .gh false (opN zte 0 1) (some (sOf 7)) <|
  .done
def f528r2 : K2 :=
  .gh false (opN zte 2 0) (some (sOf 10)) <|
  .p1 (exN 0) (tO 10) (some (sOf 11)) <|
  .p1 (exN 1) (tO 10) (some (sOf 12)) <|
  .al false (alF (AV.toC (.agg [(.int .i64 (0)), (.int .i64 (0))])) 234 2) (some (sOf 4)) <|
  .al false (alF (AV.toC (.agg [])) 460 0) (some (sOf 5)) <|
  .st false (stN 2) (tO 4) (tO 11) none <|
  .st false (stN 0) (tO 5) (tO 12) none <|
  .done
def f528r3 : K2 :=
  .mv (tO 0) (some (sOf 13)) <|
  .r1 (ldN 2) (tO 4) (some (sOf 14)) <|
  .r1 (ldN 0) (tO 5) (some (sOf 15)) <|
  .hn false (fun xs H => unitF (zoa look 545 (hd xs) (hd (tl xs)) (hd (tl (tl xs))) H)) [(tO 13), (tO 14), (tO 15)] none <|
  .done
def zkf : Code := lpN zte 0
open Go Go.Proofs Go.RowKit
open Go.Ev
open Ra Rb Rc Rd Re Rf Rg Rh Ri Rj Rk Rl Rm Rn Ro Rp Rq Rr
abbrev Ad := Int × Int
abbrev aV (p : Ad) : AV := .agg [.int .i64 p.1, .int .i64 p.2]
def aC : List Ad → List AV
  | [] => []
  | p :: l => .int .i64 p.1 :: .int .i64 p.2 :: aC l
abbrev aG (l : List Ad) (k : Nat) : Ad := l.getD k (0, 0)
theorem zkp (l : List Ad) : (aC l).length = l.length * 2 := by
  induction l with
  | nil => rfl
  | cons p l ih => simp [aC, ih]; omega
theorem aC_app (l m : List Ad) : aC (l ++ m) = aC l ++ aC m := by
  induction l with
  | nil => rfl
  | cons p l ih => simp [aC, ih]
theorem zqy : ∀ (l : List Ad) {k : Nat}, k < l.length → ((aC l).drop (k * 2)).take 2 = [.int .i64 (aG l k).1, .int .i64 (aG l k).2]
  | p :: l, 0, _ => rfl
  | p :: l, k + 1, h => by
    rw [show (k + 1) * 2 = (k * 2) + 1 + 1 from by omega]
    exact zqy l (by simpa using h)
theorem aRd {H : AH} {i e z k : Nat} {ro op : Bool} {l : List Ad} (h : Row H i ro op e z (aC l)) (hk : k < l.length) : ldN 2 (.ptr i (k * 2)) H = some (aV (aG l k)) := by
  obtain ⟨c, h1, h2⟩ := h.rdN (o := k * 2) (s := 2) (by rw [zkp]; omega)
  rw [zqy l hk] at h2
  rw [h1, zgp h2 (fun n hn => by cases hn)]
theorem bRd {H : AH} {i e z : Nat} {ro op : Bool} {p : Ad} (h : Row H i ro op e z (aC [p])) : ldN 2 (.ptr i 0) H = some (aV p) := by
  have := aRd (k := 0) h (by simp)
  simpa using this
abbrev zhr (H : AH) (l : Nat) (bk : Nat) : Prop := ∃ T : Tr AV, gT T 2 = .ptr bk 0 ∧ H.get l = some (.loop .ready none T 0 [7] znf zof)
theorem sp_one (d : Tmp) (v : AV) (T : Tr AV) : zkc [(d, v)] T = T.set d v := rfl
theorem z22 : look.size 111 = some 1 := by kernel_rfl
theorem Ap.le {H : AH} {s : AV} {n e z N N' : Nat} {l : List AV} (h : Ap H s n l e z N) (hN : N' ≤ N) : Ap H s n l e z N' := by
  obtain ⟨h0, h | ⟨i, h1, h2, h3, h4⟩⟩ := h
  · exact ⟨h0, .inl h⟩
  · exact ⟨h0, .inr ⟨i, h1, h2, by omega, h4⟩⟩
theorem zwq (H : AH) (s : AV) (acc : List Ad) (x : Ad) (l bk N : Nat) (hl : zhr H l bk) (hr : Row H bk false false 111 1 [s]) (hap : Ap H s acc.length (aC acc) 234 2 N) (hbN : bk < N) (hlN : l < N) (hlb : l ≠ bk) (hN : N ≤ H.next) (hlo : H.lo ≤ bk) (hlo2 : H.lo ≤ l) (hh : H.hide = []) (hal : acc.length ≤ 100000) :
    RdE look l [aV x] H fun r H' => r = .bool true ∧ zhr H' l bk ∧ (∃ s', Row H' bk false false 111 1 [s'] ∧ Ap H' s' (acc ++ [x]).length (aC (acc ++ [x])) 234 2 N) ∧ HP (fun j => blkNe s j ∧ j ≠ bk ∧ j ≠ l) H H' := by
  obtain ⟨T0, hT2, hg⟩ := hl
  refine rd_n hlo2 hg rfl zrd1 zsd1 ?_
  obtain ⟨H1, hal1, hx1, hn1, hr1⟩ := zmi (e := 234) (s := 2) (c := AV.toC (.agg [(.int .i64 (0)), (.int .i64 (0))])) hh
  rw [toC_l] at hr1
  have hh1 : H1.hide = [] := hx1.hide.trans hh
  obtain ⟨H2, hs2, hr2, hp2, hn2⟩ := Row.stN (L := look) (t := 234) (v := aV x) (s := 2) (k := 0) hr1 hh1 (by rw [hx1.lo]; omega) rfl (by rfl) (by decide)
  have hp02 : HP (fun _ => True) H H2 := (hx1.hp fun _ => True).trans hp2 (r := fun _ => True) fun j hj _ => ⟨trivial, by omega⟩
  have hrX : Row H2 H.next false false 234 2 (aC [x]) := hr2
  unfold f653l0
  unfold f653r2
  have hsp0 : zkc (List.zip [7] [aV x]) T0 = T0.set 7 (aV x) := by
    rw [show List.zip [7] [aV x] = [((7 : Nat), aV x)] from by simp]
    exact sp_one _ _ _
  have hsp : ∀ k, gT (zkc (List.zip [7] [aV x]) T0) k = gT (T0.set 7 (aV x)) k := fun _ => by rw [hsp0]
  have h7 : gT (zkc (List.zip [7] [aV x]) T0) 7 = aV x := by rw [hsp, zcb, if_pos rfl]
  have h2 : gT (zkc (List.zip [7] [aV x]) T0) 2 = .ptr bk 0 := by rw [hsp, zcb, if_neg (by decide)]; exact hT2
  generalize zkc (List.zip [7] [aV x]) T0 = T1 at *
  refine rc_reg ?_
  refine rk_al hal1 ?_
  simp only [zpa]
  apply rk_st
  · (simp (disch := omega) only [evl, Nat.reduceEqDiff, Nat.reduceAdd, reduceIte, reduceCtorEq, h7])
    exact hs2
  simp only [zpa]
  refine rk_done ?_
  have hg2 : H2.get l = some (.loop .ready none T0 0 [7] znf zof) := by rw [hp02.get (by omega) trivial]; exact hg
  have hh2 : H2.hide = [] := hp02.hide.trans hh
  have hlo2' : H2.lo = H.lo := hp02.lo
  have hnx2 : H.next + 1 = H2.next := by omega
  refine zma ⟨rfl, T0, 0, [7], znf, zof, hg2, ?_⟩
  unfold f653l1
  have hpB : HP (· ≠ l) H2 (H2.put l (.loop .busy none T0 0 [7] znf zof)) := HP.put _ _ _
  have hhB : (H2.put l (.loop .busy none T0 0 [7] znf zof)).hide = [] := hh2
  have hgB : (H2.put l (.loop .busy none T0 0 [7] znf zof)).get l = some (.loop .busy none T0 0 [7] znf zof) := AH.get_put hh2 _ _
  have hnB : (H2.put l (.loop .busy none T0 0 [7] znf zof)).next = H2.next := rfl
  have hloB : (H2.put l (.loop .busy none T0 0 [7] znf zof)).lo = H2.lo := rfl
  generalize H2.put l (.loop .busy none T0 0 [7] znf zof) = HB at *
  have hrB := (hr.hp hp02 (by omega) trivial).hp hpB (by omega) (fun h => hlb h.symm)
  have hrXB := hrX.hp hpB (by omega) (by omega)
  have hapB := (hap.hp hp02 fun _ _ => trivial).hp hpB fun i hi => by
    obtain ⟨_, ⟨rfl, _⟩ | ⟨i', rfl, _, hN', _⟩⟩ := hap
    · cases hi
    · cases hi; omega
  have hbk : ld1 (.ptr bk 0) HB = some s := hrB.rd rfl
  have hbx : ldN 2 (.ptr H.next 0) HB = some (aV x) := bRd hrXB
  obtain ⟨H5, hb5, hx5, hn5, hr5⟩ := bs_one (s := 2) (e := 234) (z := .agg [(.int .i64 (0)), (.int .i64 (0))]) (v := aV x) (H := HB) hhB rfl rfl
  obtain ⟨new, hsrc, hnl⟩ := srcRow (z := 2) (n := 1) (c := 1) (op := false) hr5 rfl
  have hap5 := hapB.hx hx5
  obtain ⟨s', H6, happ, hap6, hp6, hn6, hne6⟩ := hap5.app (b := 16) (x := .sl HB.next 0 1 1 false) (m := 1) rfl hsrc (zlj1 (by rw [hnl]; rfl)) (by rw [hnl]; rfl) (Nat.le_refl _) (by omega) (by omega) (hx5.hide.trans hhB) (by rw [hx5.lo, hloB]; omega) (by have := hx5.next; omega)
  have hsb : ∀ j, j < N → blkNe s j := fun j hj => by
    obtain ⟨_, ⟨rfl, _⟩ | ⟨i', rfl, _, hN', _⟩⟩ := hap
    · exact zym _
    · exact zpk (by omega)
  have hr6 : Row H6 bk false false 111 1 [s] := (hrB.hx hx5 (by omega)).hp hp6 (by have := hx5.next; omega) (hsb _ hbN)
  have hso : s'.oneCell = true := by
    obtain ⟨_, ⟨rfl, _⟩ | ⟨i', rfl, _, _⟩⟩ := hap6 <;> rfl
  obtain ⟨H7, hs7, hr7, hp7, hn7⟩ := hr6.st1 (L := look) (t := 111) (v := s') (k := 0) (hp6.hide.trans (hx5.hide.trans hhB)) (by rw [hp6.lo, hx5.lo, hloB, hlo2']; exact hlo) z22 hso (by simp)
  have hpT : HP (fun j => blkNe s j ∧ j ≠ bk) HB H7 := ((hx5.hp fun _ => True).trans hp6 (r := fun j => blkNe s j) fun j hj hjN => ⟨trivial, hjN⟩).trans hp7 fun j hj h => ⟨h.1, h.2⟩
  have hlE : gT (putS none AV.undef (putS (some (sOf 5)) (AV.ptr H.next 0) T1)) 2 = .ptr bk 0 := by (simp (disch := omega) only [evl, Nat.reduceEqDiff, Nat.reduceAdd, reduceIte, reduceCtorEq, h2])
  have hlE5 : gT (putS none AV.undef (putS (some (sOf 5)) (AV.ptr H.next 0) T1)) 5 = .ptr H.next 0 := by (simp (disch := omega) only [evl, Nat.reduceEqDiff, Nat.reduceAdd, reduceIte, reduceCtorEq])
  generalize putS none AV.undef (putS (some (sOf 5)) (AV.ptr H.next 0) T1) = T2 at *
  (repeat' (first | refine Z ?_ | refine Zq ?_ | refine zaa (by decide) ?_ | ((first | refine' Y ?_ ?_ | refine' X ?_ ?_ ?_); rotate_left; (· (first | (simp (disch := omega) only [evl, Nat.reduceEqDiff, Nat.reduceAdd, reduceIte, reduceCtorEq, hlE, hlE5, hbk, hbx] <;> exact rfl) | exact rfl)); all_goals try (refine fun (hb : _ = _) => ?_; try simp only [Zu, ne_eq, reduceCtorEq] at hb)) | (apply zba; · simp [evl])))
  apply rk_hn
  · (simp (disch := omega) only [evl, Nat.reduceEqDiff, Nat.reduceAdd, reduceIte, reduceCtorEq])
    exact hb5
  simp only [zpa]
  (repeat' (first | refine Z ?_ | refine Zq ?_ | refine zaa (by decide) ?_ | ((first | refine' Y ?_ ?_ | refine' X ?_ ?_ ?_); rotate_left; (· (first | (simp (disch := omega) only [evl, Nat.reduceEqDiff, Nat.reduceAdd, reduceIte, reduceCtorEq] <;> exact rfl) | exact rfl)); all_goals try (refine fun (hb : _ = _) => ?_; try simp only [Zu, ne_eq, reduceCtorEq] at hb)) | (apply zba; · simp [evl])))
  apply rk_hn
  · (simp (disch := omega) only [evl, Nat.reduceEqDiff, Nat.reduceAdd, reduceIte, reduceCtorEq])
    exact happ
  simp only [zpa]
  (repeat' (first | refine Z ?_ | refine Zq ?_ | refine zaa (by decide) ?_ | ((first | refine' Y ?_ ?_ | refine' X ?_ ?_ ?_); rotate_left; (· (first | (simp (disch := omega) only [evl, Nat.reduceEqDiff, Nat.reduceAdd, reduceIte, reduceCtorEq, hlE] <;> exact rfl) | exact rfl)); all_goals try (refine fun (hb : _ = _) => ?_; try simp only [Zu, ne_eq, reduceCtorEq] at hb)) | (apply zba; · simp [evl])))
  apply rk_st
  · (simp (disch := omega) only [evl, Nat.reduceEqDiff, Nat.reduceAdd, reduceIte, reduceCtorEq, hlE])
    exact hs7
  simp only [zpa]
  (repeat' (first | refine Z ?_ | refine Zq ?_ | refine zaa (by decide) ?_ | ((first | refine' Y ?_ ?_ | refine' X ?_ ?_ ?_); rotate_left; (· (first | (simp (disch := omega) only [evl, Nat.reduceEqDiff, Nat.reduceAdd, reduceIte, reduceCtorEq] <;> exact rfl) | exact rfl)); all_goals try (refine fun (hb : _ = _) => ?_; try simp only [Zu, ne_eq, reduceCtorEq] at hb)) | (apply zba; · simp [evl])))
  have hg7 : H7.get l = some (.loop .busy none T0 0 [7] znf zof) := (hpT.get (by omega) ⟨hsb _ hlN, hlb⟩).trans hgB
  have hhT : H7.hide = [] := hpT.hide.trans hhB
  have hpF : HP (· ≠ l) H7 (H7.put l (.loop .ready none T0 0 [7] znf zof)) := HP.put _ _ _
  have hnx7 := hpT.next
  refine zma ⟨rfl, none, T0, 0, [7], znf, zof, hg7, (by first | rfl | trivial), ⟨T0, hT2, AH.get_put hhT _ _⟩, ⟨s', hr7.hp hpF (by omega) (fun h => hlb h.symm), ?_⟩, ?_⟩
  · rw [hnl, show AV.cells (aV x) = aC [x] from rfl, ← aC_app] at hap6
    have := (hap6.hp hp7 (fun i hi => by subst hi; exact fun h => hne6 bk (by omega) _ _ _ _ (by rw [h]))).hp hpF fun i hi => by
      intro h; subst h
      exact hne6 i (by omega) _ _ _ _ hi
    simpa using this
  · exact ((hp02.trans hpB (r := fun j => j ≠ l) fun j hj h => ⟨trivial, h⟩).trans hpT (r := fun j => blkNe s j ∧ j ≠ bk ∧ j ≠ l) fun j hj h => ⟨h.2.2, h.1, h.2.1⟩).trans hpF fun j hj h => ⟨h, h.2.2⟩
def seqA (c : Code) : Code := crec (β := Code) c (fun _ _ _ => c) (fun a _ _ _ => a) (fun _ _ _ _ _ => c) (fun _ _ _ => c) (fun _ _ => c) (fun _ _ _ _ _ _ => c) (fun _ => c) (fun _ _ => c) (fun _ => c) (fun _ => c) c (fun _ => c) c
def seqB (c : Code) : Code := crec (β := Code) c (fun _ _ _ => c) (fun _ b _ _ => b) (fun _ _ _ _ _ => c) (fun _ _ _ => c) (fun _ _ => c) (fun _ _ _ _ _ _ => c) (fun _ => c) (fun _ _ => c) (fun _ => c) (fun _ => c) c (fun _ => c) c
def opsOf (c : Code) : Array Oper := crec (β := Array Oper) #[] (fun _ o _ => o) (fun _ _ _ _ => #[]) (fun _ _ _ _ _ => #[]) (fun _ _ _ => #[]) (fun _ _ => #[]) (fun _ _ _ _ _ _ => #[]) (fun _ => #[]) (fun _ _ => #[]) (fun _ => #[]) (fun _ => #[]) #[] (fun _ => #[]) c
section
variable {L : Lk} {T : Tr AV} {H : AH} {o : Oper}
theorem zmb (T : Tr AV) (k : Nat) : opnd T (.tmp k) = some (gT T k) := by
  show (match T.get k with | some v => some v | none => some AV.undef) = some (dflt (T.get k))
  cases T.get k <;> rfl
theorem zlp {t k : Nat} (ho : o.op = .range t (.tmp k)) : evOp L T o H = val2 (zze L t (gT T k) H) := by unfold evOp; rw [ho]; simp only [zmb]
theorem zmp {k : Nat} (ho : o.op = .entry (.tmp k)) : evOp L T o H = val1 (zgl (gT T k) H) H := by unfold evOp; rw [ho]; simp only [zmb]
theorem zrk {k j : Nat} {vs : List AV} (ho : o.op = .extract (.tmp k) j) (hv : gT T k = .tup vs) : evOp L T o H = val1 (nth vs j) H := by unfold evOp; rw [ho]; simp only [zmb, hv]
end
theorem zcd (T : Tr AV) (j : Nat) (v : AV) (k : Nat) : gT (putT T (some j) v) k = if k = j then v else gT T k := zcb T j v k
abbrev En := AV × AV × Nat
theorem mem_left {es : List En} {seen : List Nat} {e : En} : e ∈ leftE es seen ↔ e ∈ es ∧ e.2.2 ∉ seen := by
  unfold leftE
  rw [List.mem_filter, List.all_eq_true]
  refine and_congr_right fun _ => ⟨fun h hm => ?_, fun h b hb => ?_⟩
  · have := h _ hm
    rw [show Nat.beq e.2.2 e.2.2 = true from Nat.beq_refl _] at this
    cases this
  · rw [beq_f (fun hb' : b = e.2.2 => h (hb' ▸ hb))]; rfl
theorem zig1 : ∀ (l m : List Nat), l.Nodup → (∀ x ∈ l, x ∈ m) → l.length ≤ m.length
  | [], _, _, _ => Nat.zero_le _
  | a :: l, m, hn, hs => by
    have ha := hs a List.mem_cons_self
    have hn' := List.nodup_cons.1 hn
    have := zig1 l (m.erase a) hn'.2 fun x hx => (List.mem_erase_of_ne (fun (h : x = a) => hn'.1 (h ▸ hx))).2 (hs x (List.mem_cons_of_mem _ hx))
    rw [List.length_erase_of_mem ha] at this
    have : 0 < m.length := List.length_pos_of_mem ha
    simp only [List.length_cons]; omega
theorem zir : ∀ {es : List En}, (es.map (·.2.2)).Nodup → ∀ {e e' : En}, e ∈ es → e' ∈ es → e.2.2 = e'.2.2 → e = e'
  | [], _, _, _, h, _, _ => by cases h
  | x :: es, hn, e, e', h, h', hb => by
    rw [List.map_cons, List.nodup_cons] at hn
    rcases List.mem_cons.1 h with h1 | h1
    · rcases List.mem_cons.1 h' with h2 | h2
      · rw [h1, h2]
      · exact (hn.1 (List.mem_map.2 ⟨e', h2, by rw [← hb, h1]⟩)).elim
    · rcases List.mem_cons.1 h' with h2 | h2
      · exact (hn.1 (List.mem_map.2 ⟨e, h1, by rw [hb, h2]⟩)).elim
      · exact zir hn.2 h1 h2 hb
structure Pk (es pk : List En) : Prop where
  nd : (pk.map (·.2.2)).Nodup
  sub : ∀ e ∈ pk, e ∈ es
theorem Pk.nil (es : List En) : Pk es [] := ⟨List.nodup_nil, fun _ h => by cases h⟩
theorem Pk.step {es pk : List En} (h : Pk es pk) {e : En} (he : e ∈ leftE es (pk.map (·.2.2))) : Pk es (pk ++ [e]) := by
  obtain ⟨h1, h2⟩ := mem_left.1 he
  refine ⟨?_, fun x hx => ?_⟩
  · rw [List.map_append, List.nodup_append]
    refine ⟨h.nd, by simp, fun a ha b hb => ?_⟩
    have hb : b = e.2.2 := by simpa using hb
    subst hb
    exact fun hab => h2 (hab ▸ ha)
  · rcases List.mem_append.1 hx with hx | hx
    · exact h.sub x hx
    · have : x = e := by simpa using hx
      subst this; exact h1
theorem Pk.len {es pk : List En} (h : Pk es pk) : pk.length ≤ es.length := by
  have := zig1 (pk.map (·.2.2)) (es.map (·.2.2)) h.nd fun x hx => by
    obtain ⟨e, he, rfl⟩ := List.mem_map.1 hx
    exact List.mem_map_of_mem (h.sub e he)
  simpa using this
def ztd1 (es : List En) (b : Nat) : En := open Classical in if h : ∃ e ∈ es, e.2.2 = b then h.choose else (.undef, .undef, 0)
theorem zud1 {es : List En} (hn : (es.map (·.2.2)).Nodup) {e : En} (he : e ∈ es) : ztd1 es e.2.2 = e := by
  have h : ∃ e' ∈ es, e'.2.2 = e.2.2 := ⟨e, he, rfl⟩
  unfold ztd1
  rw [dif_pos h]
  exact zir hn h.choose_spec.1 he h.choose_spec.2
theorem znp {es pk : List En} (hn : (es.map (·.2.2)).Nodup) (hs : ∀ e ∈ pk, e ∈ es) : (pk.map (·.2.2)).map (ztd1 es) = pk := by
  rw [List.map_map]
  conv => rhs; rw [← List.map_id pk]
  exact List.map_congr_left fun e he => zud1 hn (hs e he)
theorem Pk.all {es pk : List En} (h : Pk es pk) (hn : (es.map (·.2.2)).Nodup) (hl : leftE es (pk.map (·.2.2)) = []) : pk.Perm es := by
  have hp : (pk.map (·.2.2)).Perm (es.map (·.2.2)) := by
    refine (List.perm_ext_iff_of_nodup h.nd hn).2 fun b => ⟨fun hb => ?_, fun hb => ?_⟩
    · obtain ⟨e, he, rfl⟩ := List.mem_map.1 hb
      exact List.mem_map_of_mem (h.sub e he)
    · obtain ⟨e, he, rfl⟩ := List.mem_map.1 hb
      rcases Classical.em (e.2.2 ∈ pk.map (·.2.2)) with hm | hm
      · exact hm
      · have := mem_left.2 ⟨he, hm⟩
        rw [hl] at this; cases this
  have := hp.map (ztd1 es)
  rwa [znp hn h.sub, znp hn fun _ h => h] at this
structure MapA (es : List En) (clock : Nat) (ks : List Ad) : Prop where
  keys : es.map (·.1) = ks.map aV
  born : ∀ e ∈ es, e.2.2 < clock
  nd : (es.map (·.2.2)).Nodup
theorem MapA.key {es : List En} {clock : Nat} {ks : List Ad} (h : MapA es clock ks) {e : En} (he : e ∈ es) : ∃ p, e.1 = aV p := by
  have : e.1 ∈ ks.map aV := h.keys ▸ List.mem_map_of_mem he
  obtain ⟨p, _, hp⟩ := List.mem_map.1 this
  exact ⟨p, hp.symm⟩
def unA : AV → Ad
  | .agg [.int _ a, .int _ b] => (a, b)
  | _ => (0, 0)
theorem zjg1 (l : List Ad) : (l.map aV).map unA = l := by
  rw [List.map_map]
  conv => rhs; rw [← List.map_id l]
  exact List.map_congr_left fun _ _ => rfl
theorem MapA.perm {es pk : List En} {clock : Nat} {ks acc : List Ad} (h : MapA es clock ks) (hp : pk.Perm es) (ha : pk.map (·.1) = acc.map aV) : acc.Perm ks := by
  have h1 : (acc.map aV).Perm (ks.map aV) := ha ▸ h.keys ▸ hp.map _
  have := h1.map unA
  rwa [zjg1, zjg1] at this
theorem c177 : zse = .seq (seqA zse) (.block 0 (.loop zde)) := by kernel_rfl
theorem c177a : comp look (seqA zse) = .reg f625r0 := by kernel_rfl
theorem c177b : zde = .seq (.region 1 (opsOf (seqA zde)) false) (seqB zde) := by kernel_rfl
theorem c177o : (opsOf (seqA zde)).toList = [opN zde 0 0, opN zde 0 1] := by kernel_rfl
theorem c177r : comp look (seqB zde) = (.seq (.cond (tO 7) .skip (.exit 0)) (.block 1 (.seq (.reg f625r2) (.seq (.reg f625r3) (.cond (tO 13) .ret .skip))))) := by kernel_rfl
theorem o177_0 : (opN zse 0 1).op = .range 545 (.tmp 4) := by kernel_rfl
theorem o177_1 : (opN zde 0 0).op = .next (.tmp 5) false := by kernel_rfl
theorem g177_1 : (opN zde 0 0).guard = none := by kernel_rfl
theorem d177_1 : (opN zde 0 0).dst = some 6 := by kernel_rfl
theorem o177_2 : (opN zde 0 1).op = .extract (.tmp 6) 0 := by kernel_rfl
theorem g177_2 : (opN zde 0 1).guard = none := by kernel_rfl
theorem d177_2 : (opN zde 0 1).dst = some 7 := by kernel_rfl
theorem o177_3 : (opN zse 2 0).op = .entry (.tmp 5) := by kernel_rfl
theorem w177a : wfC 14 (seqA zse) = true := by kernel_rfl
theorem w177b : wfC 14 (seqB zde) = true := by kernel_rfl
theorem w177o : wfOps 14 (opsOf (seqA zde)) = true := by kernel_rfl
theorem u128 : look.under 545 = some (.map 234 460) := by kernel_rfl
theorem l177 : ∃ fn, look.func 625 = some fn ∧ fn.body = some zse ∧ fn.ntmps = 14 ∧ fn.results.toList = [] := ⟨Tryz.f625, by kernel_rfl, by kernel_rfl, by kernel_rfl, by kernel_rfl⟩
theorem zop (l : List Nat) (b : Nat) : lastN (l ++ [b]) = some b := by rw [zrq]; simp
theorem zvl {es : List En} (hn : (es.map (·.2.2)).Nodup) {e : En} (he : e ∈ es) : zsg e.2.2 es = some e := by
  induction es with
  | nil => cases he
  | cons x es ih =>
    show (match Nat.beq x.2.2 e.2.2 with | true => some x | false => zsg e.2.2 es) = some e
    by_cases hb : x.2.2 = e.2.2
    · rw [hb, show Nat.beq e.2.2 e.2.2 = true from Nat.beq_refl _]
      have := zir hn List.mem_cons_self he hb
      rw [this]
    · rw [beq_f hb]
      rcases List.mem_cons.1 he with rfl | he
      · exact absurd rfl hb
      · exact ih (List.nodup_cons.1 hn).2 he
structure AccM (H0 H : AH) (l bk r m N : Nat) (es : List En) (clock : Nat) (pk : List En) (acc : List Ad) : Prop where
  lp : zhr H l bk
  row : ∃ s, Row H bk false false 111 1 [s] ∧ Ap H s acc.length (aC acc) 234 2 N
  it : H.get r = some (.miter m clock (pk.map (·.2.2)) clock)
  mp : H.get m = some (.map es clock)
  pc : Pk es pk
  ks : pk.map (·.1) = acc.map aV
  hp : HP (fun j => j < N ∧ j ≠ bk ∧ j ≠ l) H0 H
  nl : acc = [] → Row H bk false false 111 1 [.nilSl]
theorem zvd1 (B : Nat) (H0 H : AH) (T : Tr AV) (l bk r m N : Nat) (es : List En) (clock : Nat) (pk : List En) (acc : List Ad) (ks : List Ad) (hM : MapA es clock ks) (e : En) (he : e ∈ leftE es (pk.map (·.2.2)))
    (hA : AccM H0 H l bk r m N es clock pk acc) (t0 : gT T 0 = .yld l) (t5 : gT T 5 = .ptr r 0) (t7 : gT T 7 = .bool true) (hbN : bk < N) (hlN : l < N) (hlb : l ≠ bk) (hmN : m < N) (hmb : m ≠ bk) (hml : m ≠ l) (hrN : N ≤ r) (hr2 : r < H.next) (hN : N ≤ H0.next) (hlo : H0.lo ≤ bk) (hlo2 : H0.lo ≤ l) (hh : H0.hide = []) (hal : es.length ≤ 100000) :
    RC look (comp look (seqB zde)) [] T (H.put r (.miter m clock (pk.map (·.2.2) ++ [e.2.2]) clock)) fun ex T' H' => ex = .normal ∧ gT T' 0 = .yld l ∧ gT T' 5 = .ptr r 0 ∧ r < H'.next ∧ ∃ p, e.1 = aV p ∧ AccM H0 H' l bk r m N es clock (pk ++ [e]) (acc ++ [p]) := by
  obtain ⟨hlp, ⟨s, hr, hap⟩, hit, hmp, hpk, hks, hp, _⟩ := hA
  obtain ⟨hmem, _⟩ := mem_left.1 he
  obtain ⟨p, hpe⟩ := hM.key hmem
  have hnx := hp.next
  have hhH : H.hide = [] := hp.hide.trans hh
  have hpB : HP (· ≠ r) H (H.put r (.miter m clock (pk.map (·.2.2) ++ [e.2.2]) clock)) := HP.put _ _ _
  have hgB : (H.put r (.miter m clock (pk.map (·.2.2) ++ [e.2.2]) clock)).get r = some (.miter m clock (pk.map (·.2.2) ++ [e.2.2]) clock) := AH.get_put hhH _ _
  have hnB : (H.put r (.miter m clock (pk.map (·.2.2) ++ [e.2.2]) clock)).next = H.next := rfl
  generalize H.put r (.miter m clock (pk.map (·.2.2) ++ [e.2.2]) clock) = HB at *
  have hloB : HB.lo = H0.lo := hpB.lo.trans hp.lo
  have hhB : HB.hide = [] := hpB.hide.trans hhH
  have hmB : HB.get m = some (.map es clock) := (hpB.get (by omega) (by omega)).trans hmp
  have hlpB : zhr HB l bk := by
    obtain ⟨T0, h2, hg⟩ := hlp
    exact ⟨T0, h2, (hpB.get (by omega) (by omega)).trans hg⟩
  have hrB := hr.hp hpB (by omega) (by omega)
  have hapB : Ap HB s acc.length (aC acc) 234 2 N := hap.hp hpB fun i hi => by
    obtain ⟨_, ⟨rfl, _⟩ | ⟨i', rfl, hri, hN', _⟩⟩ := hap
    · cases hi
    · cases hi
      intro h; subst h
      obtain ⟨c, h1, _⟩ := hri
      rw [hit] at h1; cases h1
  have hev : zgl (.ptr r 0) HB = some (.tup [e.1, e.2.1]) := by
    show (match HB.get r with
      | some (.miter m _ seen last) => (match HB.get m, lastN seen with
        | some (.map es clock), some b => (match Nat.beq clock last, zsg b es with
          | true, some e => some (AV.tup [e.1, e.2.1])
          | _, _ => none)
        | _, _ => none)
      | _ => none) = _
    rw [hgB]
    simp only
    rw [hmB, zop]
    simp only
    rw [show Nat.beq clock clock = true from Nat.beq_refl _, zvl hM.nd hmem]
  rw [c177r]
  obtain ⟨H1, hal1, hx1, hn1, hr1⟩ := zmi (e := 234) (s := 2) (c := AV.toC (.agg [(.int .i64 (0)), (.int .i64 (0))])) hhB
  rw [toC_l] at hr1
  have hh1 : H1.hide = [] := hx1.hide.trans hhB
  obtain ⟨H2, hs2, hr2', hp2, hn2⟩ := Row.stN (L := look) (t := 234) (v := aV p) (s := 2) (k := 0) hr1 hh1 (by rw [hx1.lo, hloB]; omega) rfl (by rfl) (by decide)
  have hp02 : HP (fun _ => True) HB H2 := (hx1.hp fun _ => True).trans hp2 (r := fun _ => True) fun j hj _ => ⟨trivial, by omega⟩
  have hrX : Row H2 HB.next false false 234 2 (aC [p]) := hr2'
  have hbx := bRd hrX
  (repeat' (first | refine Z ?_ | refine Zq ?_ | refine zaa (by decide) ?_ | ((first | refine' Y ?_ ?_ | refine' X ?_ ?_ ?_); rotate_left; (· (first | (simp (disch := omega) only [evl, Nat.reduceEqDiff, Nat.reduceAdd, reduceIte, reduceCtorEq, t7] <;> exact rfl) | exact rfl)); all_goals try (refine fun (hb : _ = _) => ?_; try simp only [Zu, ne_eq, reduceCtorEq] at hb)) | (apply zba; · simp [evl])))
  unfold f625r2
  refine rk_gh (v := AV.tup [e.1, e.2.1]) (H' := HB) ?_ ?_
  · rw [hIn_f, zmp o177_3, t5, hev]; rfl
  simp only [zpa]
  rw [hpe]
  (repeat' (first | refine Z ?_ | refine Zq ?_ | refine zaa (by decide) ?_ | ((first | refine' Y ?_ ?_ | refine' X ?_ ?_ ?_); rotate_left; (· (first | (simp (disch := omega) only [evl, Nat.reduceEqDiff, Nat.reduceAdd, reduceIte, reduceCtorEq] <;> exact rfl) | exact rfl)); all_goals try (refine fun (hb : _ = _) => ?_; try simp only [Zu, ne_eq, reduceCtorEq] at hb)) | (apply zba; · simp [evl])))
  refine rk_al hal1 ?_
  simp only [zpa]
  apply rk_st
  · (simp (disch := omega) only [evl, Nat.reduceEqDiff, Nat.reduceAdd, reduceIte, reduceCtorEq])
    exact hs2
  simp only [zpa]
  (repeat' (first | refine Z ?_ | refine Zq ?_ | refine zaa (by decide) ?_ | ((first | refine' Y ?_ ?_ | refine' X ?_ ?_ ?_); rotate_left; (· (first | (simp (disch := omega) only [evl, Nat.reduceEqDiff, Nat.reduceAdd, reduceIte, reduceCtorEq] <;> exact rfl) | exact rfl)); all_goals try (refine fun (hb : _ = _) => ?_; try simp only [Zu, ne_eq, reduceCtorEq] at hb)) | (apply zba; · simp [evl])))
  have hnx2 := hp02.next
  have hlp2 : zhr H2 l bk := by
    obtain ⟨T0, h2, hg⟩ := hlpB
    exact ⟨T0, h2, (hp02.get (by omega) trivial).trans hg⟩
  have hlen : acc.length ≤ 100000 := by
    have h1 := hpk.len
    have h2 : pk.length = acc.length := by
      have := congrArg List.length hks
      simpa using this
    omega
  (repeat' (first | refine Z ?_ | refine Zq ?_ | refine zaa (by decide) ?_ | ((first | refine' Y ?_ ?_ | refine' X ?_ ?_ ?_); rotate_left; (· (first | (simp (disch := omega) only [evl, Nat.reduceEqDiff, Nat.reduceAdd, reduceIte, reduceCtorEq, t0, hbx] <;> exact rfl) | exact rfl)); all_goals try (refine fun (hb : _ = _) => ?_; try simp only [Zu, ne_eq, reduceCtorEq] at hb)) | (apply zba; · simp [evl])))
  refine rk_cr (l := l) (args := [aV p]) (by (simp (disch := omega) only [evl, Nat.reduceEqDiff, Nat.reduceAdd, reduceIte, reduceCtorEq, t0]); rfl) (zwq H2 s acc p l bk N hlp2 (hrB.hp hp02 (by omega) trivial) (hapB.hp hp02 fun _ _ => trivial) hbN hlN hlb (by omega) (by rw [hp02.lo, hloB]; exact hlo) (by rw [hp02.lo, hloB]; exact hlo2) (hp02.hide.trans hhB) hlen) ?_
  rintro v H3 ⟨rfl, hlp3, hrow3, hp3⟩
  simp only [zpa]
  (repeat' (first | refine Z ?_ | refine Zq ?_ | refine zaa (by decide) ?_ | ((first | refine' Y ?_ ?_ | refine' X ?_ ?_ ?_); rotate_left; (· (first | (simp (disch := omega) only [evl, Nat.reduceEqDiff, Nat.reduceAdd, reduceIte, reduceCtorEq] <;> exact rfl) | exact rfl)); all_goals try (refine fun (hb : _ = _) => ?_; try simp only [Zu, ne_eq, reduceCtorEq] at hb)) | (apply zba; · simp [evl])))
  have hnx3 := hp3.next
  have hsN : ∀ j, j < N → blkNe s j := fun j hj => by
    obtain ⟨_, ⟨rfl, _⟩ | ⟨i', rfl, _, hN', _⟩⟩ := hap
    · exact zym _
    · exact zpk (by omega)
  have hsr : blkNe s r := by
    obtain ⟨_, ⟨rfl, _⟩ | ⟨i', rfl, hri, hN', _⟩⟩ := hap
    · exact zym _
    · refine zpk fun h => ?_
      subst h
      obtain ⟨c, h1, _⟩ := hri
      rw [hit] at h1; cases h1
  refine zma ⟨rfl, (by (first | (simp (disch := omega) only [evl, Nat.reduceEqDiff, Nat.reduceAdd, reduceIte, reduceCtorEq, t0] <;> exact rfl) | exact rfl)), (by (first | (simp (disch := omega) only [evl, Nat.reduceEqDiff, Nat.reduceAdd, reduceIte, reduceCtorEq, t5] <;> exact rfl) | exact rfl)), by omega, p, rfl, hlp3, hrow3, ?_, ?_, ?_, ?_, ?_, fun h => absurd h (by simp)⟩
  · rw [List.map_append]
    show H3.get r = some (.miter m clock (pk.map (·.2.2) ++ [e.2.2]) clock)
    rw [hp3.get (by omega) ⟨hsr, by omega, by omega⟩, hp02.get (by omega) trivial]
    exact hgB
  · rw [hp3.get (by omega) ⟨hsN _ hmN, hmb, hml⟩, hp02.get (by omega) trivial]; exact hmB
  · exact hpk.step he
  · rw [List.map_append, List.map_append, hks]
    show _ ++ [e.1] = _ ++ [aV p]
    rw [hpe]
  · exact ((hp.trans hpB (r := fun j => j < N ∧ j ≠ bk ∧ j ≠ l) fun j hj h => ⟨h, by omega⟩).trans hp02 (r := fun j => j < N ∧ j ≠ bk ∧ j ≠ l) fun j hj h => ⟨h, trivial⟩).trans hp3 fun j hj h => ⟨h, hsN _ h.1, h.2⟩
theorem MapA.len {es : List En} {clock : Nat} {ks : List Ad} (h : MapA es clock ks) : es.length = ks.length := by
  have := congrArg List.length h.keys
  simpa using this
theorem each_ok (B : Nat) (H : AH) (l bk cell m N : Nat) (es : List En) (clock : Nat) (ks : List Ad) (hM : MapA es clock ks) (hl : zhr H l bk) (hb : Row H bk false false 111 1 [.nilSl]) (hc : Row H cell false false 545 1 [.map m]) (hm : H.get m = some (.map es clock))
    (hbN : bk < N) (hlN : l < N) (hlb : l ≠ bk) (hmN : m < N) (hmb : m ≠ bk) (hml : m ≠ l) (hN : N = H.next) (hlo : H.lo ≤ bk) (hlo2 : H.lo ≤ l) (hh : H.hide = []) (hal : es.length ≤ 100000) :
    FnN Tryz.prog B 625 [.yld l, .ptr cell 0] H fun v H' => ∃ acc : List Ad, acc.Perm ks ∧ (acc = [] → Row H' bk false false 111 1 [.nilSl]) ∧ zhr H' l bk ∧ (∃ s, Row H' bk false false 111 1 [s] ∧ Ap H' s acc.length (aC acc) 234 2 N) ∧ HP (fun j => j < N ∧ j ≠ bk ∧ j ≠ l) H H' := by
  obtain ⟨fn, h1, h2, h3, h4⟩ := l177
  refine zxf look_ok h1 h2 (by rw [h3]; simp) ?_
  rw [h3, h4, c177]
  have hrc := hc.rd (k := 0) rfl
  have hx1 : HX H (H.new (.miter m clock [] clock)) := HX.new _ _
  have hg1 : (H.new (.miter m clock [] clock)).get H.next = some (.miter m clock [] clock) := AH.get_new hh _
  have hr1 : zze look 545 (.map m) H = some (.ptr H.next 0, H.new (.miter m clock [] clock)) := by
    unfold zze
    rw [u128]
    simp only [hm]
  refine zgb (R1 := fun ex T' H' => ex = .normal ∧ gT T' 0 = .yld l ∧ gT T' 5 = .ptr H.next 0 ∧ H' = H.new (.miter m clock [] clock)) ?_ ?_ ?_
  · refine zcc look_ok (zia B) w177a ?_
    rw [c177a]
    unfold f625r0
    (repeat' (first | refine Z ?_ | refine Zq ?_ | refine zaa (by decide) ?_ | ((first | refine' Y ?_ ?_ | refine' X ?_ ?_ ?_); rotate_left; (· (first | (simp (disch := omega) only [evl, Nat.reduceEqDiff, Nat.reduceAdd, reduceIte, reduceCtorEq, hrc] <;> exact rfl) | exact rfl)); all_goals try (refine fun (hb : _ = _) => ?_; try simp only [Zu, ne_eq, reduceCtorEq] at hb)) | (apply zba; · simp [evl])))
    refine rk_gh (v := AV.ptr H.next 0) (H' := H.new (.miter m clock [] clock)) ?_ ?_
    · rw [hIn_f, zlp o177_0]
      have : gT (putS (some (sOf 4)) (AV.map m) (zob [AV.yld l, AV.ptr cell 0] 0 Tr.nil)) 4 = .map m := by (simp (disch := omega) only [evl, Nat.reduceEqDiff, Nat.reduceAdd, reduceIte, reduceCtorEq])
      rw [this, hr1]; rfl
    simp only [zpa]
    (repeat' (first | refine Z ?_ | refine Zq ?_ | refine zaa (by decide) ?_ | ((first | refine' Y ?_ ?_ | refine' X ?_ ?_ ?_); rotate_left; (· (first | (simp (disch := omega) only [evl, Nat.reduceEqDiff, Nat.reduceAdd, reduceIte, reduceCtorEq] <;> exact rfl) | exact rfl)); all_goals try (refine fun (hb : _ = _) => ?_; try simp only [Zu, ne_eq, reduceCtorEq] at hb)) | (apply zba; · simp [evl])))
    exact zma ⟨rfl, (by (first | (simp (disch := omega) only [evl, Nat.reduceEqDiff, Nat.reduceAdd, reduceIte, reduceCtorEq] <;> exact rfl) | exact rfl)), (by (first | (simp (disch := omega) only [evl, Nat.reduceEqDiff, Nat.reduceAdd, reduceIte, reduceCtorEq] <;> exact rfl) | exact rfl)), rfl⟩
  · rintro T1 H1 ⟨_, t0, t5, rfl⟩
    refine zni (R1 := fun ex T' H' => (ex = .exit 0) ∧ ∃ pk acc, AccM H H' l bk H.next m N es clock pk acc ∧ leftE es (pk.map (·.2.2)) = []) ?_ ?_
    · refine zjp (fun k T' H' => gT T' 0 = .yld l ∧ gT T' 5 = .ptr H.next 0 ∧ H.next < H'.next ∧ ∃ pk acc, k + pk.length = es.length ∧ AccM H H' l bk H.next m N es clock pk acc) _ ?_ es.length _ _ ?_
      · intro k T' H' ⟨t0, t5, hnx, pk, acc, hk, hA⟩
        rw [c177b]
        have hlen := hA.pc.len
        refine zgb (R1 := fun ex T2 H2 => ex = .normal ∧ gT T2 0 = .yld l ∧ gT T2 5 = .ptr H.next 0 ∧ ((leftE es (pk.map (·.2.2)) = [] ∧ gT T2 7 = .bool false ∧ H2 = H') ∨ ∃ e ∈ leftE es (pk.map (·.2.2)), gT T2 7 = .bool true ∧ H2 = H'.put H.next (.miter m clock (pk.map (·.2.2) ++ [e.2.2]) clock))) ?_ ?_ ?_
        · refine zvb w177o ?_
          rw [c177o]
          have hop0 : (opsOf (seqA zde))[0]? = some (opN zde 0 0) := by rw [← Array.getElem?_toList, c177o]; rfl
          have hop1 : (opsOf (seqA zde))[1]? = some (opN zde 0 1) := by rw [← Array.getElem?_toList, c177o]; rfl
          have last : ∀ (T2 : Tr AV) (H2 : AH) (b : Bool) (vs : List AV), gT T2 0 = .yld l → gT T2 5 = .ptr H.next 0 → gT T2 6 = .tup (.bool b :: vs) → ((leftE es (pk.map (·.2.2)) = [] ∧ b = false ∧ H2 = H') ∨ ∃ e ∈ leftE es (pk.map (·.2.2)), b = true ∧ H2 = H'.put H.next (.miter m clock (pk.map (·.2.2) ++ [e.2.2]) clock)) →
              OpsN Tryz.prog B (opsOf (seqA zde)) 1 [opN zde 0 1] T2 H2 fun T3 H3 => Ex.normal = Ex.normal ∧ gT T3 0 = .yld l ∧ gT T3 5 = .ptr H.next 0 ∧ ((leftE es (pk.map (·.2.2)) = [] ∧ gT T3 7 = .bool false ∧ H3 = H') ∨ ∃ e ∈ leftE es (pk.map (·.2.2)), gT T3 7 = .bool true ∧ H3 = H'.put H.next (.miter m clock (pk.map (·.2.2) ++ [e.2.2]) clock)) := by
            intro T2 H2 b vs s0 s5 s6 hh2
            refine zmy (n := 0) look_ok (zia B) hop1 g177_2 (v := .bool b) (H1 := H2) ?_ ?_
            · unfold zqa
              rw [zrk o177_2 s6]
              rfl
            · rw [d177_2]
              refine zre ⟨rfl, by rw [zcd, if_neg (by decide)]; exact s0, by rw [zcd, if_neg (by decide)]; exact s5, ?_⟩
              rw [zcd, if_pos rfl]
              rcases hh2 with ⟨a1, rfl, a3⟩ | ⟨e, a1, rfl, a3⟩
              · exact .inl ⟨a1, rfl, a3⟩
              · exact .inr ⟨e, a1, rfl, a3⟩
          refine zet hop0 g177_1 o177_1 (r := H.next) (m := m) (since := clock) (last := clock) (seen := pk.map (·.2.2)) (es := es) (clock := clock) (by rw [zmb, t5]) (by rw [hA.hp.lo]; omega) hA.it hA.mp (Nat.le_refl _) hM.born ?_ ?_
          · intro hl0
            rw [d177_1]
            exact last _ _ false [] (by rw [zcd, if_neg (by decide)]; exact t0) (by rw [zcd, if_neg (by decide)]; exact t5) (by rw [zcd, if_pos rfl]) (.inl ⟨hl0, rfl, rfl⟩)
          · intro e he
            rw [d177_1]
            exact last _ _ true [e.1, e.2.1] (by rw [zcd, if_neg (by decide)]; exact t0) (by rw [zcd, if_neg (by decide)]; exact t5) (by rw [zcd, if_pos rfl]) (.inr ⟨e, he, rfl, rfl⟩)
        · rintro T2 H2 ⟨_, s0, s5, ⟨hl0, s7, rfl⟩ | ⟨e, he, s7, rfl⟩⟩
          · refine zcc look_ok (zia B) w177b ?_
            rw [c177r]
            (repeat' (first | refine Z ?_ | refine Zq ?_ | refine zaa (by decide) ?_ | ((first | refine' Y ?_ ?_ | refine' X ?_ ?_ ?_); rotate_left; (· (first | (simp (disch := omega) only [evl, Nat.reduceEqDiff, Nat.reduceAdd, reduceIte, reduceCtorEq, s7] <;> exact rfl) | exact rfl)); all_goals try (refine fun (hb : _ = _) => ?_; try simp only [Zu, ne_eq, reduceCtorEq] at hb)) | (apply zba; · simp [evl])))
            refine zma ?_
            exact lpq_e ⟨rfl, pk, acc, hA, hl0⟩
          · refine zhp (zcc look_ok (zia B) w177b (zvd1 B H H' T2 l bk H.next m N es clock pk acc ks hM e he hA s0 s5 s7 hbN hlN hlb hmN hmb hml (by omega) hnx (by omega) hlo hlo2 hh hal)) ?_
            rintro ex T3 H3 ⟨rfl, u0, u5, hn3, p, _, hA3⟩
            have := (hA.pc.step he).len
            simp only [List.length_append, List.length_singleton] at this
            exact lpq_n (k - 1) (by omega) ⟨u0, u5, hn3, _, _, by simp only [List.length_append, List.length_singleton]; omega, hA3⟩
        · rintro ex T2 H2 ⟨rfl, _⟩ hne
          exact absurd rfl hne
      · refine ⟨t0, t5, Nat.lt_succ_self _, [], [], by simp, ?_, ?_, hg1, ?_, Pk.nil _, rfl, hx1.hp _, fun _ => hb.hx hx1 (by omega)⟩
        · obtain ⟨T0, a1, a2⟩ := hl
          exact ⟨T0, a1, by rw [hx1.get (by omega)]; exact a2⟩
        · exact ⟨.nilSl, hb.hx hx1 (by omega), Ap.nil _ _ _ _⟩
        · rw [hx1.get (by omega)]; exact hm
    · rintro ex T2 H2 ⟨rfl, pk, acc, hA, hl0⟩
      have hb : blkEx 0 (.exit 0) = .normal := rfl
      rw [hb]
      have hp := hA.pc.all hM.nd hl0
      exact fq_nor (resV_0 _) ⟨acc, hM.perm hp hA.ks, hA.nl, hA.lp, hA.row, hA.hp⟩
  · rintro ex T2 H2 ⟨rfl, _⟩ hne
    exact absurd rfl hne
def zac : Code := bodyN look 623
def f623r0 : K2 :=
  .mv (.con .nilSl) (some (sOf 2)) <|
  .done
def zva : Code := bodyN look 576
def f576r0 : K2 :=
  .mv (.con .nilSl) (some (sOf 4)) <|
  .done
def f576r3 : K2 :=
  .mv (tO 5) (some (sOf 11)) <|
  .mv (tO 11) (some (sOf 4)) <|
  .done
def f577r0 : K2 :=
  .m1 false (fun v H => alF v.toC 545 1 H) (tO 0) (some (sOf 1)) <|
  .mv (.con .nilFn) (some (sOf 2)) <|
  .done
def f577r1 : K2 :=
  .ln (fun zs _ => some (.fn (.func 625) (zuu 0 zs) (restN 0 zs))) [(tO 1)] (some (sOf 3)) <|
  .mv (tO 3) (some (sOf 2)) <|
  .done
def f577c : C2 := (.seq (.reg f577r0)
  (.seq (.reg f577r1)
  .ret))
theorem f577_eq : fnF look 577 = some ⟨4, f577c, [.tmp 2]⟩ := by kernel_rfl
def zqb : Code := bodyN look 484
def f484r0 : K2 :=
  .mv (.con .nilSl) (some (sOf 2)) <|
  .done
def zga : Code := bodyN look 407
def f407r0 : K2 :=
  .mv (.con .nilSl) (some (sOf 4)) <|
  .done
def ztj1 : Code := bodyN look 578
def f578r0 : K2 :=
  .m1 false (fun v H => alF v.toC 234 2 H) (tO 0) (some (sOf 2)) <|
  .m1 false (fun v H => alF v.toC 234 2 H) (tO 1) (some (sOf 3)) <|
  .mv (.con (.int .i64 (0))) (some (sOf 4)) <|
  .done
def f578r1 : K2 :=
  .p1 (fa 0) (tO 2) (some (sOf 5)) <|
  .r1 ld1 (tO 5) (some (sOf 6)) <|
  .p1 (fa 0) (tO 3) (some (sOf 7)) <|
  .r1 ld1 (tO 7) (some (sOf 8)) <|
  .p1 (fa 1) (tO 2) (some (sOf 10)) <|
  .r1 ld1 (tO 10) (some (sOf 11)) <|
  .p1 (fa 1) (tO 3) (some (sOf 12)) <|
  .r1 ld1 (tO 12) (some (sOf 13)) <|
  .cw (some [sOf 12, sOf 10]) 626 [(tO 6), (tO 8)] (some (sOf 9)) <|
  .cl false 626 [(tO 11), (tO 13)] (some (sOf 14)) <|
  .hn false (fun xs H => bsF 1 2 (.int .i64 (0)) 3 (zipF [0, 1] xs) H) [(tO 9), (tO 14)] (some (sOf 15)) <|
  .cl false 532 [(tO 15)] (some (sOf 16)) <|
  .mv (tO 16) (some (sOf 4)) <|
  .done
def f578c : C2 := (.seq (.reg f578r0)
  (.seq (.reg f578r1)
  .ret))
theorem f578_eq : fnF look 578 = some ⟨17, f578c, [.tmp 4]⟩ := by kernel_rfl
def zuj1 : Code := bodyN look 532
def f532r0 : K2 :=
  .mv (.con (.int .i64 (0))) (some (sOf 2)) <|
  .done
def f532r1 : K2 :=
  .mv (.con (.int .i64 (0))) (some (sOf 3)) <|
  .done
def f532r2 : K2 :=
  .mv (tO 0) (some (sOf 6)) <|
  .ln (fun xs H => fstO (zna .len look [32] xs H)) [(tO 6)] (some (sOf 7)) <|
  .mv (.con (.int .i64 (0))) (some (sOf 8)) <|
  .done
def f532r3 : K2 :=
  .p2 (binF .lss (evBin look .lss 3 (.tmp 8) (.tmp 7))) (tO 8) (tO 7) (some (sOf 9)) <|
  .done
def f532r4 : K2 :=
  .p2 (ixS 1) (tO 6) (tO 8) (some (sOf 10)) <|
  .r1 ld1 (tO 10) (some (sOf 11)) <|
  .mv (tO 11) (some (sOf 5)) <|
  .done
def f532r5 : K2 :=
  .mv (tO 5) (some (sOf 12)) <|
  .mv (tO 3) (some (sOf 13)) <|
  .p2 (binF .neq (evBin look .neq 3 (.tmp 12) (.tmp 13))) (tO 12) (tO 13) (some (sOf 14)) <|
  .done
def f532r6 : K2 :=
  .mv (tO 5) (some (sOf 15)) <|
  .mv (tO 15) (some (sOf 2)) <|
  .done
def f532r7 : K2 :=
  .p2 (binF .add (evBin look .add 3 (.tmp 8) (.const (.int .i64 (1))))) (tO 8) (.con (.int .i64 (1))) (some (sOf 16)) <|
  .mv (tO 16) (some (sOf 8)) <|
  .done
def zwd1 : C2 := (.seq (.reg f532r3)
  (.seq (.cond (tO 9) .skip (.exit 0))
  (.seq (.block 1 (.seq (.reg f532r4)
  (.seq (.reg f532r5)
  (.cond (tO 14) (.seq (.reg f532r6)
  .ret) .skip))))
  (.reg f532r7))))
def f532b0 : Code := lpN zuj1 0
theorem zxd1 : comp look f532b0 = zwd1 := by kernel_rfl
def f532r8 : K2 :=
  .mv (tO 3) (some (sOf 17)) <|
  .mv (tO 17) (some (sOf 2)) <|
  .done
def f532c : C2 := (.seq (.reg f532r0)
  (.seq (.reg f532r1)
  (.seq (.seq (.reg f532r2)
  (.block 0 (.loop f532b0)))
  (.seq (.reg f532r8)
  .ret))))
theorem f532_eq : fnF look 532 = some ⟨18, f532c, [.tmp 2]⟩ := by kernel_rfl
def f626r0 : K2 :=
  .mv (.con (.int .i64 (0))) (some (sOf 4)) <|
  .done
def f626r1 : K2 :=
  .mv (tO 0) (some (sOf 7)) <|
  .cl false 655 [(tO 7)] (some (sOf 8)) <|
  .mv (tO 8) (some (sOf 5)) <|
  .done
def f626r2 : K2 :=
  .mv (tO 1) (some (sOf 9)) <|
  .cl false 655 [(tO 9)] (some (sOf 10)) <|
  .mv (tO 10) (some (sOf 6)) <|
  .done
def f626r3 : K2 :=
  .mv (tO 5) (some (sOf 11)) <|
  .done
def f626r4 : K2 :=
  .mv (tO 6) (some (sOf 12)) <|
  .done
def f626r5 : K2 :=
  .mv (.con (.int .i64 (0))) (some (sOf 4)) <|
  .done
def f626r6 : K2 :=
  .mv (.con (.int .i64 (-1))) (some (sOf 4)) <|
  .done
def f626r7 : K2 :=
  .mv (tO 6) (some (sOf 13)) <|
  .done
def f626r8 : K2 :=
  .mv (.con (.int .i64 (1))) (some (sOf 4)) <|
  .done
def f626r9 : K2 :=
  .mv (tO 0) (some (sOf 14)) <|
  .mv (tO 1) (some (sOf 15)) <|
  .p2 (binF .lss (evBin look .lss 3 (.tmp 14) (.tmp 15))) (tO 14) (tO 15) (some (sOf 16)) <|
  .done
def f626r10 : K2 :=
  .mv (.con (.int .i64 (-1))) (some (sOf 4)) <|
  .done
def f626r11 : K2 :=
  .mv (tO 0) (some (sOf 17)) <|
  .mv (tO 1) (some (sOf 18)) <|
  .p2 (binF .gtr (evBin look .gtr 3 (.tmp 17) (.tmp 18))) (tO 17) (tO 18) (some (sOf 19)) <|
  .done
def f626r12 : K2 :=
  .mv (.con (.int .i64 (1))) (some (sOf 4)) <|
  .done
def f626r13 : K2 :=
  .mv (.con (.int .i64 (0))) (some (sOf 4)) <|
  .done
def f626c : C2 := (.seq (.reg f626r0)
  (.seq (.reg f626r1)
  (.seq (.reg f626r2)
  (.seq (.seq (.reg f626r3)
  (.cond (tO 11) (.seq (.seq (.reg f626r4)
  (.cond (tO 12) (.seq (.reg f626r5)
  .ret) .skip))
  (.seq (.reg f626r6)
  .ret)) .skip))
  (.seq (.seq (.reg f626r7)
  (.cond (tO 13) (.seq (.reg f626r8)
  .ret) .skip))
  (.seq (.seq (.reg f626r9)
  (.cond (tO 16) (.seq (.reg f626r10)
  .ret) .skip))
  (.seq (.seq (.reg f626r11)
  (.cond (tO 19) (.seq (.reg f626r12)
  .ret) .skip))
  (.seq (.reg f626r13)
  .ret))))))))
theorem f626_eq : fnF look 626 = some ⟨20, f626c, [.tmp 4]⟩ := by kernel_rfl
def f655r0 : K2 :=
  .mv (.con (.bool false)) (some (sOf 2)) <|
  .done
def f655r1 : K2 :=
  .mv (tO 0) (some (sOf 3)) <|
  .mv (tO 0) (some (sOf 4)) <|
  .p2 (binF .neq (evBin look .neq 3 (.tmp 3) (.tmp 4))) (tO 3) (tO 4) (some (sOf 5)) <|
  .mv (tO 5) (some (sOf 2)) <|
  .done
def f655c : C2 := (.seq (.reg f655r0)
  (.seq (.reg f655r1)
  .ret))
theorem f655_eq : fnF look 655 = some ⟨6, f655c, [.tmp 2]⟩ := by kernel_rfl
theorem c268 : zgd = .seq (seqA zgd) (.seq (.seq (seqA (seqA (seqB zgd))) (.block 0 (.rangeFunc (.tmp 6) #[7] znf zof))) (seqB (seqB zgd))) := by kernel_rfl
theorem c268a : comp look (seqA zgd) = .reg f653r0 := by kernel_rfl
theorem c268b : comp look (seqA (seqA (seqB zgd))) = .reg f653r1 := by kernel_rfl
theorem c268c : comp look (seqB (seqB zgd)) = .seq (.reg f653r4) .ret := by kernel_rfl
theorem w268a : wfC 13 (seqA zgd) = true := by kernel_rfl
theorem w268b : wfC 13 (seqA (seqA (seqB zgd))) = true := by kernel_rfl
theorem w268c : wfC 13 (seqB (seqB zgd)) = true := by kernel_rfl
theorem w268d : wfC 13 znf = true := by kernel_rfl
theorem w268e : wfC 13 zof = true := by kernel_rfl
theorem l268 : ∃ fn, look.func 653 = some fn ∧ fn.body = some zgd ∧ fn.ntmps = 13 ∧ fn.results.toList = [.tmp 4] := ⟨Tryz.f653, by kernel_rfl, by kernel_rfl, by kernel_rfl, by kernel_rfl⟩
theorem Row.one_eq {H : AH} {i e z : Nat} {ro op : Bool} {u v : AV} (h : Row H i ro op e z [u]) (h' : Row H i ro op e z [v]) : u = v := by
  obtain ⟨c, h1, h2⟩ := h
  obtain ⟨d, h3, h4⟩ := h'
  rw [h1] at h3
  cases h3
  rw [h2] at h4
  exact (List.cons.inj h4).1
theorem zyd1 (B : Nat) (H : AH) (cell m : Nat) (es : List En) (clock : Nat) (ks : List Ad) (hM : MapA es clock ks) (hc : Row H cell false false 545 1 [.map m]) (hm : H.get m = some (.map es clock)) (hcl : cell < H.next) (hml : m < H.next) (hlo : H.lo ≤ H.next) (hh : H.hide = []) (hal : es.length ≤ 100000) :
    FnN Tryz.prog B 653 [.nilSl, .fn (.func 625) [] [.ptr cell 0]] H fun v H' => ∃ acc : List Ad, acc.Perm ks ∧ (acc = [] → v = .nilSl) ∧ HX H H' ∧ Ap H' v acc.length (aC acc) 234 2 H.next := by
  obtain ⟨fn, h1, h2, h3, h4⟩ := l268
  refine zxf look_ok h1 h2 (by rw [h3]; simp) ?_
  rw [h3, h4, c268]
  obtain ⟨H1, hal1, hx1, hn1, hr1⟩ := zmi (e := 111) (s := 1) (c := AV.toC .nilSl) hh
  rw [toC_l] at hr1
  have hh1 : H1.hide = [] := hx1.hide.trans hh
  refine zgb (R1 := fun ex T' H' => ex = .normal ∧ gT T' 1 = .fn (.func 625) [] [.ptr cell 0] ∧ gT T' 2 = .ptr H.next 0 ∧ H' = H1) ?_ ?_ (fun ex T2 H2 h hne => absurd h.1 hne)
  · refine zcc look_ok (zia B) w268a ?_
    rw [c268a]
    unfold f653r0
    (repeat' (first | refine Z ?_ | refine Zq ?_ | refine zaa (by decide) ?_ | ((first | refine' Y ?_ ?_ | refine' X ?_ ?_ ?_); rotate_left; (· (first | (simp (disch := omega) only [evl, Nat.reduceEqDiff, Nat.reduceAdd, reduceIte, reduceCtorEq] <;> exact rfl) | exact rfl)); all_goals try (refine fun (hb : _ = _) => ?_; try simp only [Zu, ne_eq, reduceCtorEq] at hb)) | (apply zba; · simp [evl])))
    apply rk_m1
    · (simp (disch := omega) only [evl, Nat.reduceEqDiff, Nat.reduceAdd, reduceIte, reduceCtorEq])
      exact hal1
    simp only [zpa]
    (repeat' (first | refine Z ?_ | refine Zq ?_ | refine zaa (by decide) ?_ | ((first | refine' Y ?_ ?_ | refine' X ?_ ?_ ?_); rotate_left; (· (first | (simp (disch := omega) only [evl, Nat.reduceEqDiff, Nat.reduceAdd, reduceIte, reduceCtorEq] <;> exact rfl) | exact rfl)); all_goals try (refine fun (hb : _ = _) => ?_; try simp only [Zu, ne_eq, reduceCtorEq] at hb)) | (apply zba; · simp [evl])))
    exact zma ⟨rfl, (by (first | (simp (disch := omega) only [evl, Nat.reduceEqDiff, Nat.reduceAdd, reduceIte, reduceCtorEq] <;> exact rfl) | exact rfl)), (by (first | (simp (disch := omega) only [evl, Nat.reduceEqDiff, Nat.reduceAdd, reduceIte, reduceCtorEq] <;> exact rfl) | exact rfl)), rfl⟩
  rintro T1 H1' ⟨_, t1, t2, rfl⟩
  refine zgb (R1 := fun ex T' H' => ex = .normal ∧ gT T' 2 = .ptr H.next 0 ∧ ∃ acc : List Ad, acc.Perm ks ∧ HX H H' ∧ ∃ s, (acc = [] → s = .nilSl) ∧ Row H' H.next false false 111 1 [s] ∧ Ap H' s acc.length (aC acc) 234 2 H.next) ?_ ?_ (fun ex T2 H2 h hne => absurd h.1 hne)
  · refine zgb (R1 := fun ex T' H' => ex = .normal ∧ gT T' 2 = .ptr H.next 0 ∧ gT T' 6 = .fn (.func 625) [] [.ptr cell 0] ∧ H' = H1') ?_ ?_ (fun ex T2 H2 h hne => absurd h.1 hne)
    · refine zcc look_ok (zia B) w268b ?_
      rw [c268b]
      unfold f653r1
      (repeat' (first | refine Z ?_ | refine Zq ?_ | refine zaa (by decide) ?_ | ((first | refine' Y ?_ ?_ | refine' X ?_ ?_ ?_); rotate_left; (· (first | (simp (disch := omega) only [evl, Nat.reduceEqDiff, Nat.reduceAdd, reduceIte, reduceCtorEq, t1] <;> exact rfl) | exact rfl)); all_goals try (refine fun (hb : _ = _) => ?_; try simp only [Zu, ne_eq, reduceCtorEq] at hb)) | (apply zba; · simp [evl])))
      exact zma ⟨rfl, (by (first | (simp (disch := omega) only [evl, Nat.reduceEqDiff, Nat.reduceAdd, reduceIte, reduceCtorEq, t2] <;> exact rfl) | exact rfl)), (by (first | (simp (disch := omega) only [evl, Nat.reduceEqDiff, Nat.reduceAdd, reduceIte, reduceCtorEq, t1] <;> exact rfl) | exact rfl)), rfl⟩
    rintro T2 H2 ⟨_, s2, s6, rfl⟩
    obtain ⟨fn', k1, k2, k3, k4⟩ := l177
    refine zni (R1 := fun ex T' H' => ex = .normal ∧ gT T' 2 = .ptr H.next 0 ∧ ∃ acc : List Ad, acc.Perm ks ∧ HX H H' ∧ ∃ s, (acc = [] → s = .nilSl) ∧ Row H' H.next false false 111 1 [s] ∧ Ap H' s acc.length (aC acc) 234 2 H.next) ?_ ?_
    · have hx2 : HX H2 (H2.new (.loop .ready none T2 0 [7] znf zof)) := HX.new _ _
      refine zfv look_ok (g := .fn (.func 625) [] [.ptr cell 0]) (by rw [zmb, s6]) rfl k1 k2 (by simp) w268d w268e (each_ok B _ H2.next H.next cell m (H2.next + 1) es clock ks hM ⟨T2, s2, AH.get_new hh1 _⟩ (hr1.hx hx2 (by omega)) ((hc.hx hx1 hcl).hx hx2 (by omega)) (by rw [hx2.get (by omega), hx1.get hml]; exact hm) (by omega) (by omega) (by omega) (by omega) (by omega) (by omega) rfl ?_ ?_ hh1 hal) ?_
      · show H2.lo ≤ H.next
        rw [hx1.lo]; exact hlo
      · show H2.lo ≤ H2.next
        rw [hx1.lo]; omega
      rintro v H3 ⟨acc, hperm, hnl, ⟨T5, hT5, hg5⟩, ⟨s, hrs, hap⟩, hp⟩
      have hnx : H2.next + 1 ≤ H3.next := hp.next
      have hlo3 : H3.lo = H.lo := hp.lo.trans hx1.lo
      refine ⟨by rw [hlo3]; omega, ⟨T5, 0, [7], znf, zof, hg5⟩, rfl, s2, acc, hperm, ?_, s, fun h => Row.one_eq hrs (hnl h), ?_, ?_⟩
      · have hpD : HP (· ≠ H2.next) H3 (H3.put H2.next .defd) := HP.put _ _ _
        exact ((((hx1.trans hx2).hp fun _ => True).trans hp (r := fun _ => True) fun j hj _ => ⟨trivial, by omega, by omega, by omega⟩).trans hpD (r := fun _ => True) fun j hj _ => ⟨trivial, by omega⟩).hx fun _ _ => trivial
      · exact hrs.hp (HP.put _ _ _) (by omega) (by omega)
      · exact Ap.le (hap.hp (HP.put _ _ _) fun i hi => by
          obtain ⟨_, ⟨rfl, _⟩ | ⟨i', rfl, _, hN', _⟩⟩ := hap
          · cases hi
          · cases hi; omega) (show H.next ≤ H2.next + 1 by omega)
    · rintro ex T3 H3 ⟨rfl, h⟩
      exact ⟨rfl, h⟩
  rintro T2 H2 ⟨_, s2, acc, hperm, hx, s, hsn, hrs, hap⟩
  refine zcc look_ok (zia B) w268c ?_
  rw [c268c]
  have hrd := hrs.rd (k := 0) rfl
  (repeat' (first | refine Z ?_ | refine Zq ?_ | refine zaa (by decide) ?_ | ((first | refine' Y ?_ ?_ | refine' X ?_ ?_ ?_); rotate_left; (· (first | (simp (disch := omega) only [evl, Nat.reduceEqDiff, Nat.reduceAdd, reduceIte, reduceCtorEq, s2, hrd] <;> exact rfl) | exact rfl)); all_goals try (refine fun (hb : _ = _) => ?_; try simp only [Zu, ne_eq, reduceCtorEq] at hb)) | (apply zba; · simp [evl])))
  refine zma ?_; refine zqc (zjc _ _) ⟨acc, hperm, ?_, hx, ?_⟩
  · (simp (disch := omega) only [evl, Nat.reduceEqDiff, Nat.reduceAdd, reduceIte, reduceCtorEq, s2, hrd])
    exact hsn
  (simp (disch := omega) only [evl, Nat.reduceEqDiff, Nat.reduceAdd, reduceIte, reduceCtorEq, s2, hrd])
  exact hap
theorem l175 : ∃ fn, look.func 623 = some fn ∧ fn.body = some zac ∧ fn.ntmps = 5 ∧ fn.results.toList = [.tmp 2] := ⟨Tryz.f623, by kernel_rfl, by kernel_rfl, by kernel_rfl, by kernel_rfl⟩
theorem c175 : zac = .seq (seqA zac) (.seq (.region 1 (opsOf (seqA (seqB zac))) false) .ret) := by kernel_rfl
theorem c175a : comp look (seqA zac) = .reg f623r0 := by kernel_rfl
theorem w175a : wfC 5 (seqA zac) = true := by kernel_rfl
theorem w175o : wfOps 5 (opsOf (seqA (seqB zac))) = true := by kernel_rfl
theorem c175o : (opsOf (seqA (seqB zac))).toList = [opN zac 1 0, opN zac 1 1, opN zac 1 2] := by kernel_rfl
theorem o175_0 : (opN zac 1 0).op = .move (.tmp 0) ∧ (opN zac 1 0).guard = none ∧ (opN zac 1 0).dst = some 3 := ⟨by kernel_rfl, by kernel_rfl, by kernel_rfl⟩
theorem o175_1 : (opN zac 1 1).op = .call { callee := .value (.func 653), args := #[.const (.slice none 0 0), .tmp 3], argTypes := #[111, 649] } ∧ (opN zac 1 1).guard = none ∧ (opN zac 1 1).dst = some 4 := ⟨by kernel_rfl, by kernel_rfl, by kernel_rfl⟩
theorem o175_2 : (opN zac 1 2).op = .assign (.tmp 4) ∧ (opN zac 1 2).guard = none ∧ (opN zac 1 2).dst = some 2 := ⟨by kernel_rfl, by kernel_rfl, by kernel_rfl⟩
theorem zzd1 {L : Lk} {T : Tr AV} {H : AH} {o : Oper} {k : Nat} (ho : o.op = .move (.tmp k)) : evOp L T o H = some (.val (gT T k) H) := by unfold evOp; rw [ho]; simp only [zmb]; rfl
theorem zgv {L : Lk} {T : Tr AV} {H : AH} {o : Oper} {k : Nat} (ho : o.op = .assign (.tmp k)) : evOp L T o H = some (.val (gT T k) H) := by unfold evOp; rw [ho]; simp only [zmb]; rfl
theorem ztd {P : Program} {B : Nat} {L : Lk} (hL : LOk L P) (hX : ExtOk L P B) {T : Tr AV} {H : AH} {ops : Array Oper} {k : Nat} {o : Oper} {l : List Oper} {x d : Nat} (hop : ops[k]? = some o) (ho : (o.op = .move (.tmp x) ∨ o.op = .assign (.tmp x)) ∧ o.guard = none ∧ o.dst = some d) {R : Tr AV → AH → Prop}
    (h : OpsN P B ops (k + 1) l (T.set d (gT T x)) H R) : OpsN P B ops k (o :: l) T H R := by
  obtain ⟨h1, h2, h3⟩ := ho
  refine zmy (n := 0) hL hX hop h2 (v := gT T x) (H1 := H) ?_ (by rw [h3]; exact h)
  unfold zqa
  rcases h1 with h1 | h1
  · rw [zzd1 h1]
  · rw [zgv h1]
theorem zyf {P : Program} {B : Nat} {L : Lk} (hL : LOk L P) {T : Tr AV} {H : AH} {ops : Array Oper} {k : Nat} {o : Oper} {l : List Oper} {f d : Nat} {xs : Array Operand} {ts : Array TypeId} {args : List AV} (hop : ops[k]? = some o) (ho : o.op = .call { callee := .value (.func f), args := xs, argTypes := ts } ∧ o.guard = none ∧ o.dst = some d)
    (ha : opnds T xs.toList = some args) {R1 : AV → AH → Prop} (hc : FnN P B f args H R1) {R : Tr AV → AH → Prop}
    (h : ∀ v H1, R1 v H1 → OpsN P B ops (k + 1) l (T.set d v) H1 R) : OpsN P B ops k (o :: l) T H R := by
  obtain ⟨h1, h2, h3⟩ := ho
  refine zpd1 hL.toLOk0 hop h2 (f := f) (args := args) ?_ hc (fun v H1 hr => by rw [h3]; exact h v H1 hr)
  unfold evOp
  rw [h1]
  simp only [ha]
  show some (Next1.enter f ([] ++ args ++ [])) = _
  rw [List.nil_append, List.append_nil]
theorem at_of {ops : Array Oper} {l : List Oper} (h : ops.toList = l) (k : Nat) {o : Oper} (ho : l[k]? = some o) : ops[k]? = some o := by rw [← Array.getElem?_toList, h]; exact ho
theorem zry (B : Nat) (H : AH) (cell m : Nat) (es : List En) (clock : Nat) (ks : List Ad) (hM : MapA es clock ks) (hc : Row H cell false false 545 1 [.map m]) (hm : H.get m = some (.map es clock)) (hcl : cell < H.next) (hml : m < H.next) (hlo : H.lo ≤ H.next) (hh : H.hide = []) (hal : es.length ≤ 100000) :
    FnN Tryz.prog B 623 [.fn (.func 625) [] [.ptr cell 0]] H fun v H' => ∃ acc : List Ad, acc.Perm ks ∧ (acc = [] → v = .nilSl) ∧ HX H H' ∧ Ap H' v acc.length (aC acc) 234 2 H.next := by
  obtain ⟨fn, h1, h2, h3, h4⟩ := l175
  refine zxf look_ok h1 h2 (by rw [h3]; simp) ?_
  rw [h3, h4, c175]
  refine zgb (R1 := fun ex T' H' => ex = .normal ∧ gT T' 0 = .fn (.func 625) [] [.ptr cell 0] ∧ H' = H) ?_ ?_ (fun ex T2 H2 h hne => absurd h.1 hne)
  · refine zcc look_ok (zia B) w175a ?_
    rw [c175a]
    unfold f623r0
    (repeat' (first | refine Z ?_ | refine Zq ?_ | refine zaa (by decide) ?_ | ((first | refine' Y ?_ ?_ | refine' X ?_ ?_ ?_); rotate_left; (· (first | (simp (disch := omega) only [evl, Nat.reduceEqDiff, Nat.reduceAdd, reduceIte, reduceCtorEq] <;> exact rfl) | exact rfl)); all_goals try (refine fun (hb : _ = _) => ?_; try simp only [Zu, ne_eq, reduceCtorEq] at hb)) | (apply zba; · simp [evl])))
    exact zma ⟨rfl, (by (first | (simp (disch := omega) only [evl, Nat.reduceEqDiff, Nat.reduceAdd, reduceIte, reduceCtorEq] <;> exact rfl) | exact rfl)), rfl⟩
  rintro T1 H1 ⟨_, t0, rfl⟩
  refine zgb (R1 := fun ex T' H' => ex = .normal ∧ ∃ acc : List Ad, acc.Perm ks ∧ (acc = [] → gT T' 2 = .nilSl) ∧ HX H1 H' ∧ Ap H' (gT T' 2) acc.length (aC acc) 234 2 H1.next) ?_ ?_ (fun ex T2 H2 h hne => absurd h.1 hne)
  · refine zvb w175o ?_
    rw [c175o]
    refine ztd look_ok (zia B) (at_of c175o 0 rfl) ⟨.inl o175_0.1, o175_0.2⟩ ?_
    refine zyf look_ok (at_of c175o 1 rfl) o175_1 (args := [.nilSl, .fn (.func 625) [] [.ptr cell 0]]) ?_ (zyd1 B H1 cell m es clock ks hM hc hm hcl hml hlo hh hal) ?_
    · show mapO (opnd _) [.const (.slice none 0 0), .tmp 3] = _
      rw [zab, zab, zrc, zmb, zcb, if_pos rfl, t0]; rfl
    rintro v H2 ⟨acc, hperm, hnl, hx, hap⟩
    refine ztd look_ok (zia B) (at_of c175o 2 rfl) ⟨.inr o175_2.1, o175_2.2⟩ ?_
    refine zre ⟨rfl, acc, hperm, ?_, hx, ?_⟩
    · rw [zcb, if_pos rfl, zcb, if_pos rfl]; exact hnl
    rw [zcb, if_pos rfl, zcb, if_pos rfl]; exact hap
  rintro T2 H2 ⟨_, acc, hperm, hnl, hx, hap⟩
  exact zcc look_ok (zia B) rfl (rc_ret (zma (zqc (zjc _ _) ⟨acc, hperm, hnl, hx, hap⟩)))
theorem nan_ok (H : AH) (a : Int) : FnE look 655 [.int .i64 a] H fun r H' => r = .bool false ∧ H' = H := by
  refine zzb f655_eq noext rfl ?_
  unfold f655c
  (repeat' (first | refine Z ?_ | refine Zq ?_ | refine zaa (by decide) ?_ | ((first | refine' Y ?_ ?_ | refine' X ?_ ?_ ?_); rotate_left; (· (first | (simp (disch := omega) only [evl, Nat.reduceEqDiff, Nat.reduceAdd, reduceIte, reduceCtorEq] <;> exact rfl) | exact rfl)); all_goals try (refine fun (hb : _ = _) => ?_; try simp only [Zu, ne_eq, reduceCtorEq] at hb)) | (apply zba; · simp [evl])))
  refine zma ?_
  refine zqc (zjc _ _) ⟨?_, rfl⟩
  (simp (disch := omega) only [evl, Nat.reduceEqDiff, Nat.reduceAdd, reduceIte, reduceCtorEq, ne_eq, not_true_eq_false, decide_false])
def cmpI (a b : Int) : Int := if a < b then -1 else if b < a then 1 else 0
theorem cmp_ok (H : AH) (a b : Int) : FnE look 626 [.int .i64 a, .int .i64 b] H fun r H' => r = .int .i64 (cmpI a b) ∧ H' = H := by
  refine zzb f626_eq noext rfl ?_
  unfold f626c
  (repeat' (first | refine Z ?_ | refine Zq ?_ | refine zaa (by decide) ?_ | ((first | refine' Y ?_ ?_ | refine' X ?_ ?_ ?_); rotate_left; (· (first | (simp (disch := omega) only [evl, Nat.reduceEqDiff, Nat.reduceAdd, reduceIte, reduceCtorEq] <;> exact rfl) | exact rfl)); all_goals try (refine fun (hb : _ = _) => ?_; try simp only [Zu, ne_eq, reduceCtorEq] at hb)) | (apply zba; · simp [evl])))
  refine rk_cl (by (simp (disch := omega) only [evl, Nat.reduceEqDiff, Nat.reduceAdd, reduceIte, reduceCtorEq]); exact nan_ok H a) ?_
  rintro r H1 ⟨rfl, rfl⟩
  simp only [zpa]
  (repeat' (first | refine Z ?_ | refine Zq ?_ | refine zaa (by decide) ?_ | ((first | refine' Y ?_ ?_ | refine' X ?_ ?_ ?_); rotate_left; (· (first | (simp (disch := omega) only [evl, Nat.reduceEqDiff, Nat.reduceAdd, reduceIte, reduceCtorEq] <;> exact rfl) | exact rfl)); all_goals try (refine fun (hb : _ = _) => ?_; try simp only [Zu, ne_eq, reduceCtorEq] at hb)) | (apply zba; · simp [evl])))
  refine rk_cl (by (simp (disch := omega) only [evl, Nat.reduceEqDiff, Nat.reduceAdd, reduceIte, reduceCtorEq]); exact nan_ok H1 b) ?_
  rintro r H2 ⟨rfl, rfl⟩
  simp only [zpa]
  by_cases h1 : a < b
  · have e : cmpI a b = -1 := if_pos h1
    rw [e]
    (repeat' (first | refine Z ?_ | refine Zq ?_ | refine zaa (by decide) ?_ | ((first | refine' Y ?_ ?_ | refine' X ?_ ?_ ?_); rotate_left; (· (first | (simp (disch := omega) only [evl, Nat.reduceEqDiff, Nat.reduceAdd, reduceIte, reduceCtorEq] <;> exact rfl) | exact rfl)); all_goals try (refine fun (hb : _ = _) => ?_; try simp only [Zu, ne_eq, reduceCtorEq] at hb)) | (apply zba; · simp [evl])))
    refine zma ?_
    exact zqc (zjc _ _) ⟨(by (first | (simp (disch := omega) only [evl, Nat.reduceEqDiff, Nat.reduceAdd, reduceIte, reduceCtorEq] <;> exact rfl) | exact rfl)), rfl⟩
  · by_cases h2 : b < a
    · have e : cmpI a b = 1 := by unfold cmpI; rw [if_neg h1, if_pos h2]
      rw [e]
      (repeat' (first | refine Z ?_ | refine Zq ?_ | refine zaa (by decide) ?_ | ((first | refine' Y ?_ ?_ | refine' X ?_ ?_ ?_); rotate_left; (· (first | (simp (disch := omega) only [evl, Nat.reduceEqDiff, Nat.reduceAdd, reduceIte, reduceCtorEq] <;> exact rfl) | exact rfl)); all_goals try (refine fun (hb : _ = _) => ?_; try simp only [Zu, ne_eq, reduceCtorEq] at hb)) | (apply zba; · simp [evl])))
      refine zma ?_
      exact zqc (zjc _ _) ⟨(by (first | (simp (disch := omega) only [evl, Nat.reduceEqDiff, Nat.reduceAdd, reduceIte, reduceCtorEq] <;> exact rfl) | exact rfl)), rfl⟩
    · have e : cmpI a b = 0 := by unfold cmpI; rw [if_neg h1, if_neg h2]
      rw [e]
      (repeat' (first | refine Z ?_ | refine Zq ?_ | refine zaa (by decide) ?_ | ((first | refine' Y ?_ ?_ | refine' X ?_ ?_ ?_); rotate_left; (· (first | (simp (disch := omega) only [evl, Nat.reduceEqDiff, Nat.reduceAdd, reduceIte, reduceCtorEq] <;> exact rfl) | exact rfl)); all_goals try (refine fun (hb : _ = _) => ?_; try simp only [Zu, ne_eq, reduceCtorEq] at hb)) | (apply zba; · simp [evl])))
      refine zma ?_
      exact zqc (zjc _ _) ⟨(by (first | (simp (disch := omega) only [evl, Nat.reduceEqDiff, Nat.reduceAdd, reduceIte, reduceCtorEq] <;> exact rfl) | exact rfl)), rfl⟩
theorem u32 : look.under 32 = some (.slice 3) := by kernel_rfl
theorem ixn {i n c j : Nat} {op : Bool} (h : j < n) : ixS 1 (.sl i 0 n c op) (.int .i64 (j : Int)) = some (.ptr i j) := by
  show brec none (some (AV.ptr i (0 + j * 1))) (Nat.blt j n) = _
  rw [show Nat.blt j n = true from by rw [Nat.blt_eq]; exact h, Nat.zero_add, Nat.mul_one]; rfl
theorem or_ok (H : AH) (i : Nat) (x y : Int) (hr : Row H i false false 3 1 [.int .i64 x, .int .i64 y]) (hi : i < H.next) : FnE look 532 [.sl i 0 2 2 false] H fun r H' => r = .int .i64 (if x = 0 then y else x) ∧ H' = H := by
  refine zzb f532_eq noext rfl ?_
  unfold f532c
  have hlen := zaj (L := look) (H := H) (H' := H) u32 (hr.isSl (o := 0) (n := 2) (c := 2) (op' := false) hi (Nat.zero_le _))
  have ix0 := ixn (i := i) (n := 2) (c := 2) (op := false) (j := 0) (by decide)
  have ix1 := ixn (i := i) (n := 2) (c := 2) (op := false) (j := 1) (by decide)
  have r0 := hr.rd (k := 0) rfl
  have r1 := hr.rd (k := 1) rfl
  have hlen' : fstO (zna .len look [32] [.sl i 0 2 2 false] H) = some (.int .i64 2) := hlen
  have ix0' : ixS 1 (.sl i 0 2 2 false) (.int .i64 0) = some (.ptr i 0) := ix0
  have ix1' : ixS 1 (.sl i 0 2 2 false) (.int .i64 1) = some (.ptr i 1) := ix1
  (repeat' (first | refine Z ?_ | refine Zq ?_ | refine zaa (by decide) ?_ | ((first | refine' Y ?_ ?_ | refine' X ?_ ?_ ?_); rotate_left; (· (first | (simp (disch := omega) only [evl, Nat.reduceEqDiff, Nat.reduceAdd, reduceIte, reduceCtorEq, hlen'] <;> exact rfl) | exact rfl)); all_goals try (refine fun (hb : _ = _) => ?_; try simp only [Zu, ne_eq, reduceCtorEq] at hb)) | (apply zba; · simp [evl])))
  refine zoh (R := fun ex T' H' => H' = H ∧ ((ex = .ret ∧ gT T' 2 = .int .i64 (if x = 0 then y else x)) ∨ (ex = .exit 0 ∧ x = 0 ∧ y = 0 ∧ gT T' 3 = .int .i64 0))) ?_ ?_
  · refine zxm zxd1 (fun k T H' => H' = H ∧ gT T 3 = .int .i64 0 ∧ gT T 6 = .sl i 0 2 2 false ∧ gT T 7 = .int .i64 2 ∧ ((k = 2 ∧ gT T 8 = .int .i64 0) ∨ (k = 1 ∧ gT T 8 = .int .i64 1 ∧ x = 0) ∨ (k = 0 ∧ gT T 8 = .int .i64 2 ∧ x = 0 ∧ y = 0))) _ ?_ 2 _ _ ?_
    · rintro k T H' ⟨rfl, t3, t6, t7, ⟨rfl, t8⟩ | ⟨rfl, t8, hx⟩ | ⟨rfl, t8, hx, hy⟩⟩
      · unfold zwd1
        by_cases hx : x = 0
        · (repeat' (first | refine Z ?_ | refine Zq ?_ | refine zaa (by decide) ?_ | ((first | refine' Y ?_ ?_ | refine' X ?_ ?_ ?_); rotate_left; (· (first | (simp (disch := omega) only [evl, Nat.reduceEqDiff, Nat.reduceAdd, reduceIte, reduceCtorEq, t3, t6, t7, t8, ix0', r0] <;> exact rfl) | exact rfl)); all_goals try (refine fun (hb : _ = _) => ?_; try simp only [Zu, ne_eq, reduceCtorEq] at hb)) | (apply zba; · simp [evl])))
          refine zma ?_; refine lpq_n 1 (by decide) ?_
          exact ⟨rfl, (by (first | (simp (disch := omega) only [evl, Nat.reduceEqDiff, Nat.reduceAdd, reduceIte, reduceCtorEq, t3] <;> exact rfl) | exact rfl)), (by (first | (simp (disch := omega) only [evl, Nat.reduceEqDiff, Nat.reduceAdd, reduceIte, reduceCtorEq, t6] <;> exact rfl) | exact rfl)), (by (first | (simp (disch := omega) only [evl, Nat.reduceEqDiff, Nat.reduceAdd, reduceIte, reduceCtorEq, t7] <;> exact rfl) | exact rfl)), .inr (.inl ⟨rfl, (by (first | (simp (disch := omega) only [evl, Nat.reduceEqDiff, Nat.reduceAdd, reduceIte, reduceCtorEq] <;> exact rfl) | exact rfl)), hx⟩)⟩
        · (repeat' (first | refine Z ?_ | refine Zq ?_ | refine zaa (by decide) ?_ | ((first | refine' Y ?_ ?_ | refine' X ?_ ?_ ?_); rotate_left; (· (first | (simp (disch := omega) only [evl, Nat.reduceEqDiff, Nat.reduceAdd, reduceIte, reduceCtorEq, t3, t6, t7, t8, ix0', r0] <;> exact rfl) | exact rfl)); all_goals try (refine fun (hb : _ = _) => ?_; try simp only [Zu, ne_eq, reduceCtorEq] at hb)) | (apply zba; · simp [evl])))
          refine zma ?_; refine lpq_r ?_
          rw [if_neg hx]
          exact ⟨rfl, .inl ⟨rfl, (by (first | (simp (disch := omega) only [evl, Nat.reduceEqDiff, Nat.reduceAdd, reduceIte, reduceCtorEq, r0] <;> exact rfl) | exact rfl))⟩⟩
      · unfold zwd1
        subst hx
        by_cases hy : y = 0
        · (repeat' (first | refine Z ?_ | refine Zq ?_ | refine zaa (by decide) ?_ | ((first | refine' Y ?_ ?_ | refine' X ?_ ?_ ?_); rotate_left; (· (first | (simp (disch := omega) only [evl, Nat.reduceEqDiff, Nat.reduceAdd, reduceIte, reduceCtorEq, t3, t6, t7, t8, ix1', r1] <;> exact rfl) | exact rfl)); all_goals try (refine fun (hb : _ = _) => ?_; try simp only [Zu, ne_eq, reduceCtorEq] at hb)) | (apply zba; · simp [evl])))
          refine zma ?_; refine lpq_n 0 (by decide) ?_
          exact ⟨rfl, (by (first | (simp (disch := omega) only [evl, Nat.reduceEqDiff, Nat.reduceAdd, reduceIte, reduceCtorEq, t3] <;> exact rfl) | exact rfl)), (by (first | (simp (disch := omega) only [evl, Nat.reduceEqDiff, Nat.reduceAdd, reduceIte, reduceCtorEq, t6] <;> exact rfl) | exact rfl)), (by (first | (simp (disch := omega) only [evl, Nat.reduceEqDiff, Nat.reduceAdd, reduceIte, reduceCtorEq, t7] <;> exact rfl) | exact rfl)), .inr (.inr ⟨rfl, (by (first | (simp (disch := omega) only [evl, Nat.reduceEqDiff, Nat.reduceAdd, reduceIte, reduceCtorEq] <;> exact rfl) | exact rfl)), rfl, hy⟩)⟩
        · (repeat' (first | refine Z ?_ | refine Zq ?_ | refine zaa (by decide) ?_ | ((first | refine' Y ?_ ?_ | refine' X ?_ ?_ ?_); rotate_left; (· (first | (simp (disch := omega) only [evl, Nat.reduceEqDiff, Nat.reduceAdd, reduceIte, reduceCtorEq, t3, t6, t7, t8, ix1', r1] <;> exact rfl) | exact rfl)); all_goals try (refine fun (hb : _ = _) => ?_; try simp only [Zu, ne_eq, reduceCtorEq] at hb)) | (apply zba; · simp [evl])))
          refine zma ?_; refine lpq_r ?_
          rw [if_pos rfl]
          exact ⟨rfl, .inl ⟨rfl, (by (first | (simp (disch := omega) only [evl, Nat.reduceEqDiff, Nat.reduceAdd, reduceIte, reduceCtorEq, r1] <;> exact rfl) | exact rfl))⟩⟩
      · unfold zwd1
        (repeat' (first | refine Z ?_ | refine Zq ?_ | refine zaa (by decide) ?_ | ((first | refine' Y ?_ ?_ | refine' X ?_ ?_ ?_); rotate_left; (· (first | (simp (disch := omega) only [evl, Nat.reduceEqDiff, Nat.reduceAdd, reduceIte, reduceCtorEq, t3, t6, t7, t8] <;> exact rfl) | exact rfl)); all_goals try (refine fun (hb : _ = _) => ?_; try simp only [Zu, ne_eq, reduceCtorEq] at hb)) | (apply zba; · simp [evl])))
        refine zma ?_; refine lpq_e ?_
        exact ⟨rfl, .inr ⟨rfl, hx, hy, t3⟩⟩
    · exact ⟨rfl, (by (first | (simp (disch := omega) only [evl, Nat.reduceEqDiff, Nat.reduceAdd, reduceIte, reduceCtorEq] <;> exact rfl) | exact rfl)), (by (first | (simp (disch := omega) only [evl, Nat.reduceEqDiff, Nat.reduceAdd, reduceIte, reduceCtorEq] <;> exact rfl) | exact rfl)), (by (first | (simp (disch := omega) only [evl, Nat.reduceEqDiff, Nat.reduceAdd, reduceIte, reduceCtorEq, hlen'] <;> exact rfl) | exact rfl)), .inl ⟨rfl, (by (first | (simp (disch := omega) only [evl, Nat.reduceEqDiff, Nat.reduceAdd, reduceIte, reduceCtorEq] <;> exact rfl) | exact rfl))⟩⟩
  · rintro ex T' H' ⟨rfl, ⟨rfl, t2⟩ | ⟨rfl, hx, hy, t3⟩⟩
    · (repeat' (first | refine Z ?_ | refine Zq ?_ | refine zaa (by decide) ?_ | ((first | refine' Y ?_ ?_ | refine' X ?_ ?_ ?_); rotate_left; (· (first | (simp (disch := omega) only [evl, Nat.reduceEqDiff, Nat.reduceAdd, reduceIte, reduceCtorEq] <;> exact rfl) | exact rfl)); all_goals try (refine fun (hb : _ = _) => ?_; try simp only [Zu, ne_eq, reduceCtorEq] at hb)) | (apply zba; · simp [evl])))
      refine zma ?_
      exact zqc (zjc _ _) ⟨t2, rfl⟩
    · (repeat' (first | refine Z ?_ | refine Zq ?_ | refine zaa (by decide) ?_ | ((first | refine' Y ?_ ?_ | refine' X ?_ ?_ ?_); rotate_left; (· (first | (simp (disch := omega) only [evl, Nat.reduceEqDiff, Nat.reduceAdd, reduceIte, reduceCtorEq, t3] <;> exact rfl) | exact rfl)); all_goals try (refine fun (hb : _ = _) => ?_; try simp only [Zu, ne_eq, reduceCtorEq] at hb)) | (apply zba; · simp [evl])))
      refine zma ?_
      refine zqc (zjc _ _) ⟨?_, rfl⟩
      (simp (disch := omega) only [evl, Nat.reduceEqDiff, Nat.reduceAdd, reduceIte, reduceCtorEq, t3])
      rw [if_pos hx, hy]
end HS
set_option maxRecDepth 100000
namespace Go.Proofs
open Go.Shelf
def Tryz.sortAd_ren : Go.Shelf.Ren := ⟨fun | 6 => 624 | 15 => 601 | 14 => 654 | 28 => 641 | 29 => 642 | 20 => 663 | 21 => 664 | 22 => 665 | 23 => 666 | 24 => 667 | 25 => 668 | 26 => 669 | 27 => 670 | 46 => 674 | 47 => 658 | 48 => 659 | 49 => 675 | 50 => 676 | 57 => 678 | n => n, fun | 22 => 111 | 24 => 234 | 25 => 651 | 3 => 3 | 39 => 499 | 0 => 0 | 53 => 519 | 55 => 549 | 4 => 4 | 46 => 698 | 45 => 697 | 50 => 215 | 5 => 5 | 9 => 9 | 66 => 710 | 70 => 185 | 76 => 730 | 77 => 731 | n => n, fun | n => n⟩
theorem Tryz.sortAd : Go.Proofs.SlLaysF0.n6 Tryz.prog Tryz.sortAd_ren := {
  mixed := by kernel_rfl
  f6 := ⟨Tryz.f624.name, by decide, Tryz.func624.trans (congrArg some (by kernel_rfl))⟩
  f14 := ⟨Tryz.f654.name, by decide, Tryz.func654.trans (congrArg some (by kernel_rfl))⟩
  f15 := Tryz.func601.trans (congrArg some (by kernel_rfl))
  f20 := ⟨Tryz.f663.name, by decide, Tryz.func663.trans (congrArg some (by kernel_rfl))⟩
  f21 := ⟨Tryz.f664.name, by decide, Tryz.func664.trans (congrArg some (by kernel_rfl))⟩
  f22 := ⟨Tryz.f665.name, by decide, Tryz.func665.trans (congrArg some (by kernel_rfl))⟩
  f23 := ⟨Tryz.f666.name, by decide, Tryz.func666.trans (congrArg some (by kernel_rfl))⟩
  f24 := ⟨Tryz.f667.name, by decide, Tryz.func667.trans (congrArg some (by kernel_rfl))⟩
  f25 := ⟨Tryz.f668.name, by decide, Tryz.func668.trans (congrArg some (by kernel_rfl))⟩
  f26 := ⟨Tryz.f669.name, by decide, Tryz.func669.trans (congrArg some (by kernel_rfl))⟩
  f27 := ⟨Tryz.f670.name, by decide, Tryz.func670.trans (congrArg some (by kernel_rfl))⟩
  f28 := Tryz.func641.trans (congrArg some (by kernel_rfl))
  f29 := Tryz.func642.trans (congrArg some (by kernel_rfl))
  f46 := ⟨Tryz.f674.name, by decide, Tryz.func674.trans (congrArg some (by kernel_rfl))⟩
  f47 := Tryz.func658.trans (congrArg some (by kernel_rfl))
  f48 := Tryz.func659.trans (congrArg some (by kernel_rfl))
  f49 := ⟨Tryz.f675.name, by decide, Tryz.func675.trans (congrArg some (by kernel_rfl))⟩
  f50 := ⟨Tryz.f676.name, by decide, Tryz.func676.trans (congrArg some (by kernel_rfl))⟩
  f57 := ⟨Tryz.f678.name, by decide, Tryz.func678.trans (congrArg some (by kernel_rfl))⟩
  t0 := Tryz.underlying0
  a0 := Tryz.isAgg0
  z0 := Tryz.sizeOf0
  v0 := Tryz.zeroValue0
  t3 := Tryz.underlying3
  a3 := Tryz.isAgg3
  z3 := Tryz.sizeOf3
  v3 := Tryz.zeroValue3
  t4 := Tryz.underlying4
  a4 := Tryz.isAgg4
  z4 := Tryz.sizeOf4
  v4 := Tryz.zeroValue4
  t5 := Tryz.underlying5
  a5 := Tryz.isAgg5
  z5 := Tryz.sizeOf5
  v5 := Tryz.zeroValue5
  t9 := Tryz.underlying9
  a9 := Tryz.isAgg9
  z9 := Tryz.sizeOf9
  v9 := Tryz.zeroValue9
  t22 := Tryz.underlying111
  a22 := Tryz.isAgg111
  z22 := Tryz.sizeOf111
  v22 := Tryz.zeroValue111
  t25 := Tryz.underlying651
  a25 := Tryz.isAgg651
  z25 := Tryz.sizeOf651
  v25 := Tryz.zeroValue651
  t39 := Tryz.underlying499
  a39 := Tryz.isAgg499
  z39 := Tryz.sizeOf499
  v39 := Tryz.zeroValue499
  t45 := Tryz.underlying697
  a45 := Tryz.isAgg697
  z45 := Tryz.sizeOf697
  v45 := Tryz.zeroValue697
  t46 := Tryz.underlying698
  a46 := Tryz.isAgg698
  z46 := Tryz.sizeOf698
  v46 := Tryz.zeroValue698
  t50 := Tryz.underlying215
  a50 := Tryz.isAgg215
  z50 := Tryz.sizeOf215
  v50 := Tryz.zeroValue215
  t53 := Tryz.underlying519
  a53 := Tryz.isAgg519
  z53 := Tryz.sizeOf519
  v53 := Tryz.zeroValue519
  t55 := Tryz.underlying549
  a55 := Tryz.isAgg549
  z55 := Tryz.sizeOf549
  v55 := Tryz.zeroValue549
  t66 := Tryz.underlying710
  a66 := Tryz.isAgg710
  z66 := Tryz.sizeOf710
  v66 := Tryz.zeroValue710
  t70 := Tryz.underlying185
  a70 := Tryz.isAgg185
  z70 := Tryz.sizeOf185
  v70 := Tryz.zeroValue185
  t76 := Tryz.underlying730
  a76 := Tryz.isAgg730
  z76 := Tryz.sizeOf730
  v76 := Tryz.zeroValue730
  t77 := Tryz.underlying731
  a77 := Tryz.isAgg731
  z77 := Tryz.sizeOf731
  v77 := Tryz.zeroValue731 }
end Go.Proofs
open Go Go.Proofs Go.RowKit
namespace HS
open Go.Ev
open Ra Rb Rc Rd Re Rf Rg Rh Ri Rj Rk Rl Rm Rn Ro Rp Rq Rr
set_option maxRecDepth 100000
theorem zae1 (T : Tr AV) : ptrsO (some []) T = some [] := rfl
theorem zpp {T : Tr AV} {k i o : Nat} {ks : List S2} {js : List Nat} (h : (tO k).ev T = .ptr i o) (hs : ptrsO (some ks) T = some js) : ptrsO (some (sOf k :: ks)) T = some (i :: js) := by
  have hg : (sOf k).get T = some (.ptr i o) := by
    rw [ev_tO] at h
    rw [zql]
    unfold gT at h
    cases hT : T.get k with
    | none => rw [hT] at h; cases h
    | some v => rw [hT] at h; exact congrArg some h
  show (match (sOf k).get T with | some (.ptr i _) => (match ptrsO (some ks) T with | some js => some (i :: js) | none => none) | _ => none) = _
  rw [hg, hs]
theorem bs_two {s e : Nat} {z u v : AV} {H : AH} (hh : H.hide = []) (hz : z.cells.length = s) (hu : u.cells.length = s) (hv : v.cells.length = s) :
    ∃ H', bsF s 2 z e (zipF [0, 1] [u, v]) H = some (.sl H.next 0 2 2 false, H') ∧ HX H H' ∧ H'.next = H.next + 1 ∧ Row H' H.next false false e s (u.cells ++ v.cells) := by
  have hf : fillL (fun i => some (Nat.mul i s, s)) (zipF [0, 1] [u, v]) (rep z.cells 2) = some (u.cells ++ v.cells) := by
    show (match Nat.beq (len u.cells) s with
      | false => none
      | true => match zyc u.cells (rep z.cells 2) (Nat.mul 0 s) with
        | none => none
        | some cs' => (match Nat.beq (len v.cells) s with
          | false => none
          | true => match zyc v.cells cs' (Nat.mul 1 s) with
            | none => none
            | some cs' => some cs')) = _
    rw [zpc, zpc, hu, hv, show Nat.beq s s = true from Nat.beq_refl s]
    have hrl : (rep z.cells 2).length = 2 * s := by rw [zzd, hz]
    have h1 : zyc u.cells (rep z.cells 2) (Nat.mul 0 s) = some (u.cells ++ (rep z.cells 2).drop s) := (znb _ _ _ _).2 ⟨by rw [hrl, hu, show Nat.mul 0 s = 0 from Nat.zero_mul s]; omega, by
      rw [show Nat.mul 0 s = 0 from Nat.zero_mul s, hu, Nat.zero_add]; simp⟩
    rw [h1]
    simp only
    have h2 : zyc v.cells (u.cells ++ (rep z.cells 2).drop s) (Nat.mul 1 s) = some (u.cells ++ v.cells) := (znb _ _ _ _).2 ⟨by rw [List.length_append, List.length_drop, hrl, hu, hv, show Nat.mul 1 s = s from Nat.one_mul s]; omega, by
      rw [show Nat.mul 1 s = s from Nat.one_mul s, hv]
      rw [List.take_left' hu, List.drop_eq_nil_of_le (by rw [List.length_append, List.length_drop, hrl, hu]; omega)]; simp⟩
    rw [h2]
  refine ⟨H.new (.cells (Ce.of (u.cells ++ v.cells)) e s false false), ?_, HX.new _ _, rfl, ?_⟩
  · unfold bsF
    rw [hf]
    exact zwi (.cells (Ce.of (u.cells ++ v.cells)) e s false false) (fun m H' => some (.sl m 0 2 2 false, H')) H
  · have := Row.new hh (Ce.of (u.cells ++ v.cells)) e s false false
    rwa [Ce.of_l] at this
def ordA (p q : Ad) : Int := if cmpI p.1 q.1 = 0 then cmpI p.2 q.2 else cmpI p.1 q.1
theorem zvj1 (H : AH) (p q : Ad) (hh : H.hide = []) : FnE look 578 [aV p, aV q] H fun r H' => r = .int .i64 (ordA p q) ∧ HX H H' := by
  refine zzb f578_eq noext rfl ?_
  unfold f578c
  obtain ⟨H1, hal1, hx1, hn1, hr1⟩ := zmi (e := 234) (s := 2) (c := (aV p).toC) hh
  rw [toC_l] at hr1
  have hh1 : H1.hide = [] := hx1.hide.trans hh
  obtain ⟨H2, hal2, hx2, hn2, hr2⟩ := zmi (e := 234) (s := 2) (c := (aV q).toC) hh1
  rw [toC_l] at hr2
  have hh2 : H2.hide = [] := hx2.hide.trans hh1
  have hr1' := hr1.hx hx2 (by omega)
  have p0 : ld1 (.ptr H.next 0) H2 = some (.int .i64 p.1) := hr1'.rd (k := 0) rfl
  have p1 : ld1 (.ptr H.next 1) H2 = some (.int .i64 p.2) := hr1'.rd (k := 1) rfl
  have q0 : ld1 (.ptr H1.next 0) H2 = some (.int .i64 q.1) := hr2.rd (k := 0) rfl
  have q1 : ld1 (.ptr H1.next 1) H2 = some (.int .i64 q.2) := hr2.rd (k := 1) rfl
  (repeat' (first | refine Z ?_ | refine Zq ?_ | refine zaa (by decide) ?_ | ((first | refine' Y ?_ ?_ | refine' X ?_ ?_ ?_); rotate_left; (· (first | (simp (disch := omega) only [evl, Nat.reduceEqDiff, Nat.reduceAdd, reduceIte, reduceCtorEq] <;> exact rfl) | exact rfl)); all_goals try (refine fun (hb : _ = _) => ?_; try simp only [Zu, ne_eq, reduceCtorEq] at hb)) | (apply zba; · simp [evl])))
  apply rk_m1
  · (simp (disch := omega) only [evl, Nat.reduceEqDiff, Nat.reduceAdd, reduceIte, reduceCtorEq])
    exact hal1
  simp only [zpa]
  (repeat' (first | refine Z ?_ | refine Zq ?_ | refine zaa (by decide) ?_ | ((first | refine' Y ?_ ?_ | refine' X ?_ ?_ ?_); rotate_left; (· (first | (simp (disch := omega) only [evl, Nat.reduceEqDiff, Nat.reduceAdd, reduceIte, reduceCtorEq] <;> exact rfl) | exact rfl)); all_goals try (refine fun (hb : _ = _) => ?_; try simp only [Zu, ne_eq, reduceCtorEq] at hb)) | (apply zba; · simp [evl])))
  apply rk_m1
  · (simp (disch := omega) only [evl, Nat.reduceEqDiff, Nat.reduceAdd, reduceIte, reduceCtorEq])
    exact hal2
  simp only [zpa]
  (repeat' (first | refine Z ?_ | refine Zq ?_ | refine zaa (by decide) ?_ | ((first | refine' Y ?_ ?_ | refine' X ?_ ?_ ?_); rotate_left; (· (first | (simp (disch := omega) only [evl, Nat.reduceEqDiff, Nat.reduceAdd, reduceIte, reduceCtorEq, p0, p1, q0, q1] <;> exact rfl) | exact rfl)); all_goals try (refine fun (hb : _ = _) => ?_; try simp only [Zu, ne_eq, reduceCtorEq] at hb)) | (apply zba; · simp [evl])))
  refine rk_cw (js := [H1.next, H.next]) (R := fun r H' => r = .int .i64 (cmpI p.1 q.1) ∧ H' = H2) ?_ ?_ ?_
  · exact zpp (i := H1.next) (o := 1) (by (simp (disch := omega) only [evl, Nat.reduceEqDiff, Nat.reduceAdd, reduceIte, reduceCtorEq])) (zpp (i := H.next) (o := 1) (by (simp (disch := omega) only [evl, Nat.reduceEqDiff, Nat.reduceAdd, reduceIte, reduceCtorEq])) (zae1 _))
  · (simp (disch := omega) only [evl, Nat.reduceEqDiff, Nat.reduceAdd, reduceIte, reduceCtorEq])
    exact cmp_ok H2 p.1 q.1
  rintro r H3 ⟨rfl, rfl⟩
  refine ⟨zsa hr2 rfl (zsa hr1' rfl (zbd _ _)), ?_⟩
  refine rk_cl (by (simp (disch := omega) only [evl, Nat.reduceEqDiff, Nat.reduceAdd, reduceIte, reduceCtorEq]); exact cmp_ok H3 p.2 q.2) ?_
  rintro r H4 ⟨rfl, rfl⟩
  simp only [zpa]
  obtain ⟨H5, hb5, hx5, hn5, hr5⟩ := bs_two (s := 1) (e := 3) (z := .int .i64 0) (u := .int .i64 (cmpI p.1 q.1)) (v := .int .i64 (cmpI p.2 q.2)) (H := H4) hh2 rfl rfl rfl
  apply rk_hn
  · (simp (disch := omega) only [evl, Nat.reduceEqDiff, Nat.reduceAdd, reduceIte, reduceCtorEq])
    exact hb5
  simp only [zpa]
  refine rk_cl (by (simp (disch := omega) only [evl, Nat.reduceEqDiff, Nat.reduceAdd, reduceIte, reduceCtorEq]); exact or_ok H5 H4.next _ _ hr5 (by omega)) ?_
  rintro r H6 ⟨rfl, rfl⟩
  simp only [zpa]
  (repeat' (first | refine Z ?_ | refine Zq ?_ | refine zaa (by decide) ?_ | ((first | refine' Y ?_ ?_ | refine' X ?_ ?_ ?_); rotate_left; (· (first | (simp (disch := omega) only [evl, Nat.reduceEqDiff, Nat.reduceAdd, reduceIte, reduceCtorEq] <;> exact rfl) | exact rfl)); all_goals try (refine fun (hb : _ = _) => ?_; try simp only [Zu, ne_eq, reduceCtorEq] at hb)) | (apply zba; · simp [evl])))
  refine zma ?_
  refine zqc (zjc _ _) ⟨?_, (hx1.trans hx2).trans hx5⟩
  (simp (disch := omega) only [evl, Nat.reduceEqDiff, Nat.reduceAdd, reduceIte, reduceCtorEq])
  rfl
theorem zsy {E E1 : Env} {H1 : AH} {w w1 : World} (h : Post E H0 w E1 H1 w1) : ∃ q os, w1 = Sort.grow (w.drewN q) os := by
  refine ⟨w1.drawn - w.drawn, w1.heap.extract w.heap.size w1.heap.size, ?_⟩
  have hd := h.dr
  have hs := h.size
  have hheap : w1.heap = w.heap ++ w1.heap.extract w.heap.size w1.heap.size := by
    refine Array.ext_getElem? fun j => ?_
    by_cases hj : j < w.heap.size
    · rw [Array.getElem?_append_left hj]
      exact h.frame j hj fun ⟨i, b, hg, _⟩ => by rw [zjx] at hg; cases hg
    · rw [Array.getElem?_append_right (by omega), Array.getElem?_extract]
      by_cases hj2 : j < w1.heap.size
      · rw [if_pos (by omega)]; congr 1; omega
      · rw [if_neg (by omega), Array.getElem?_eq_none (by omega)]
  have e1 := h.tape; have e2 := h.os; have e3 := h.output
  obtain ⟨hp, tp, dr, os', ot⟩ := w1
  obtain ⟨hp0, tp0, dr0, os0, ot0⟩ := w
  simp only at *
  subst e1 e2 e3
  show (⟨hp, tp, dr, os', ot⟩ : World) = ⟨hp0 ++ hp.extract hp0.size hp.size, tp, dr0 + (dr - dr0), os', ot⟩
  rw [← hheap, show dr0 + (dr - dr0) = dr from by omega]
theorem zty {L : Lk} {P : Program} (hL : LOk L P) (hX : ∀ B, ExtOk L P B) {f : FuncId} {fn : Func} {c : Code} (hf : L.func f = some fn) (hb : fn.body = some c) {args : List AV} {v : AV} (hE : ∀ E E' : Env, concL E args = concL E' args) (hv : ∀ E E' : Env, conc E v = conc E' v)
    (h : FnE L f args H0 fun r H' => r = v) (E : Env) (w : World) : Calls P f (concL E args).toArray w fun e w' => e = .returned (conc E v) ∧ ∃ q os, w' = Sort.grow (w.drewN q) os := by
  obtain ⟨r, H', rfl, n, hn⟩ := h.h
  have ho := hn n (Nat.le_refl _)
  rw [zcr] at ho
  have hc := (zvf hL (hX w.heap.size) n).call f args H0 _ ho E w (concL E args) H0_wf (H0_st E w) (fun E' _ => hE E E')
  unfold CallOk at hc
  rw [zya hL hf hb] at hc
  refine (CallsIn.calls hc fun k => zij zza k).mono fun e w1 ⟨u, he, E1, h1, _, h3, _⟩ => ?_
  subst he
  exact ⟨by rw [h1.self]; exact congrArg _ (hv _ _), zsy h3⟩
def encA (p : Ad) : List Value := [.int .i64 p.1, .int .i64 p.2]
theorem l108 : ∃ fn c, look.func 578 = some fn ∧ fn.body = some c := ⟨Tryz.f578, ztj1, by kernel_rfl, by kernel_rfl⟩
theorem cmpLays (blk off size : Nat) (w : World) : Go.Proofs.CmpLays Tryz.prog 578 #[] encA 2 ordA blk off size w := by
  intro m os dk hs x y
  obtain ⟨fn, c, h1, h2⟩ := l108
  have E : Env := fun _ => ⟨0, 0, 0⟩
  exact zty look_ok zia h1 h2 (args := [aV x, aV y]) (v := .int .i64 (ordA x y)) (fun _ _ => rfl) (fun _ _ => rfl) ((zvj1 H0 x y rfl).mono fun _ _ h => h.1) E _
theorem ltA (x y : Ad) : Go.Proofs.ltOf ordA x y = decide (x.1 < y.1 ∨ (x.1 = y.1 ∧ x.2 < y.2)) := by
  unfold Go.Proofs.ltOf ordA cmpI
  rw [decide_eq_decide]
  by_cases h1 : x.1 < y.1
  · simp [h1]
  · by_cases h2 : y.1 < x.1
    · simp [h1, h2]; omega
    · by_cases h3 : x.2 < y.2
      · simp [h1, h2, h3]; omega
      · by_cases h4 : y.2 < x.2
        · simp [h1, h2, h3, h4]
        · simp [h1, h2, h3, h4]
theorem swoA : Sort.SWO (Go.Proofs.ltOf ordA) where
  irrefl x := by rw [ltA]; simp
  trans x y z h1 h2 := by rw [ltA] at *; simp only [decide_eq_true_eq] at *; omega
  ntrans x y z h1 h2 := by rw [ltA] at *; simp only [decide_eq_false_iff_not] at *; omega
theorem aC_at : ∀ (l : List Ad) {j : Nat} (h : j < l.length * 2), (aC l)[j]? = some (if j % 2 = 0 then .int .i64 (aG l (j / 2)).1 else .int .i64 (aG l (j / 2)).2)
  | [], j, h => by simp at h
  | p :: l, 0, _ => rfl
  | p :: l, 1, _ => rfl
  | p :: l, j + 2, h => by
    have := aC_at l (j := j) (by simp at h; omega)
    show (aC l)[j]? = _
    rw [this]
    have h1 : (j + 2) % 2 = j % 2 := by omega
    have h2 : (j + 2) / 2 = j / 2 + 1 := by omega
    rw [h1, h2]
    rfl
theorem zkg1 (E : Env) (l : List Ad) {j : Nat} (h : j < l.length * 2) : (aC l)[j]?.map (conc E) = some (Sort.flatK encA 2 l.toArray)[j]! := by
  rw [aC_at l h, Sort.get_flatK encA 2 l.toArray j (by simpa using h)]
  have hj : j / 2 < l.length := by omega
  have hd : l.toArray[j / 2]! = aG l (j / 2) := by
    rw [getElem!_pos l.toArray (j / 2) (by simpa using hj)]
    unfold aG
    rw [List.getD_eq_getElem?_getD, List.getElem?_eq_getElem hj]
    simp
  rw [hd]
  rcases Nat.mod_two_eq_zero_or_one j with h0 | h0
  · rw [h0, if_pos rfl]; rfl
  · rw [h0, if_neg (by decide)]; rfl
theorem zjr {w : World} {b : Nat} {cs : Array Value} {e : TypeId} {fz : Nat × Nat} (h : w.heap[b]? = some (.cells cs e fz)) (f : Array Value → Array Value) : Sort.mapBlock w b f = zpb w b (.cells (f cs) e fz) := by
  have hlt : b < w.heap.size := (Array.getElem?_eq_some_iff.1 h).1
  unfold Sort.mapBlock zpb
  congr 1
  refine Array.ext_getElem? fun j => ?_
  rw [Array.getElem?_modify, Array.getElem?_setIfInBounds]
  by_cases hb : b = j
  · subst hb
    rw [if_pos rfl, if_pos rfl, if_pos hlt, h]; rfl
  · rw [if_neg hb, if_neg hb]
theorem zuy {w : World} {os : Array Obj} {q c : Nat} (h : c < w.heap.size) : (Sort.grow (w.drewN q) os).heap[c]? = w.heap[c]? := by
  show (w.heap ++ os)[c]? = _
  rw [Array.getElem?_append_left h]
theorem grow_ok {B : Nat} {E : Env} {H : AH} {w : World} (hw : H.Wf) (hS : St B E H w) (q : Nat) (os : Array Obj) :
    St B E { H with fz := true } (Sort.grow (w.drewN q) os) ∧ Post E H w E { H with fz := true } (Sort.grow (w.drewN q) os) ∧ ({ H with fz := true } : AH).Wf := by
  refine ⟨fun E' hE => ?_, ⟨Agree.refl _ _, Nat.le_refl _, rfl, rfl, rfl, rfl, rfl, ?_, fun c hc _ => zuy hc, fun c ho => .inl ho, fun _ _ => rfl, fun c r hc => ⟨r, (zuy (Array.getElem?_eq_some_iff.1 hc).1).trans hc⟩, fun h => Bool.noConfusion h, fun c ho => .inl ho, ?_⟩, hw.tree, hw.lo, hw.hide⟩
  · have r := hS E' hE
    refine ⟨fun j c hg => ?_, r.inj, r.base, ?_⟩
    · replace hg : H.get j = some c := hg
      exact (r.blk j c hg).congr fun hl => zuy ((r.blk j c hg).obj hl)
    · show B ≤ (w.heap ++ os).size
      have := r.size
      simp; omega
  · show w.heap.size ≤ (w.heap ++ os).size
    simp
  · exact Nat.le_add_right _ _
theorem l176 : ∃ fn c, look.func 624 = some fn ∧ fn.body = some c := ⟨Tryz.f624, bodyN look 624, by kernel_rfl, by kernel_rfl⟩
theorem ia122 : look.isAgg 234 = some true := by kernel_rfl
theorem sz122 : look.size 234 = some 2 := by kernel_rfl
theorem zwj1 (H : AH) (k : Nat) : evF look (k + 30) (.call 624 [.nilSl, .fn (.func 578) [] []] H) = some (out1 (.tup []) H) := by kernel_rfl
def Asc (ys : List Ad) : Prop := ∀ s t, s < t → t < ys.length → Go.Proofs.ltOf ordA (aG ys t) (aG ys s) = false
theorem zhv (B : Nat) (H : AH) (v : AV) (xs : List Ad) (N : Nat) (hap : Ap H v xs.length (aC xs) 234 2 N) (hh : H.hide = []) (hlo : H.lo ≤ N) (hal : xs.length ≤ 100000) :
    FnN Tryz.prog B 624 [v, .fn (.func 578) [] []] H fun r H' => ∃ ys : List Ad, ys.Perm xs ∧ Asc ys ∧ ∃ H1, HP (fun j => ∀ o n c op, v ≠ .sl j o n c op) H H1 ∧ H1.next = H.next ∧ Ap H1 v ys.length (aC ys) 234 2 N ∧ (H' = H1 ∨ H' = { H1 with fz := true }) := by
  obtain ⟨h0, ⟨rfl, hn⟩ | ⟨i, rfl, ⟨c, hg, hcl⟩, hNi, hi⟩⟩ := hap
  · have hx : xs = [] := List.eq_nil_of_length_eq_zero hn
    subst hx
    refine zgr look_ok (zia B) ⟨_, _, ?_, 30, fun m hm => by obtain ⟨k, rfl⟩ : ∃ k, m = k + 30 := ⟨m - 30, by omega⟩; exact zwj1 H k⟩
    exact ⟨[], List.Perm.refl _, fun s t _ ht => by simp at ht, H, HP.refl _ _, rfl, ⟨rfl, .inl ⟨rfl, rfl⟩⟩, .inl rfl⟩
  · intro E w us hw hS hus
    obtain ⟨fn, cd, k1, k2⟩ := l176
    have hu := hus E (Agree.refl _ _)
    subst hu
    unfold CallN
    rw [zya look_ok k1 k2]
    show CallsIn Fence.wide 0 _ 624 _ w _
    rw [callsIn_wide]
    obtain ⟨cs, e, fz, m1, m2, m3⟩ := hS.self.blk i _ hg
    obtain ⟨⟨m4, m5⟩, m6, m7, m8⟩ := m3 rfl
    have hblk : (E i).blk < w.heap.size := (Array.getElem?_eq_some_iff.1 m1).1
    have hlen : (aC xs).length = xs.length * 2 := zkp xs
    have hcell : ∀ j, j < xs.length * 2 → cs[(E i).off + j]? = some (Sort.flatK encA 2 xs.toArray)[j]! := fun j hj => by
      have h1 := zkg1 E xs hj
      cases hx : (aC xs)[j]? with
      | none => rw [hx] at h1; cases h1
      | some a =>
        rw [hx] at h1
        have := m2 j a (by rw [hcl]; exact hx)
        rw [this]; exact h1
    have hH : Sort.HoldsK encA 2 w (E i).blk (E i).off xs.toArray := by
      intro j hj
      have hj : j < xs.length * 2 := by simpa using hj
      refine ⟨?_, ?_⟩
      · unfold World.cell?
        simp only [m1, Option.isSome_none, Bool.false_eq_true, if_false]
        exact hcell j hj
      · unfold World.frozen?
        simp only [m1]
        have := m5 ((E i).off + j) (by
          have := (Array.getElem?_eq_some_iff.1 (hcell j hj)).1
          exact this)
        simpa using this
    have hcon := Go.Proofs.AnyQ.slices_SortFunc Tryz.sortAd 2 (fun w => zdg look_ok.toLOk0 ia122 w) (fun w => zkb look_ok.toLOk0 sz122 w) encA (fun _ => rfl) (fun x v hv => by
      simp only [encA, List.mem_cons, List.not_mem_nil, or_false] at hv
      rcases hv with rfl | rfl <;> rfl) ordA swoA 578 #[] (E i).blk (E i).off (xs.length + (E i).extra) xs.toArray w
      (fun args w => by obtain ⟨fn, c, h1, h2⟩ := l108; exact zya look_ok h1 h2 args w) (cmpLays _ _ _ _) hH hblk (by simp; omega)
    refine Calls.mono hcon ?_
    rintro e' w' ⟨rfl, d', n, os, ⟨hps, _, hpp⟩, hsd, rfl⟩
    have hsz : d'.size = xs.length := by simpa using hps
    have hext : ∀ a : Array Ad, a.extract 0 a.size = a := fun a => by simp
    have hperm : d'.toList.Perm xs := by
      have h1 : d'.extract 0 xs.toArray.size = d' := by rw [← hps]; exact hext d'
      have h2 : xs.toArray.extract 0 xs.toArray.size = xs.toArray := hext _
      rw [h1, h2] at hpp
      simpa using hpp
    have hds : d'.toList.length = xs.length := by simpa using hsz
    refine ⟨.tuple #[], .tup [], { (H.put i (.cells (.lst (aC d'.toList)) 234 2 true false)) with fz := true }, rfl, ⟨d'.toList, hperm, ?_, H.put i (.cells (.lst (aC d'.toList)) 234 2 true false), ?_, rfl, ?_, .inr rfl⟩, E, fun _ _ => rfl, ?_⟩
    · intro s t hst ht
      have := hsd s t (Nat.zero_le _) hst (by simpa using hds ▸ ht)
      have hg' : ∀ k, k < d'.toList.length → aG d'.toList k = d'[k]! := fun k hk => by
        unfold aG
        rw [List.getD_eq_getElem?_getD, List.getElem?_eq_getElem hk, getElem!_pos d' k (by simpa using hk)]
        simp
      rw [hg' s (by omega), hg' t ht]; exact this
    · exact (HP.put H i _).mono fun j hj hv => fun h => by subst h; exact hv _ _ _ _ rfl
    · refine ⟨zkp _, .inr ⟨i, by rw [hds], ⟨_, AH.get_put hh _ _, rfl⟩, hNi, hi⟩⟩
    · -- the world
      have hw2 : Sort.putRowK encA 2 (Sort.ahead w n) (E i).blk (E i).off d' = (zpb w (E i).blk (.cells (Sort.putCells id (E i).off (Sort.flatK encA 2 d') cs) e fz)).drewN n := by
        show Sort.mapBlock (Sort.ahead w n) (E i).blk _ = _
        have := zjr (w := Sort.ahead w n) (b := (E i).blk) m1 (Sort.putCells id (E i).off (Sort.flatK encA 2 d'))
        rw [this]; rfl
      have hsw : Go.Proofs.sortWorldK encA 2 w (E i).blk (E i).off n d' os = Sort.grow ((zpb w (E i).blk (.cells (Sort.putCells id (E i).off (Sort.flatK encA 2 d') cs) e fz)).drewN n) os := by
        unfold Go.Proofs.sortWorldK
        rw [hw2]
      have hpc : (Sort.putCells id (E i).off (Sort.flatK encA 2 d') cs).size = cs.size := by simp [Sort.putCells]
      obtain ⟨p1, p2, p3⟩ := zwn hw hS hg rfl (by omega) (.cells (.lst (aC d'.toList)) 234 2 true false) (.cells (Sort.putCells id (E i).off (Sort.flatK encA 2 d') cs) e fz) (fun r hr => by rw [m1] at hr; cases hr) (fun x off hx => by rw [m1] at hx; cases hx; rfl) fun E' hE => by
        have hei : E' i = E i := hE i (hw.get_lt hg)
        refine ⟨Sort.putCells id (E i).off (Sort.flatK encA 2 d') cs, e, fz, by rw [hei]; exact zxb m1, ?_, fun _ => ?_⟩
        · intro j a ha
          have ha : (aC d'.toList)[j]? = some a := ha
          have hj : j < d'.toList.length * 2 := by
            have := (List.getElem?_eq_some_iff.1 ha).1
            rwa [zkp] at this
          have h1 := zkg1 E' d'.toList hj
          rw [ha] at h1
          rw [hei]
          have hcs : (E i).off + j < cs.size := (Array.getElem?_eq_some_iff.1 (hcell j (by omega))).1
          unfold Sort.putCells
          rw [Array.getElem?_mapIdx, Array.getElem?_eq_getElem hcs]
          have hfs : (Sort.flatK encA 2 d').size = d'.size * 2 := Sort.size_flatK _ _ _
          simp only [Option.map_some]
          rw [if_pos ⟨by omega, by rw [hfs]; omega⟩, show (E i).off + j - (E i).off = j from by omega]
          simpa using h1.symm
        · rw [hpc]
          refine ⟨⟨m4, m5⟩, ?_, fun _ k u hk hu => ?_, m8⟩
          · rw [hei, m6]
            show (E i).off + c.l.length + _ = (E i).off + (aC d'.toList).length + _
            rw [hcl, zkp, zkp, hds]
          · rw [hei] at hk
            have hk : (E i).off + (aC d'.toList).length ≤ k := hk
            rw [zkp, hds] at hk
            have hfs : (Sort.flatK encA 2 d').size = d'.size * 2 := Sort.size_flatK _ _ _
            have hds' : d'.size = xs.length := by rw [← hds]; simp
            refine m7 rfl k u (by rw [hcl, zkp]; omega) ?_
            unfold Sort.putCells at hu
            rw [Array.getElem?_mapIdx] at hu
            cases hc : cs[k]? with
            | none => rw [hc] at hu; cases hu
            | some y =>
              rw [hc] at hu
              simp only [Option.map_some] at hu
              rw [if_neg (by rw [hfs, hds']; omega)] at hu
              exact hu
      obtain ⟨q1, q2, q3⟩ := grow_ok p3 p1 n os
      rw [hsw]
      exact ⟨q1, p2.trans q2, q3⟩
theorem l106 : ∃ fn, look.func 576 = some fn ∧ fn.body = some zva ∧ fn.ntmps = 12 ∧ fn.results.toList = [.tmp 4] := ⟨Tryz.f576, by kernel_rfl, by kernel_rfl, by kernel_rfl, by kernel_rfl⟩
abbrev zxj1 : Code := seqA (seqB zva)
abbrev zyj1 : Code := seqA (seqB (seqB zva))
abbrev zzj1 : Code := seqB (seqB (seqB zva))
theorem c106 : zva = .seq (seqA zva) (.seq (.region 1 (opsOf zxj1) false) (.seq (.region 2 (opsOf zyj1) false) zzj1)) := by kernel_rfl
theorem c106a : comp look (seqA zva) = .reg f576r0 := by kernel_rfl
theorem c106d : comp look zzj1 = .seq (.reg f576r3) .ret := by kernel_rfl
theorem w106a : wfC 12 (seqA zva) = true := by kernel_rfl
theorem w106d : wfC 12 zzj1 = true := by kernel_rfl
theorem w106o : wfOps 12 (opsOf zxj1) = true := by kernel_rfl
theorem w106p : wfOps 12 (opsOf zyj1) = true := by kernel_rfl
theorem c106o : (opsOf zxj1).toList = [opN zva 1 0, opN zva 1 1, opN zva 1 2] := by kernel_rfl
theorem c106p : (opsOf zyj1).toList = [opN zva 2 0, opN zva 2 1, opN zva 2 2] := by kernel_rfl
theorem o106_0 : (opN zva 1 0).op = .move (.tmp 0) ∧ (opN zva 1 0).guard = none ∧ (opN zva 1 0).dst = some 6 := ⟨by kernel_rfl, by kernel_rfl, by kernel_rfl⟩
theorem o106_1 : (opN zva 1 1).op = .call { callee := .value (.func 623), args := #[.tmp 6], argTypes := #[649] } ∧ (opN zva 1 1).guard = none ∧ (opN zva 1 1).dst = some 7 := ⟨by kernel_rfl, by kernel_rfl, by kernel_rfl⟩
theorem o106_2 : (opN zva 1 2).op = .assign (.tmp 7) ∧ (opN zva 1 2).guard = none ∧ (opN zva 1 2).dst = some 5 := ⟨by kernel_rfl, by kernel_rfl, by kernel_rfl⟩
theorem o106_3 : (opN zva 2 0).op = .move (.tmp 5) ∧ (opN zva 2 0).guard = none ∧ (opN zva 2 0).dst = some 8 := ⟨by kernel_rfl, by kernel_rfl, by kernel_rfl⟩
theorem o106_4 : (opN zva 2 1).op = .move (.tmp 1) ∧ (opN zva 2 1).guard = none ∧ (opN zva 2 1).dst = some 9 := ⟨by kernel_rfl, by kernel_rfl, by kernel_rfl⟩
theorem o106_5 : (opN zva 2 2).op = .call { callee := .value (.func 624), args := #[.tmp 8, .tmp 9], argTypes := #[111, 651] } ∧ (opN zva 2 2).guard = none ∧ (opN zva 2 2).dst = some 10 := ⟨by kernel_rfl, by kernel_rfl, by kernel_rfl⟩
def Mz (H1 H' : AH) : Prop := H' = H1 ∨ H' = { H1 with fz := true }
def Srt (H H' : AH) (v : AV) (ks : List Ad) : Prop := ∃ ys : List Ad, ys.Perm ks ∧ Asc ys ∧ (ys = [] → v = .nilSl) ∧ ∃ H1, HX H H1 ∧ Ap H1 v ys.length (aC ys) 234 2 H.next ∧ Mz H1 H'
theorem zvy (B : Nat) (H : AH) (cell m : Nat) (es : List En) (clock : Nat) (ks : List Ad) (hM : MapA es clock ks) (hc : Row H cell false false 545 1 [.map m]) (hm : H.get m = some (.map es clock)) (hcl : cell < H.next) (hml : m < H.next) (hlo : H.lo ≤ H.next) (hh : H.hide = []) (hal : es.length ≤ 100000) :
    FnN Tryz.prog B 576 [.fn (.func 625) [] [.ptr cell 0], .fn (.func 578) [] []] H fun v H' => Srt H H' v ks := by
  obtain ⟨fn, h1, h2, h3, h4⟩ := l106
  refine zxf look_ok h1 h2 (by rw [h3]; simp) ?_
  rw [h3, h4, c106]
  refine zgb (R1 := fun ex T' H' => ex = .normal ∧ gT T' 0 = .fn (.func 625) [] [.ptr cell 0] ∧ gT T' 1 = .fn (.func 578) [] [] ∧ H' = H) ?_ ?_ (fun ex T2 H2 h hne => absurd h.1 hne)
  · refine zcc look_ok (zia B) w106a ?_
    rw [c106a]
    unfold f576r0
    (repeat' (first | refine Z ?_ | refine Zq ?_ | refine zaa (by decide) ?_ | ((first | refine' Y ?_ ?_ | refine' X ?_ ?_ ?_); rotate_left; (· (first | (simp (disch := omega) only [evl, Nat.reduceEqDiff, Nat.reduceAdd, reduceIte, reduceCtorEq] <;> exact rfl) | exact rfl)); all_goals try (refine fun (hb : _ = _) => ?_; try simp only [Zu, ne_eq, reduceCtorEq] at hb)) | (apply zba; · simp [evl])))
    exact zma ⟨rfl, (by (first | (simp (disch := omega) only [evl, Nat.reduceEqDiff, Nat.reduceAdd, reduceIte, reduceCtorEq] <;> exact rfl) | exact rfl)), (by (first | (simp (disch := omega) only [evl, Nat.reduceEqDiff, Nat.reduceAdd, reduceIte, reduceCtorEq] <;> exact rfl) | exact rfl)), rfl⟩
  rintro T1 H1 ⟨_, t0, t1, rfl⟩
  refine zgb (R1 := fun ex T' H' => ex = .normal ∧ gT T' 1 = .fn (.func 578) [] [] ∧ ∃ acc : List Ad, acc.Perm ks ∧ (acc = [] → gT T' 5 = .nilSl) ∧ HX H1 H' ∧ Ap H' (gT T' 5) acc.length (aC acc) 234 2 H1.next) ?_ ?_ (fun ex T2 H2 h hne => absurd h.1 hne)
  · refine zvb w106o ?_
    rw [c106o]
    refine ztd look_ok (zia B) (at_of c106o 0 rfl) ⟨.inl o106_0.1, o106_0.2⟩ ?_
    refine zyf look_ok (at_of c106o 1 rfl) o106_1 (args := [.fn (.func 625) [] [.ptr cell 0]]) ?_ (zry B H1 cell m es clock ks hM hc hm hcl hml hlo hh hal) ?_
    · show mapO (opnd _) [.tmp 6] = _
      rw [zab, zrc, zmb, zcb, if_pos rfl, t0]; rfl
    rintro v H2 ⟨acc, hperm, hnl, hx, hap⟩
    refine ztd look_ok (zia B) (at_of c106o 2 rfl) ⟨.inr o106_2.1, o106_2.2⟩ ?_
    refine zre ⟨rfl, ?_, acc, hperm, ?_, hx, ?_⟩
    · rw [zcb, if_neg (by decide), zcb, if_neg (by decide), zcb, if_neg (by decide)]; exact t1
    · rw [zcb, if_pos rfl, zcb, if_pos rfl]; exact hnl
    · rw [zcb, if_pos rfl, zcb, if_pos rfl]; exact hap
  rintro T2 H2 ⟨_, s1, acc, hperm, hnl, hx, hap⟩
  refine zgb (R1 := fun ex T' H' => ex = .normal ∧ Srt H1 H' (gT T' 5) ks) ?_ ?_ (fun ex T2 H2 h hne => absurd h.1 hne)
  · refine zvb w106p ?_
    rw [c106p]
    refine ztd look_ok (zia B) (at_of c106p 0 rfl) ⟨.inl o106_3.1, o106_3.2⟩ ?_
    refine ztd look_ok (zia B) (at_of c106p 1 rfl) ⟨.inl o106_4.1, o106_4.2⟩ ?_
    have hlen : acc.length ≤ 100000 := by rw [hperm.length_eq, ← hM.len]; exact hal
    refine zyf look_ok (at_of c106p 2 rfl) o106_5 (args := [gT T2 5, .fn (.func 578) [] []]) ?_ (zhv B H2 (gT T2 5) acc H1.next hap (hx.hide.trans hh) (by rw [hx.lo]; exact hlo) hlen) ?_
    · show mapO (opnd _) [.tmp 8, .tmp 9] = _
      rw [zab, zab, zrc, zmb, zmb, zcb, if_neg (by decide), zcb, if_pos rfl, zcb, if_pos rfl, zcb, if_neg (by decide), s1]; rfl
    rintro v H3 ⟨ys, hp, hasc, H4, hp4, hn4, hap4, hmz⟩
    refine zre ⟨rfl, ?_⟩
    rw [zcb, if_neg (by decide), zcb, if_neg (by decide), zcb, if_neg (by decide)]
    refine ⟨ys, hp.trans hperm, hasc, fun h => hnl (by subst h; exact List.nil_perm.1 hp), H4, ?_, hap4, hmz⟩
    refine ((hx.hp fun _ => True).trans hp4 (r := fun _ => True) fun j hj _ => ⟨trivial, fun o n c op h => ?_⟩).hx fun _ _ => trivial
    obtain ⟨_, ⟨h', _⟩ | ⟨i', h', _, hN', _⟩⟩ := hap
    · rw [h'] at h; cases h
    · rw [h'] at h; cases h; omega
  rintro T3 H3 ⟨_, hs⟩
  refine zcc look_ok (zia B) w106d ?_
  rw [c106d]
  unfold f576r3
  (repeat' (first | refine Z ?_ | refine Zq ?_ | refine zaa (by decide) ?_ | ((first | refine' Y ?_ ?_ | refine' X ?_ ?_ ?_); rotate_left; (· (first | (simp (disch := omega) only [evl, Nat.reduceEqDiff, Nat.reduceAdd, reduceIte, reduceCtorEq] <;> exact rfl) | exact rfl)); all_goals try (refine fun (hb : _ = _) => ?_; try simp only [Zu, ne_eq, reduceCtorEq] at hb)) | (apply zba; · simp [evl])))
  refine zma ?_; refine zqc (zjc _ _) ?_
  (simp (disch := omega) only [evl, Nat.reduceEqDiff, Nat.reduceAdd, reduceIte, reduceCtorEq])
  exact hs
theorem zwy (H : AH) (m : Nat) (hh : H.hide = []) : FnE look 577 [.map m] H fun r H' => r = .fn (.func 625) [] [.ptr H.next 0] ∧ HX H H' ∧ H'.next = H.next + 1 ∧ Row H' H.next false false 545 1 [.map m] := by
  refine zzb f577_eq noext rfl ?_
  unfold f577c
  obtain ⟨H1, hal1, hx1, hn1, hr1⟩ := zmi (e := 545) (s := 1) (c := (AV.map m).toC) hh
  rw [toC_l] at hr1
  (repeat' (first | refine Z ?_ | refine Zq ?_ | refine zaa (by decide) ?_ | ((first | refine' Y ?_ ?_ | refine' X ?_ ?_ ?_); rotate_left; (· (first | (simp (disch := omega) only [evl, Nat.reduceEqDiff, Nat.reduceAdd, reduceIte, reduceCtorEq] <;> exact rfl) | exact rfl)); all_goals try (refine fun (hb : _ = _) => ?_; try simp only [Zu, ne_eq, reduceCtorEq] at hb)) | (apply zba; · simp [evl])))
  apply rk_m1
  · (simp (disch := omega) only [evl, Nat.reduceEqDiff, Nat.reduceAdd, reduceIte, reduceCtorEq])
    exact hal1
  simp only [zpa]
  (repeat' (first | refine Z ?_ | refine Zq ?_ | refine zaa (by decide) ?_ | ((first | refine' Y ?_ ?_ | refine' X ?_ ?_ ?_); rotate_left; (· (first | (simp (disch := omega) only [evl, Nat.reduceEqDiff, Nat.reduceAdd, reduceIte, reduceCtorEq] <;> exact rfl) | exact rfl)); all_goals try (refine fun (hb : _ = _) => ?_; try simp only [Zu, ne_eq, reduceCtorEq] at hb)) | (apply zba; · simp [evl])))
  refine zma ?_; refine zqc (zjc _ _) ⟨?_, hx1, hn1, hr1⟩
  (simp (disch := omega) only [evl, Nat.reduceEqDiff, Nat.reduceAdd, reduceIte, reduceCtorEq])
theorem l51 : ∃ fn, look.func 484 = some fn ∧ fn.body = some zqb ∧ fn.ntmps = 6 ∧ fn.results.toList = [.tmp 2] := ⟨Tryz.f484, by kernel_rfl, by kernel_rfl, by kernel_rfl, by kernel_rfl⟩
abbrev b51_1 : Code := seqA (seqB zqb)
theorem c51 : zqb = .seq (seqA zqb) (.seq (.region 1 (opsOf b51_1) false) .ret) := by kernel_rfl
theorem c51a : comp look (seqA zqb) = .reg f484r0 := by kernel_rfl
theorem w51a : wfC 6 (seqA zqb) = true := by kernel_rfl
theorem w51o : wfOps 6 (opsOf b51_1) = true := by kernel_rfl
theorem c51o : (opsOf b51_1).toList = [opN zqb 1 0, opN zqb 1 1, opN zqb 1 2, opN zqb 1 3] := by kernel_rfl
theorem o51_0 : (opN zqb 1 0).op = .move (.tmp 0) ∧ (opN zqb 1 0).guard = none ∧ (opN zqb 1 0).dst = some 3 := ⟨by kernel_rfl, by kernel_rfl, by kernel_rfl⟩
theorem o51_1 : (opN zqb 1 1).op = .call { callee := .value (.func 577), args := #[.tmp 3], argTypes := #[545] } ∧ (opN zqb 1 1).guard = none ∧ (opN zqb 1 1).dst = some 4 := ⟨by kernel_rfl, by kernel_rfl, by kernel_rfl⟩
theorem o51_2 : (opN zqb 1 2).op = .call { callee := .value (.func 576), args := #[.tmp 4, .func 578], argTypes := #[649, 651] } ∧ (opN zqb 1 2).guard = none ∧ (opN zqb 1 2).dst = some 5 := ⟨by kernel_rfl, by kernel_rfl, by kernel_rfl⟩
theorem o51_3 : (opN zqb 1 3).op = .assign (.tmp 5) ∧ (opN zqb 1 3).guard = none ∧ (opN zqb 1 3).dst = some 2 := ⟨by kernel_rfl, by kernel_rfl, by kernel_rfl⟩
theorem zlg1 (B : Nat) (H : AH) (m : Nat) (es : List En) (clock : Nat) (ks : List Ad) (hM : MapA es clock ks) (hm : H.get m = some (.map es clock)) (hml : m < H.next) (hlo : H.lo ≤ H.next) (hh : H.hide = []) (hal : es.length ≤ 100000) :
    FnN Tryz.prog B 484 [.map m] H fun v H' => Srt H H' v ks := by
  obtain ⟨fn, h1, h2, h3, h4⟩ := l51
  refine zxf look_ok h1 h2 (by rw [h3]; simp) ?_
  rw [h3, h4, c51]
  refine zgb (R1 := fun ex T' H' => ex = .normal ∧ gT T' 0 = .map m ∧ H' = H) ?_ ?_ (fun ex T2 H2 h hne => absurd h.1 hne)
  · refine zcc look_ok (zia B) w51a ?_
    rw [c51a]
    unfold f484r0
    (repeat' (first | refine Z ?_ | refine Zq ?_ | refine zaa (by decide) ?_ | ((first | refine' Y ?_ ?_ | refine' X ?_ ?_ ?_); rotate_left; (· (first | (simp (disch := omega) only [evl, Nat.reduceEqDiff, Nat.reduceAdd, reduceIte, reduceCtorEq] <;> exact rfl) | exact rfl)); all_goals try (refine fun (hb : _ = _) => ?_; try simp only [Zu, ne_eq, reduceCtorEq] at hb)) | (apply zba; · simp [evl])))
    exact zma ⟨rfl, (by (first | (simp (disch := omega) only [evl, Nat.reduceEqDiff, Nat.reduceAdd, reduceIte, reduceCtorEq] <;> exact rfl) | exact rfl)), rfl⟩
  rintro T1 H1 ⟨_, t0, rfl⟩
  refine zgb (R1 := fun ex T' H' => ex = .normal ∧ Srt H1 H' (gT T' 2) ks) ?_ ?_ (fun ex T2 H2 h hne => absurd h.1 hne)
  · refine zvb w51o ?_
    rw [c51o]
    refine ztd look_ok (zia B) (at_of c51o 0 rfl) ⟨.inl o51_0.1, o51_0.2⟩ ?_
    refine zyf look_ok (at_of c51o 1 rfl) o51_1 (args := [.map m]) ?_ (zgr look_ok (zia B) (zwy H1 m hh)) ?_
    · show mapO (opnd _) [.tmp 3] = _
      rw [zab, zrc, zmb, zcb, if_pos rfl, t0]; rfl
    rintro v H2 ⟨rfl, hx, hn, hr⟩
    refine zyf look_ok (at_of c51o 2 rfl) o51_2 (args := [.fn (.func 625) [] [.ptr H1.next 0], .fn (.func 578) [] []]) ?_ (zvy B H2 H1.next m es clock ks hM hr (by rw [hx.get hml]; exact hm) (by omega) (by omega) (by rw [hx.lo]; omega) (hx.hide.trans hh) hal) ?_
    · show mapO (opnd _) [.tmp 4, .func 578] = _
      rw [zab, zab, zrc, zmb, zcb, if_pos rfl]; rfl
    rintro v H3 ⟨ys, hp, hasc, hnl, H4, hx4, hap4, hmz⟩
    refine ztd look_ok (zia B) (at_of c51o 3 rfl) ⟨.inr o51_3.1, o51_3.2⟩ ?_
    refine zre ⟨rfl, ?_⟩
    rw [zcb, if_pos rfl, zcb, if_pos rfl]
    exact ⟨ys, hp, hasc, hnl, H4, hx.trans hx4, Ap.le hap4 (by omega), hmz⟩
  rintro T2 H2 ⟨_, hs⟩
  exact zcc look_ok (zia B) rfl (rc_ret (zma (zqc (zjc _ _) hs)))
theorem evEq_ad (a b c d : Int) : evEq look 40 234 (.agg [.int .i64 a, .int .i64 b]) (.agg [.int .i64 c, .int .i64 d]) = some (decide (a = c) && decide (b = d)) := by
  have h : evEq look 40 234 (.agg [.int .i64 a, .int .i64 b]) (.agg [.int .i64 c, .int .i64 d]) = (match (some (a == c) : Option Bool) with | some true => (match (some (b == d) : Option Bool) with | some true => some true | r => r) | r => r) := by kernel_rfl
  rw [h]
  by_cases h1 : a = c
  · subst h1
    by_cases h2 : b = d
    · subst h2; simp
    · have : (b == d) = false := by simpa using h2
      simp [h2, this]
  · have : (a == c) = false := by simpa using h1
    simp [h1, this]
theorem seek_ad (a b : Int) (es : List En) : zsd look 234 (.agg [.int .i64 a, .int .i64 b]) es = zvh look 234 (.agg [.int .i64 a, .int .i64 b]) es 0 := by kernel_rfl
theorem ziv (p : Ad) : zuh (aV p) (aV p) = true := by
  show (match (match decide (IntKind.i64 = IntKind.i64) with | true => p.1 == p.1 | false => false) with | true => (match (match decide (IntKind.i64 = IntKind.i64) with | true => p.2 == p.2 | false => false) with | true => true | false => false) | false => false) = true
  simp
theorem ask_ad (p : Ad) : ∀ (es : List En) (ks : List Ad) (i : Nat), es.map (·.1) = ks.map aV →
    (p ∉ ks → zvh look 234 (aV p) es i = some none) ∧ (p ∈ ks → ∃ j e, zvh look 234 (aV p) es i = some (some (j, e.2.1)) ∧ i ≤ j ∧ es[j - i]? = some e ∧ e.1 = aV p)
  | [], ks, i, h => by
    have : ks = [] := by cases ks with | nil => rfl | cons => simp at h
    subst this
    exact ⟨fun _ => rfl, fun h => by cases h⟩
  | e :: es, [], i, h => by simp at h
  | e :: es, q :: ks, i, h => by
    simp only [List.map_cons, List.cons.injEq] at h
    obtain ⟨h1, h2⟩ := h
    obtain ⟨ih1, ih2⟩ := ask_ad p es ks (i + 1) h2
    have hstep : zvh look 234 (aV p) (e :: es) i = (match evEq look 40 234 (aV p) e.1 with
      | some true => (match zuh e.1 (aV p) with | true => some (some (i, e.2.1)) | false => none)
      | some false => zvh look 234 (aV p) es (i + 1)
      | none => none) := rfl
    rw [hstep, h1]
    have hq : evEq look 40 234 (aV p) (aV q) = some (decide (p.1 = q.1) && decide (p.2 = q.2)) := evEq_ad _ _ _ _
    rw [hq]
    by_cases hpq : p = q
    · subst hpq
      simp only [decide_true, Bool.and_self, ziv]
      exact ⟨fun h => absurd List.mem_cons_self h, fun _ => ⟨i, e, rfl, Nat.le_refl _, by simp, h1⟩⟩
    · have : (decide (p.1 = q.1) && decide (p.2 = q.2)) = false := by
        rw [Bool.and_eq_false_iff]
        by_cases hx : p.1 = q.1
        · right; rw [decide_eq_false_iff_not]; exact fun hy => hpq (Prod.ext hx hy)
        · left; exact decide_eq_false hx
      rw [this]
      simp only
      refine ⟨fun h => ih1 fun h' => h (List.mem_cons_of_mem _ h'), fun h => ?_⟩
      obtain ⟨j, e', k1, k2, k3, k4⟩ := ih2 ((List.mem_cons.1 h).resolve_left hpq)
      refine ⟨j, e', k1, by omega, ?_, k4⟩
      rw [show j - i = (j - (i + 1)) + 1 from by omega, List.getElem?_cons_succ]; exact k3
theorem upd_ad {H : AH} {i : Nat} {es : List En} {clock : Nat} {ks : List Ad} (hM : MapA es clock ks) (hk : ks.Nodup) (hg : H.get i = some (.map es clock)) (hlo : H.lo ≤ i) (p : Ad) (u : AV) :
    ∃ es' clock' ks', zoa look 545 (.map i) (aV p) u H = some (H.put i (.map es' clock')) ∧ MapA es' clock' ks' ∧ ks'.Nodup ∧ (∀ q, q ∈ ks' ↔ q ∈ ks ∨ q = p) ∧ es'.length ≤ es.length + 1 ∧ ((∀ e ∈ es, e.2.1 = u) → ∀ e ∈ es', e.2.1 = u) := by
  obtain ⟨a1, a2⟩ := ask_ad p es ks 0 hM.keys
  have hstep : zoa look 545 (.map i) (aV p) u H = (match Nat.ble H.lo i, H.get i with
      | true, some (.map es clock) => (match zsd look 234 (aV p) es with
          | none => none
          | some none => some (H.put i (.map (es ++ [(aV p, u, clock)]) (clock + 1)))
          | some (some (j, _)) => (match nth es j with
            | some e => (match zyc [(aV p, u, e.2.2)] es j with
              | some es' => some (H.put i (.map es' clock))
              | none => none)
            | none => none))
      | _, _ => none) := by
    unfold zoa
    rw [u128]
    rfl
  rw [hstep, show Nat.ble H.lo i = true from Nat.ble_eq_true_of_le hlo, hg]
  simp only
  rw [show zsd look 234 (aV p) es = zvh look 234 (aV p) es 0 from seek_ad _ _ _]
  by_cases hp : p ∈ ks
  · obtain ⟨j, e, k1, _, k3, k4⟩ := a2 hp
    rw [Nat.sub_zero] at k3
    rw [k1]
    simp only
    rw [zve, k3]
    simp only
    have hj : j < es.length := (List.getElem?_eq_some_iff.1 k3).1
    have hje : es[j] = e := (List.getElem?_eq_some_iff.1 k3).2
    have hov : zyc [(aV p, u, e.2.2)] es j = some (es.set j (aV p, u, e.2.2)) := by
      refine (znb _ _ _ _).2 ⟨by simp; omega, ?_⟩
      rw [List.set_eq_take_append_cons_drop, if_pos hj]; simp
    rw [hov]
    refine ⟨_, _, ks, rfl, ⟨?_, fun x hx => ?_, ?_⟩, hk, fun q => ⟨.inl, fun h => h.elim id fun h => h ▸ hp⟩, by simp, fun hv x hx => by
      rcases List.mem_or_eq_of_mem_set hx with hx | rfl
      · exact hv x hx
      · rfl⟩
    · rw [← hM.keys, List.map_set]
      show (es.map (·.1)).set j (aV p) = _
      rw [← k4, ← hje]
      have h : (es.map (·.1)).set j ((es.map (·.1))[j]'(by simpa using hj)) = es.map (·.1) := List.set_getElem_self _
      simpa using h
    · rcases List.mem_or_eq_of_mem_set hx with hx | rfl
      · exact hM.born x hx
      · exact hM.born e (hje ▸ List.getElem_mem hj)
    · have : (es.set j (aV p, u, e.2.2)).map (·.2.2) = es.map (·.2.2) := by
        rw [List.map_set]
        show (es.map (·.2.2)).set j e.2.2 = _
        rw [← hje]
        have h : (es.map (·.2.2)).set j ((es.map (·.2.2))[j]'(by simpa using hj)) = es.map (·.2.2) := List.set_getElem_self _
        simpa using h
      rw [this]; exact hM.nd
  · rw [a1 hp]
    simp only
    refine ⟨_, _, ks ++ [p], rfl, ⟨?_, fun x hx => ?_, ?_⟩, ?_, fun q => ?_, by simp, fun hv x hx => by
      rcases List.mem_append.1 hx with hx | hx
      · exact hv x hx
      · have : x = (aV p, u, clock) := by simpa using hx
        subst this; rfl⟩
    · rw [List.map_append, List.map_append, hM.keys]; rfl
    · rcases List.mem_append.1 hx with hx | hx
      · exact Nat.lt_succ_of_lt (hM.born x hx)
      · have : x = (aV p, u, clock) := by simpa using hx
        subst this; exact Nat.lt_succ_self _
    · rw [List.map_append, List.nodup_append]
      refine ⟨hM.nd, by simp, fun a ha b hb => ?_⟩
      have hb : b = clock := by simpa using hb
      subst hb
      obtain ⟨x, hx, rfl⟩ := List.mem_map.1 ha
      exact Nat.ne_of_lt (hM.born x hx)
    · rw [List.nodup_append]
      refine ⟨hk, by simp, fun a ha b hb => ?_⟩
      have hb : b = p := by simpa using hb
      subst hb
      exact fun hab => hp (hab ▸ ha)
    · rw [List.mem_append]; simp
theorem c212 : zte = .seq (seqA zte) (.block 0 (.loop zkf)) := by kernel_rfl
theorem c212a : comp look (seqA zte) = .reg f528r0 := by kernel_rfl
theorem c212b : zkf = .seq (.region 1 (opsOf (seqA zkf)) false) (seqB zkf) := by kernel_rfl
theorem c212o : (opsOf (seqA zkf)).toList = [opN zkf 0 0, opN zkf 0 1] := by kernel_rfl
theorem c212r : comp look (seqB zkf) = (.seq (.cond (tO 9) .skip (.exit 0)) (.block 1 (.seq (.reg f528r2) (.reg f528r3)))) := by kernel_rfl
theorem o212_0 : (opN zte 0 1).op = .range 545 (.tmp 6) := by kernel_rfl
theorem o212_1 : (opN zkf 0 0).op = .next (.tmp 7) false := by kernel_rfl
theorem g212_1 : (opN zkf 0 0).guard = none := by kernel_rfl
theorem d212_1 : (opN zkf 0 0).dst = some 8 := by kernel_rfl
theorem o212_2 : (opN zkf 0 1).op = .extract (.tmp 8) 0 := by kernel_rfl
theorem g212_2 : (opN zkf 0 1).guard = none := by kernel_rfl
theorem d212_2 : (opN zkf 0 1).dst = some 9 := by kernel_rfl
theorem o212_3 : (opN zte 2 0).op = .entry (.tmp 7) := by kernel_rfl
theorem w212a : wfC 16 (seqA zte) = true := by kernel_rfl
theorem w212b : wfC 16 (seqB zkf) = true := by kernel_rfl
theorem w212o : wfOps 16 (opsOf (seqA zkf)) = true := by kernel_rfl
theorem l212 : ∃ fn, look.func 528 = some fn ∧ fn.body = some zte ∧ fn.ntmps = 16 ∧ fn.results.toList = [] := ⟨Tryz.f528, by kernel_rfl, by kernel_rfl, by kernel_rfl, by kernel_rfl⟩
structure AccC (H0 H : AH) (i j r : Nat) (ks : List Ad) (ft : List En) (ck : Nat) (pk : List En) (acc : List Ad) : Prop where
  it : H.get r = some (.miter j ck (pk.map (·.2.2)) ck)
  src : H.get j = some (.map ft ck)
  pc : Pk ft pk
  kc : pk.map (·.1) = acc.map aV
  dst : ∃ es c xs, H.get i = some (.map es c) ∧ MapA es c xs ∧ xs.Nodup ∧ (∀ q, q ∈ xs ↔ q ∈ ks ∨ q ∈ acc) ∧ es.length ≤ ks.length + acc.length
  hp : HP (· ≠ i) H0 H
theorem zbe1 (H0 H : AH) (T : Tr AV) (i j r : Nat) (ks : List Ad) (ft : List En) (ck : Nat) (ls : List Ad) (hM : MapA ft ck ls) (hv : ∀ e ∈ ft, e.2.1 = .agg []) (pk : List En) (acc : List Ad) (e : En) (he : e ∈ leftE ft (pk.map (·.2.2)))
    (hA : AccC H0 H i j r ks ft ck pk acc) (t0 : gT T 0 = .map i) (t7 : gT T 7 = .ptr r 0) (t9 : gT T 9 = .bool true) (hij : i ≠ j) (hi : i < H0.next) (hj : j < H0.next) (hr : H0.next ≤ r) (hr2 : r < H.next) (hlo : H0.lo ≤ i) (hh : H0.hide = []) :
    RC look (comp look (seqB zkf)) [] T (H.put r (.miter j ck (pk.map (·.2.2) ++ [e.2.2]) ck)) fun ex T' H' => ex = .normal ∧ gT T' 0 = .map i ∧ gT T' 7 = .ptr r 0 ∧ r < H'.next ∧ ∃ p, e.1 = aV p ∧ AccC H0 H' i j r ks ft ck (pk ++ [e]) (acc ++ [p]) := by
  obtain ⟨hit, hsrc, hpk, hks, ⟨es, c, xs, hdst, hMd, hnd, hmem, hlen⟩, hp⟩ := hA
  obtain ⟨hme, _⟩ := mem_left.1 he
  obtain ⟨p, hpe⟩ := hM.key hme
  have hve := hv e hme
  have hnx := hp.next
  have hhH : H.hide = [] := hp.hide.trans hh
  have hpB : HP (· ≠ r) H (H.put r (.miter j ck (pk.map (·.2.2) ++ [e.2.2]) ck)) := HP.put _ _ _
  have hgB : (H.put r (.miter j ck (pk.map (·.2.2) ++ [e.2.2]) ck)).get r = some (.miter j ck (pk.map (·.2.2) ++ [e.2.2]) ck) := AH.get_put hhH _ _
  have hnB : (H.put r (.miter j ck (pk.map (·.2.2) ++ [e.2.2]) ck)).next = H.next := rfl
  generalize H.put r (.miter j ck (pk.map (·.2.2) ++ [e.2.2]) ck) = HB at *
  have hloB : HB.lo = H0.lo := hpB.lo.trans hp.lo
  have hhB : HB.hide = [] := hpB.hide.trans hhH
  have hsB : HB.get j = some (.map ft ck) := (hpB.get (by omega) (by omega)).trans hsrc
  have hdB : HB.get i = some (.map es c) := (hpB.get (by omega) (by omega)).trans hdst
  have hev : zgl (.ptr r 0) HB = some (.tup [e.1, e.2.1]) := by
    show (match HB.get r with
      | some (.miter m _ seen last) => (match HB.get m, lastN seen with
        | some (.map es clock), some b => (match Nat.beq clock last, zsg b es with
          | true, some e => some (AV.tup [e.1, e.2.1])
          | _, _ => none)
        | _, _ => none)
      | _ => none) = _
    rw [hgB]
    simp only
    rw [hsB, zop]
    simp only
    rw [show Nat.beq ck ck = true from Nat.beq_refl _, zvl hM.nd hme]
  rw [c212r]
  obtain ⟨H1, hal1, hx1, hn1, hr1⟩ := zmi (e := 234) (s := 2) (c := AV.toC (.agg [(.int .i64 (0)), (.int .i64 (0))])) hhB
  rw [toC_l] at hr1
  have hh1 : H1.hide = [] := hx1.hide.trans hhB
  obtain ⟨H2, hal2, hx2, hn2, hr2⟩ := zmi (e := 460) (s := 0) (c := AV.toC (.agg [])) hh1
  rw [toC_l] at hr2
  have hh2 : H2.hide = [] := hx2.hide.trans hh1
  obtain ⟨H3, hs3, hr3, hp3, hn3⟩ := Row.stN (L := look) (t := 234) (v := aV p) (s := 2) (k := 0) (hr1.hx hx2 (by omega)) hh2 (by rw [hx2.lo, hx1.lo, hloB]; omega) rfl (by rfl) (by decide)
  have hh3 : H3.hide = [] := hp3.hide.trans hh2
  have hr2' := hr2.hp hp3 (by omega) (by omega)
  obtain ⟨H4, hs4, hr4, hp4, hn4⟩ := Row.stN (L := look) (t := 460) (v := .agg []) (s := 0) (k := 0) hr2' hh3 (by rw [hp3.lo, hx2.lo, hx1.lo, hloB]; omega) rfl (by rfl) (by simp)
  have hh4 : H4.hide = [] := hp4.hide.trans hh3
  have hp04 : HP (fun _ => True) HB H4 := (((hx1.trans hx2).hp fun _ => True).trans hp3 (r := fun _ => True) fun j hj _ => ⟨trivial, by omega⟩).trans hp4 fun j hj _ => ⟨trivial, by omega⟩
  have hrX : Row H4 HB.next false false 234 2 (aC [p]) := hr3.hp hp4 (by omega) (by omega)
  have hbx := bRd hrX
  obtain ⟨cz, hz1, hz2⟩ := hr4.rdN (o := 0) (s := 0) (by simp)
  have hd4 : H4.get i = some (.map es c) := (hp04.get (by omega) trivial).trans hdB
  obtain ⟨es', c', xs', hu, hMd', hnd', hmem', hlen', _⟩ := upd_ad hMd hnd hd4 (by rw [hp04.lo, hloB]; exact hlo) p cz.toV
  (repeat' (first | refine Z ?_ | refine Zq ?_ | refine zaa (by decide) ?_ | ((first | refine' Y ?_ ?_ | refine' X ?_ ?_ ?_); rotate_left; (· (first | (simp (disch := omega) only [evl, Nat.reduceEqDiff, Nat.reduceAdd, reduceIte, reduceCtorEq, t9] <;> exact rfl) | exact rfl)); all_goals try (refine fun (hb : _ = _) => ?_; try simp only [Zu, ne_eq, reduceCtorEq] at hb)) | (apply zba; · simp [evl])))
  unfold f528r2
  refine rk_gh (v := AV.tup [e.1, e.2.1]) (H' := HB) ?_ ?_
  · rw [hIn_f, zmp o212_3, t7, hev]; rfl
  simp only [zpa]
  rw [hpe, hve]
  (repeat' (first | refine Z ?_ | refine Zq ?_ | refine zaa (by decide) ?_ | ((first | refine' Y ?_ ?_ | refine' X ?_ ?_ ?_); rotate_left; (· (first | (simp (disch := omega) only [evl, Nat.reduceEqDiff, Nat.reduceAdd, reduceIte, reduceCtorEq] <;> exact rfl) | exact rfl)); all_goals try (refine fun (hb : _ = _) => ?_; try simp only [Zu, ne_eq, reduceCtorEq] at hb)) | (apply zba; · simp [evl])))
  refine rk_al hal1 ?_
  simp only [zpa]
  refine rk_al hal2 ?_
  simp only [zpa]
  apply rk_st
  · (simp (disch := omega) only [evl, Nat.reduceEqDiff, Nat.reduceAdd, reduceIte, reduceCtorEq])
    exact hs3
  simp only [zpa]
  apply rk_st
  · (simp (disch := omega) only [evl, Nat.reduceEqDiff, Nat.reduceAdd, reduceIte, reduceCtorEq])
    exact hs4
  simp only [zpa]
  (repeat' (first | refine Z ?_ | refine Zq ?_ | refine zaa (by decide) ?_ | ((first | refine' Y ?_ ?_ | refine' X ?_ ?_ ?_); rotate_left; (· (first | (simp (disch := omega) only [evl, Nat.reduceEqDiff, Nat.reduceAdd, reduceIte, reduceCtorEq, t0, hbx, hz1] <;> exact rfl) | exact rfl)); all_goals try (refine fun (hb : _ = _) => ?_; try simp only [Zu, ne_eq, reduceCtorEq] at hb)) | (apply zba; · simp [evl])))
  apply rk_hn (v := .undef) (H' := H4.put i (.map es' c'))
  · (simp (disch := omega) only [evl, Nat.reduceEqDiff, Nat.reduceAdd, reduceIte, reduceCtorEq, t0])
    show unitF (zoa look 545 (.map i) (aV p) cz.toV H4) = _
    rw [hu]; rfl
  simp only [zpa]
  (repeat' (first | refine Z ?_ | refine Zq ?_ | refine zaa (by decide) ?_ | ((first | refine' Y ?_ ?_ | refine' X ?_ ?_ ?_); rotate_left; (· (first | (simp (disch := omega) only [evl, Nat.reduceEqDiff, Nat.reduceAdd, reduceIte, reduceCtorEq] <;> exact rfl) | exact rfl)); all_goals try (refine fun (hb : _ = _) => ?_; try simp only [Zu, ne_eq, reduceCtorEq] at hb)) | (apply zba; · simp [evl])))
  have hnx4 := hp04.next
  have hpF : HP (· ≠ i) H4 (H4.put i (.map es' c')) := HP.put _ _ _
  have hnF : (H4.put i (.map es' c')).next = H4.next := rfl
  have hgF : (H4.put i (.map es' c')).get i = some (.map es' c') := AH.get_put hh4 _ _
  generalize H4.put i (.map es' c') = HF at *
  refine zma ⟨rfl, (by (first | (simp (disch := omega) only [evl, Nat.reduceEqDiff, Nat.reduceAdd, reduceIte, reduceCtorEq, t0] <;> exact rfl) | exact rfl)), (by (first | (simp (disch := omega) only [evl, Nat.reduceEqDiff, Nat.reduceAdd, reduceIte, reduceCtorEq, t7] <;> exact rfl) | exact rfl)), by omega, p, rfl, ?_, ?_, hpk.step he, ?_, ⟨es', c', xs', hgF, hMd', hnd', fun q => ?_, ?_⟩, ?_⟩
  · rw [List.map_append]
    show HF.get r = some (.miter j ck (pk.map (·.2.2) ++ [e.2.2]) ck)
    rw [hpF.get (by omega) (by omega), hp04.get (by omega) trivial]
    exact hgB
  · rw [hpF.get (by omega) (by omega), hp04.get (by omega) trivial]; exact hsB
  · rw [List.map_append, List.map_append, hks]
    show _ ++ [e.1] = _ ++ [aV p]
    rw [hpe]
  · rw [hmem', hmem, List.mem_append]; simp [or_assoc]
  · rw [List.length_append]; simp only [List.length_singleton]; omega
  · exact ((hp.trans hpB (r := fun j => j ≠ i) fun j hj h => ⟨h, by omega⟩).trans hp04 (r := fun j => j ≠ i) fun j hj h => ⟨h, trivial⟩).trans hpF fun j hj h => ⟨h, h⟩
theorem copy_ok (B : Nat) (H : AH) (i j : Nat) (es : List En) (c : Nat) (ks : List Ad) (hMd : MapA es c ks) (hnd : ks.Nodup) (hgi : H.get i = some (.map es c)) (ft : List En) (ck : Nat) (ls : List Ad) (hM : MapA ft ck ls) (hgj : H.get j = some (.map ft ck)) (hv : ∀ e ∈ ft, e.2.1 = .agg [])
    (hij : i ≠ j) (hi : i < H.next) (hj : j < H.next) (hlo : H.lo ≤ i) (hh : H.hide = []) :
    FnN Tryz.prog B 528 [.map i, .map j] H fun v H' => ∃ es c xs, H'.get i = some (.map es c) ∧ MapA es c xs ∧ xs.Nodup ∧ (∀ q, q ∈ xs ↔ q ∈ ks ∨ q ∈ ls) ∧ es.length ≤ ks.length + ls.length ∧ HP (· ≠ i) H H' := by
  obtain ⟨fn, h1, h2, h3, h4⟩ := l212
  refine zxf look_ok h1 h2 (by rw [h3]; simp) ?_
  rw [h3, h4, c212]
  have hx1 : HX H (H.new (.miter j ck [] ck)) := HX.new _ _
  have hg1 : (H.new (.miter j ck [] ck)).get H.next = some (.miter j ck [] ck) := AH.get_new hh _
  have hr1 : zze look 545 (.map j) H = some (.ptr H.next 0, H.new (.miter j ck [] ck)) := by
    unfold zze
    rw [u128]
    simp only [hgj]
  have hloH : H.lo ≤ H.next := by omega
  refine zgb (R1 := fun ex T' H' => ex = .normal ∧ gT T' 0 = .map i ∧ gT T' 7 = .ptr H.next 0 ∧ H' = H.new (.miter j ck [] ck)) ?_ ?_ (fun ex T2 H2 h hne => absurd h.1 hne)
  · refine zcc look_ok (zia B) w212a ?_
    rw [c212a]
    unfold f528r0
    (repeat' (first | refine Z ?_ | refine Zq ?_ | refine zaa (by decide) ?_ | ((first | refine' Y ?_ ?_ | refine' X ?_ ?_ ?_); rotate_left; (· (first | (simp (disch := omega) only [evl, Nat.reduceEqDiff, Nat.reduceAdd, reduceIte, reduceCtorEq] <;> exact rfl) | exact rfl)); all_goals try (refine fun (hb : _ = _) => ?_; try simp only [Zu, ne_eq, reduceCtorEq] at hb)) | (apply zba; · simp [evl])))
    refine rk_gh (v := AV.ptr H.next 0) (H' := H.new (.miter j ck [] ck)) ?_ ?_
    · rw [hIn_f, zlp o212_0]
      have : gT (putS (some (sOf 6)) (gT (zob [AV.map i, AV.map j] 0 Tr.nil) 1) (zob [AV.map i, AV.map j] 0 Tr.nil)) 6 = .map j := by (simp (disch := omega) only [evl, Nat.reduceEqDiff, Nat.reduceAdd, reduceIte, reduceCtorEq])
      first
        | rw [this, hr1]; rfl
        | (have h6 : ∀ T : Tr AV, gT T 6 = .map j → val2 (zze look 545 (gT T 6) H) = some (.val (.ptr H.next 0) (H.new (.miter j ck [] ck))) := fun T hT => by rw [hT, hr1]; rfl
           exact h6 _ (by (simp (disch := omega) only [evl, Nat.reduceEqDiff, Nat.reduceAdd, reduceIte, reduceCtorEq])))
    simp only [zpa]
    (repeat' (first | refine Z ?_ | refine Zq ?_ | refine zaa (by decide) ?_ | ((first | refine' Y ?_ ?_ | refine' X ?_ ?_ ?_); rotate_left; (· (first | (simp (disch := omega) only [evl, Nat.reduceEqDiff, Nat.reduceAdd, reduceIte, reduceCtorEq] <;> exact rfl) | exact rfl)); all_goals try (refine fun (hb : _ = _) => ?_; try simp only [Zu, ne_eq, reduceCtorEq] at hb)) | (apply zba; · simp [evl])))
    exact zma ⟨rfl, (by (first | (simp (disch := omega) only [evl, Nat.reduceEqDiff, Nat.reduceAdd, reduceIte, reduceCtorEq] <;> exact rfl) | exact rfl)), (by (first | (simp (disch := omega) only [evl, Nat.reduceEqDiff, Nat.reduceAdd, reduceIte, reduceCtorEq] <;> exact rfl) | exact rfl)), rfl⟩
  · rintro T1 H1 ⟨_, t0, t7, rfl⟩
    refine zni (R1 := fun ex T' H' => (ex = .exit 0) ∧ ∃ pk acc, AccC H H' i j H.next ks ft ck pk acc ∧ leftE ft (pk.map (·.2.2)) = []) ?_ ?_
    · refine zjp (fun k T' H' => gT T' 0 = .map i ∧ gT T' 7 = .ptr H.next 0 ∧ H.next < H'.next ∧ ∃ pk acc, k + pk.length = ft.length ∧ AccC H H' i j H.next ks ft ck pk acc) _ ?_ ft.length _ _ ?_
      · intro k T' H' ⟨t0, t7, hnx, pk, acc, hk, hA⟩
        rw [c212b]
        have hlen := hA.pc.len
        refine zgb (R1 := fun ex T2 H2 => ex = .normal ∧ gT T2 0 = .map i ∧ gT T2 7 = .ptr H.next 0 ∧ ((leftE ft (pk.map (·.2.2)) = [] ∧ gT T2 9 = .bool false ∧ H2 = H') ∨ ∃ e ∈ leftE ft (pk.map (·.2.2)), gT T2 9 = .bool true ∧ H2 = H'.put H.next (.miter j ck (pk.map (·.2.2) ++ [e.2.2]) ck))) ?_ ?_ (fun ex T2 H2 h hne => absurd h.1 hne)
        · refine zvb w212o ?_
          rw [c212o]
          have last : ∀ (T2 : Tr AV) (H2 : AH) (b : Bool) (vs : List AV), gT T2 0 = .map i → gT T2 7 = .ptr H.next 0 → gT T2 8 = .tup (.bool b :: vs) → ((leftE ft (pk.map (·.2.2)) = [] ∧ b = false ∧ H2 = H') ∨ ∃ e ∈ leftE ft (pk.map (·.2.2)), b = true ∧ H2 = H'.put H.next (.miter j ck (pk.map (·.2.2) ++ [e.2.2]) ck)) →
              OpsN Tryz.prog B (opsOf (seqA zkf)) 1 [opN zkf 0 1] T2 H2 fun T3 H3 => Ex.normal = Ex.normal ∧ gT T3 0 = .map i ∧ gT T3 7 = .ptr H.next 0 ∧ ((leftE ft (pk.map (·.2.2)) = [] ∧ gT T3 9 = .bool false ∧ H3 = H') ∨ ∃ e ∈ leftE ft (pk.map (·.2.2)), gT T3 9 = .bool true ∧ H3 = H'.put H.next (.miter j ck (pk.map (·.2.2) ++ [e.2.2]) ck)) := by
            intro T2 H2 b vs s0 s7 s8 hh2
            refine zmy (n := 0) look_ok (zia B) (at_of c212o 1 rfl) g212_2 (v := .bool b) (H1 := H2) ?_ ?_
            · unfold zqa
              rw [zrk o212_2 s8]
              rfl
            · rw [d212_2]
              refine zre ⟨rfl, by rw [zcd, if_neg (by decide)]; exact s0, by rw [zcd, if_neg (by decide)]; exact s7, ?_⟩
              rw [zcd, if_pos rfl]
              rcases hh2 with ⟨a1, rfl, a3⟩ | ⟨e, a1, rfl, a3⟩
              · exact .inl ⟨a1, rfl, a3⟩
              · exact .inr ⟨e, a1, rfl, a3⟩
          refine zet (at_of c212o 0 rfl) g212_1 o212_1 (r := H.next) (m := j) (since := ck) (last := ck) (seen := pk.map (·.2.2)) (es := ft) (clock := ck) (by rw [zmb, t7]) (by rw [hA.hp.lo]; omega) hA.it hA.src (Nat.le_refl _) hM.born ?_ ?_
          · intro hl0
            rw [d212_1]
            exact last _ _ false [] (by rw [zcd, if_neg (by decide)]; exact t0) (by rw [zcd, if_neg (by decide)]; exact t7) (by rw [zcd, if_pos rfl]) (.inl ⟨hl0, rfl, rfl⟩)
          · intro e he
            rw [d212_1]
            exact last _ _ true [e.1, e.2.1] (by rw [zcd, if_neg (by decide)]; exact t0) (by rw [zcd, if_neg (by decide)]; exact t7) (by rw [zcd, if_pos rfl]) (.inr ⟨e, he, rfl, rfl⟩)
        · rintro T2 H2 ⟨_, s0, s7, ⟨hl0, s9, rfl⟩ | ⟨e, he, s9, rfl⟩⟩
          · refine zcc look_ok (zia B) w212b ?_
            rw [c212r]
            (repeat' (first | refine Z ?_ | refine Zq ?_ | refine zaa (by decide) ?_ | ((first | refine' Y ?_ ?_ | refine' X ?_ ?_ ?_); rotate_left; (· (first | (simp (disch := omega) only [evl, Nat.reduceEqDiff, Nat.reduceAdd, reduceIte, reduceCtorEq, s9] <;> exact rfl) | exact rfl)); all_goals try (refine fun (hb : _ = _) => ?_; try simp only [Zu, ne_eq, reduceCtorEq] at hb)) | (apply zba; · simp [evl])))
            refine zma ?_
            exact lpq_e ⟨rfl, pk, acc, hA, hl0⟩
          · refine zhp (zcc look_ok (zia B) w212b (zbe1 H H' T2 i j H.next ks ft ck ls hM hv pk acc e he hA s0 s7 s9 hij hi hj (Nat.le_refl _) hnx hlo hh)) ?_
            rintro ex T3 H3 ⟨rfl, u0, u7, hn3, p, _, hA3⟩
            have := (hA.pc.step he).len
            simp only [List.length_append, List.length_singleton] at this
            exact lpq_n (k - 1) (by omega) ⟨u0, u7, hn3, _, _, by simp only [List.length_append, List.length_singleton]; omega, hA3⟩
      · refine ⟨t0, t7, Nat.lt_succ_self _, [], [], by simp, hg1, ?_, Pk.nil _, rfl, ⟨es, c, ks, ?_, hMd, hnd, fun q => by simp, by rw [hMd.len]; exact Nat.le_add_right _ _⟩, hx1.hp _⟩
        · rw [hx1.get hj]; exact hgj
        · rw [hx1.get hi]; exact hgi
    · rintro ex T2 H2 ⟨rfl, pk, acc, hA, hl0⟩
      have hb : blkEx 0 (.exit 0) = .normal := rfl
      rw [hb]
      have hp := hA.pc.all hM.nd hl0
      have hpa := hM.perm hp hA.kc
      obtain ⟨es', c', xs, q1, q2, q3, q4, q5⟩ := hA.dst
      exact fq_nor (resV_0 _) ⟨es', c', xs, q1, q2, q3, fun q => by rw [q4, hpa.mem_iff], by rw [← hpa.length_eq]; exact q5, hA.hp⟩
end HS
namespace Go.Ev
open Go.RowKit
section
variable {P : Program} {B : Nat} {E E1 : Env} {H H' : AH} {w w1 : World}
theorem BRel.carry {E0 E2 : Env} {i : Nat} {b : ABlk} (h0 : BRel E0 i b w) (h2 : BRel E2 i b w) (he : E0 i = E2 i) (h : BRel E0 i b w1) : BRel E2 i b w1 := by
  cases b with
  | cells vs e z op ro =>
    obtain ⟨cs, e1, fz1, a1, a2, a3⟩ := h0
    obtain ⟨cs', e2, fz2, b1, b2, b3⟩ := h2
    rw [he, b1] at a1
    cases a1
    obtain ⟨ds, e3, fz3, c1, c2, c3⟩ := h
    refine ⟨ds, e3, fz3, by rw [← he]; exact c1, fun j v hv => ?_, fun hr => by rw [← he]; exact c3 hr⟩
    have h1 := a2 j v hv
    have h2 := b2 j v hv
    rw [he, h2] at h1
    rw [← he, c2 j v hv, Option.some.inj h1]
  | map es k =>
    have h0 : w.heap[(E0 i).blk]? = _ := h0
    have h2 : w.heap[(E2 i).blk]? = _ := h2
    rw [he, h2] at h0
    have hq : es.map (entryOf E2) = es.map (entryOf E0) := by simpa using h0
    show w1.heap[(E2 i).blk]? = _
    rw [← he, hq]; exact h
  | loop st p T n ps a bd =>
    obtain ⟨r, a1, a2, a3, a4, a5⟩ := h0
    obtain ⟨r', b1, b2, b3, b4, b5⟩ := h2
    rw [he, b1] at a1
    cases a1
    obtain ⟨q, c1, c2, c3, c4, c5⟩ := h
    refine ⟨q, by rw [← he]; exact c1, c2, c3, fun t => ?_, c5⟩
    rw [c4 t, ← a4 t, b4 t]
  | miter m s n l =>
    obtain ⟨a1, a2⟩ := h0
    obtain ⟨b1, b2⟩ := h2
    obtain ⟨c1, c2⟩ := h
    rw [he, b2] at a2
    have hm : (E2 m).blk = (E0 m).blk := by simpa using a2
    exact ⟨b1, by rw [← he, hm]; exact c2⟩
  | chan c buf =>
    obtain ⟨s, r, a1⟩ := h0
    obtain ⟨s', r', b1⟩ := h2
    rw [he, b1] at a1
    have hb : concL E2 buf = concL E0 buf := by
      have := a1
      simp only [Option.some.injEq, Obj.chan.injEq, Array.mk.injEq] at this
      simpa using this.2.1
    obtain ⟨s2, r2, c1⟩ := h
    exact ⟨s2, r2, by rw [← he, hb]; exact c1⟩
  | glob g v =>
    obtain ⟨_, cs, e, fz, a1, a2⟩ := h0
    obtain ⟨b0, ds, e', fz', b1, b2⟩ := h2
    rw [he, b1] at a1
    cases a1
    obtain ⟨_, q, e2, fz2, c1, c2⟩ := h
    exact ⟨b0, q, e2, fz2, by rw [← he]; exact c1, by rw [c2, ← a2, b2]⟩
  | defd => trivial
structure HW (H H' : AH) : Prop where
  next : H.next ≤ H'.next
  lo : H'.lo = H.lo
  hide : H'.hide = H.hide
  old : ∀ i, i < H.next → H'.tree.get i = H.tree.get i
theorem HX.hw (h : HX H H') : HW H H' := ⟨h.next, h.lo, h.hide, h.old⟩
theorem HW.mz (h : HW H H') (z : Bool) : HW H { H' with fz := z } := ⟨h.next, h.lo, h.hide, h.old⟩
theorem HW.get (h : HW H H') {i : Nat} (hi : i < H.next) : H'.get i = H.get i := by
  unfold AH.get
  rw [h.old i hi]
  unfold AH.vis; rw [h.hide]
theorem zmg1 (hw : H.Wf) (hS : St B E H w) (hS1 : St B E1 H' w1) (hP : Post E H w E1 H' w1) (hh : HW H H') {E' : Env} (hE : Agree H.next E E') {i : Nat} {b : ABlk} (hg : H.get i = some b) : BRel E' i b w1 := by
  have hi := hw.get_lt hg
  have hA1 : Agree H.next E E1 := hP.ext
  have h0 := (hS E1 hA1).blk i b hg
  have h2 := (hS E' hE).blk i b hg
  have h1 := hS1.self.blk i b (by rw [hh.get hi]; exact hg)
  exact h0.carry h2 ((hA1 i hi).trans (hE i hi).symm) h1
theorem drop_st (hw : H.Wf) (hS : St B E H w) (hS1 : St B E1 H' w1) (hP : Post E H w E1 H' w1) (hh : HW H H') (z : Bool) : St B E { H with fz := z } w1 := fun E' hE => by
  have hE : Agree H.next E E' := hE
  have hb : ∀ i, i < H.next → E' i = E1 i := fun i hi => (hE i hi).trans (hP.ext i hi).symm
  have r := hS1.self
  refine ⟨fun i b hg => zmg1 hw hS hS1 hP hh hE hg, fun i j b c hi hj hne ho hl => ?_, fun i b hg ho => ?_, r.size⟩
  · replace hi : H.get i = some b := hi
    replace hj : H.get j = some c := hj
    rw [hb i (hw.get_lt hi), hb j (hw.get_lt hj)]
    exact r.inj i j b c (by rw [hh.get (hw.get_lt hi)]; exact hi) (by rw [hh.get (hw.get_lt hj)]; exact hj) hne ho hl
  · replace hg : H.get i = some b := hg
    rw [hb i (hw.get_lt hg)]
    exact r.base i b (by rw [hh.get (hw.get_lt hg)]; exact hg) ho
theorem zce1 (hw : H.Wf) (hP : Post E H w E1 H' w1) {z : Bool} (hz : z = false → H'.fz = false ∧ H.fz = false) : Post E H w E { H with fz := z } w1 :=
  ⟨Agree.refl _ _, Nat.le_refl _, rfl, rfl, hP.tape, hP.os, hP.output, hP.size, hP.frame, fun c h => .inl h, fun _ _ => rfl, hP.loops, fun h => ⟨(hz h).2, (hP.froz (hz h).1).2⟩, fun c h => .inl h, hP.dr⟩
theorem Done.drop {v : AV} {u : Value} (hw : H.Wf) (hS : St B E H w) (h : Done B E H w v H' u w1) (hh : HW H H') (hv : ∀ E E' : Env, conc E v = conc E' v) {z : Bool} (hz : z = false → H'.fz = false ∧ H.fz = false) : Done B E H w v { H with fz := z } u w1 := by
  obtain ⟨E1, h1, h2, h3, h4⟩ := h
  exact ⟨E, fun E' _ => by rw [h1.self]; exact hv _ _, drop_st hw hS h2 h3 hh z, zce1 hw h3 hz, hw.tree, hw.lo, hw.hide⟩
theorem Done.keep1 {k n : Nat} {c : Ce} {e z : Nat} {u : Value} (hw : H.Wf) (hS : St B E H w) (h : Done B E H w (.sl k 0 n n true) H' u w1) (hh : HW H H') (hk : H.next ≤ k) (hg : H'.get k = some (.cells c e z true false)) {c' : Ce} (hcc : c'.l = c.l) (hc : ∀ E E' : Env, concL E c.l = concL E' c.l) :
    Done B E H w (.sl H.next 0 n n true) { H.new (.cells c' e z true false) with fz := true } u w1 := by
  obtain ⟨E1, h1, h2, h3, h4⟩ := h
  have hadd : E.add H.next (E1 k) H.next = E1 k := Env.add_self _ _ _
  have hlt : k < H'.next := h4.get_lt hg
  have hx : ∀ i, i < H.next → E.add H.next (E1 k) i = E1 i := fun i hi => (Env.add_agree E H.next _ i hi).trans (h3.ext i hi).symm
  have hgx : ∀ i b, ({ H.new (.cells c' e z true false) with fz := true } : AH).get i = some b → (i = H.next ∧ b = .cells c' e z true false) ∨ (i < H.next ∧ H.get i = some b) := fun i b hi => by
    replace hi : (H.new _).get i = some b := hi
    rw [AH.new_get hw] at hi
    split at hi
    · next hq => exact .inl ⟨hq, (Option.some.inj hi).symm⟩
    · exact .inr ⟨hw.get_lt hi, hi⟩
  refine ⟨E.add H.next (E1 k), fun E' hE => ?_, fun E' hE => ?_, ?_, (AH.new_wf hw (.cells c' e z true false)).tree, (AH.new_wf hw (.cells c' e z true false)).lo, (AH.new_wf hw (.cells c' e z true false)).hide⟩
  · have : E' H.next = E1 k := (hE H.next (Nat.lt_succ_self _)).trans hadd
    rw [h1.self]
    show Value.slice (some ⟨(E1 k).blk, (E1 k).off + 0, none⟩) n (n + (if true then (E1 k).extra else 0)) = Value.slice (some ⟨(E' H.next).blk, (E' H.next).off + 0, none⟩) n (n + (if true then (E' H.next).extra else 0))
    rw [this]
  · have hn : E' H.next = E1 k := (hE H.next (Nat.lt_succ_self _)).trans hadd
    have hb : ∀ i, i < H.next → E' i = E1 i := fun i hi => (hE i (Nat.lt_succ_of_lt hi)).trans (hx i hi)
    have hEE : Agree H.next E E' := fun i hi => (hb i hi).trans (h3.ext i hi)
    have r := h2.self
    refine ⟨fun i b hi => ?_, fun i j b d hi hj hne ho hl => ?_, fun i b hi ho => ?_, r.size⟩
    · rcases hgx i b hi with ⟨rfl, rfl⟩ | ⟨hlt', hi⟩
      · obtain ⟨cs, e0, fz, a1, a2, a3⟩ := r.blk k _ hg
        refine ⟨cs, e0, fz, by rw [hn]; exact a1, fun j v hv => ?_, fun hr => ?_⟩
        · rw [hcc] at hv
          rw [hn, a2 j v hv]
          have := congrArg (fun l => l[j]?) (hc E1 E')
          simp only [zfa?, hv, Option.map_some] at this
          exact this
        · rw [hn, hcc]; exact a3 hr
      · exact zmg1 hw hS h2 h3 hh hEE hi
    · rcases hgx i b hi with ⟨rfl, rfl⟩ | ⟨hi1, hi⟩
      · rcases hgx j d hj with ⟨rfl, rfl⟩ | ⟨hj1, hj⟩
        · exact absurd rfl hne
        · rw [hn, hb j hj1]
          exact r.inj k j _ d hg (by rw [hh.get hj1]; exact hj) (by omega) rfl hl
      · rcases hgx j d hj with ⟨rfl, rfl⟩ | ⟨hj1, hj⟩
        · rw [hn, hb i hi1]
          exact r.inj i k b _ (by rw [hh.get hi1]; exact hi) hg (by omega) ho rfl
        · rw [hb i hi1, hb j hj1]
          exact r.inj i j b d (by rw [hh.get hi1]; exact hi) (by rw [hh.get hj1]; exact hj) hne ho hl
    · rcases hgx i b hi with ⟨rfl, rfl⟩ | ⟨hi1, hi⟩
      · rw [hn]; exact r.base k _ hg rfl
      · rw [hb i hi1]; exact r.base i b (by rw [hh.get hi1]; exact hi) ho
  · refine ⟨Env.add_agree _ _ _, Nat.le_succ _, rfl, rfl, h3.tape, h3.os, h3.output, h3.size, h3.frame, fun q ho => ?_, fun i hi => ?_, h3.loops, fun h => Bool.noConfusion h, fun q ho => ?_, h3.dr⟩
    · obtain ⟨i, b, hi, hb, hlo, he⟩ := ho
      rcases hgx i b hi with ⟨rfl, rfl⟩ | ⟨hi1, hi⟩
      · rw [hadd] at he
        exact h3.own q ⟨k, _, hg, rfl, by rw [hh.lo]; have := hw.lo; omega, he⟩
      · exact .inl ⟨i, b, hi, hb, hlo, by rw [← he, Env.add_agree E H.next _ i hi1]⟩
    · show (H.tree.set H.next _).get i = _
      rw [Tr.get_set, if_neg]
      rintro rfl
      rcases hi with hi | hi
      · exact absurd hw.lo (by omega)
      · rw [hw.vis_ge (Nat.le_refl _)] at hi; cases hi
    · obtain ⟨i, b, hi, hb, he⟩ := ho
      rcases hgx i b hi with ⟨rfl, rfl⟩ | ⟨hi1, hi⟩
      · rw [hadd] at he
        exact h3.lives q ⟨k, _, hg, rfl, he⟩
      · exact .inl ⟨i, b, hi, hb, by rw [← he, Env.add_agree E H.next _ i hi1]⟩
end
end Go.Ev
namespace HS
open Go.Ev
open Ra Rb Rc Rd Re Rf Rg Rh Ri Rj Rk Rl Rm Rn Ro Rp Rq Rr
set_option maxRecDepth 100000
def ltB (p q : Ad) : Bool := FI.blt p.1 q.1 || (FI.beq p.1 q.1 && FI.blt p.2 q.2)
theorem ltB_eq (p q : Ad) : ltB p q = Go.Proofs.ltOf ordA p q := by
  unfold ltB
  rw [ltA, FI.blt_eq, FI.beq_eq, FI.blt_eq]
  rw [Bool.eq_iff_iff]
  simp
def insA (p : Ad) : List Ad → List Ad
  | [] => [p]
  | q :: l => match ltB q p with | true => q :: insA p l | false => p :: q :: l
def srtA : List Ad → List Ad
  | [] => []
  | p :: l => insA p (srtA l)
theorem zfn (p : Ad) : ∀ l, (insA p l).Perm (p :: l)
  | [] => List.Perm.refl _
  | q :: l => by
    unfold insA
    cases ltB q p with
    | true => exact ((zfn p l).cons q).trans (List.Perm.swap p q l)
    | false => exact List.Perm.refl _
theorem zft : ∀ l, (srtA l).Perm l
  | [] => List.Perm.refl _
  | p :: l => (zfn p (srtA l)).trans ((zft l).cons p)
abbrev Le (p q : Ad) : Prop := Go.Proofs.ltOf ordA q p = false
theorem zak1 (p q : Ad) : Le p q ↔ (p.1 < q.1 ∨ (p.1 = q.1 ∧ p.2 ≤ q.2)) := by
  unfold Le
  rw [ltA, decide_eq_false_iff_not]; omega
theorem le_trans {p q r : Ad} (h : Le p q) (h' : Le q r) : Le p r := by rw [zak1] at *; omega
theorem zjv {p q : Ad} (h : Le p q) (h' : Le q p) : p = q := by
  rw [zak1] at *
  exact Prod.ext (by omega) (by omega)
theorem zxy (p : Ad) : ∀ l, l.Pairwise Le → (insA p l).Pairwise Le
  | [], _ => List.pairwise_singleton _ _
  | q :: l, h => by
    obtain ⟨h1, h2⟩ := List.pairwise_cons.1 h
    unfold insA
    cases hq : ltB q p with
    | true =>
      refine List.pairwise_cons.2 ⟨fun x hx => ?_, zxy p l h2⟩
      rcases List.mem_cons.1 ((zfn p l).mem_iff.1 hx) with rfl | hx
      · rw [ltB_eq, ltA, decide_eq_true_eq] at hq
        rw [zak1]; omega
      · exact h1 x hx
    | false =>
      have hpq : Le p q := by show Go.Proofs.ltOf ordA q p = false; rw [← ltB_eq]; exact hq
      refine List.pairwise_cons.2 ⟨fun x hx => ?_, h⟩
      rcases List.mem_cons.1 hx with rfl | hx
      · exact hpq
      · exact le_trans hpq (h1 x hx)
theorem zyy : ∀ l, (srtA l).Pairwise Le
  | [] => List.Pairwise.nil
  | p :: l => zxy p _ (zyy l)
theorem asc_pw {ys : List Ad} (h : Asc ys) : ys.Pairwise Le := by
  rw [List.pairwise_iff_getElem]
  intro s t hs ht hst
  have := h s t hst ht
  unfold aG at this
  rwa [List.getD_eq_getElem?_getD, List.getD_eq_getElem?_getD, List.getElem?_eq_getElem hs, List.getElem?_eq_getElem ht] at this
theorem zng1 : ∀ (xs ys : List Ad), xs.Pairwise Le → ys.Pairwise Le → xs.Perm ys → xs = ys
  | [], ys, _, _, h => (List.nil_perm.1 h).symm
  | x :: xs, ys, hx, hy, h => by
    cases ys with
    | nil => exact absurd h.length_eq (by simp)
    | cons y ys =>
      obtain ⟨h1, h2⟩ := List.pairwise_cons.1 hx
      obtain ⟨h3, h4⟩ := List.pairwise_cons.1 hy
      have hxy : x = y := by
        rcases List.mem_cons.1 (h.mem_iff.1 List.mem_cons_self) with e | hm
        · exact e
        · rcases List.mem_cons.1 (h.mem_iff.2 List.mem_cons_self) with e | hm'
          · exact e.symm
          · exact zjv (h1 y hm') (h3 x hm)
      subst hxy
      rw [zng1 xs ys h2 h4 (List.Perm.cons_inv h)]
theorem srtA_of {ys ks : List Ad} (h : Asc ys) (hp : ys.Perm ks) : ys = srtA ks := zng1 _ _ (asc_pw h) (zyy ks) (hp.trans (zft ks).symm)
def outA (ys : List Ad) (H : AH) : AV × AH := match ys with
  | [] => (.nilSl, { H with fz := true })
  | _ :: _ => (.sl H.next 0 (len ys) (len ys) true, { H.new (.cells (.lst (aC ys)) 234 2 true false) with fz := true })
theorem aC_E (l : List Ad) (E E' : Env) : concL E (aC l) = concL E' (aC l) := by
  induction l with
  | nil => rfl
  | cons p l ih =>
    show conc E (.int .i64 p.1) :: conc E (.int .i64 p.2) :: concL E (aC l) = conc E' (.int .i64 p.1) :: conc E' (.int .i64 p.2) :: concL E' (aC l)
    rw [ih]; rfl
theorem ap_done {B : Nat} {E : Env} {H H' : AH} {w w1 : World} {v : AV} {u : Value} {ys : List Ad} {N : Nat} (hw : H.Wf) (hS : St B E H w) (hd : Done B E H w v H' u w1) (hh : HW H H') (hap : Ap H' v ys.length (aC ys) 234 2 N) (hN : H.next ≤ N) (hnl : ys = [] → v = .nilSl) :
    Done B E H w (outA ys H).1 (outA ys H).2 u w1 := by
  obtain ⟨h0, ⟨rfl, hn⟩ | ⟨i, rfl, ⟨c, hg, hcl⟩, hNi, hi⟩⟩ := hap
  · have : ys = [] := List.eq_nil_of_length_eq_zero hn
    subst this
    exact hd.drop hw hS hh (fun _ _ => rfl) (fun h => Bool.noConfusion h)
  · cases ys with
    | nil => exact absurd (hnl rfl) (by simp)
    | cons p l =>
      show Done B E H w (.sl H.next 0 (len (p :: l)) (len (p :: l)) true) { H.new (.cells (.lst (aC (p :: l))) 234 2 true false) with fz := true } u w1
      rw [zpc]
      exact hd.keep1 hw hS hh (by omega) hg (c' := .lst (aC (p :: l))) hcl.symm (by rw [hcl]; exact aC_E _)
def zbk1 : Code := bodyN look 483
def f483r0 : K2 :=
  .mv (.con .nilMap) (some (sOf 2)) <|
  .done
def f483r1 : K2 :=
  .al false zvu (some (sOf 6)) <|
  .mv (tO 6) (some (sOf 3)) <|
  .done
def f483r2 : K2 :=
  .mv (tO 0) (some (sOf 7)) <|
  .ln (fun xs H => fstO (zna .len look [111] xs H)) [(tO 7)] (some (sOf 8)) <|
  .mv (.con (.int .i64 (0))) (some (sOf 9)) <|
  .done
def f483r3 : K2 :=
  .p2 (binF .lss (evBin look .lss 3 (.tmp 9) (.tmp 8))) (tO 9) (tO 8) (some (sOf 10)) <|
  .done
def f483r4 : K2 :=
  .p2 (ixS 2) (tO 7) (tO 9) (some (sOf 11)) <|
  .r1 (ldN 2) (tO 11) (some (sOf 12)) <|
  .al false (alF (AV.toC (.agg [(.int .i64 (0)), (.int .i64 (0))])) 234 2) (some (sOf 5)) <|
  .st false (stN 2) (tO 5) (tO 12) none <|
  .done
def f483r5 : K2 :=
  .mv (tO 3) (some (sOf 13)) <|
  .r1 (ldN 2) (tO 5) (some (sOf 14)) <|
  .ln (fun xs _ => zee look 460 (zipF [] xs)) [] (some (sOf 15)) <|
  .hn false (fun xs H => unitF (zoa look 545 (hd xs) (hd (tl xs)) (hd (tl (tl xs))) H)) [(tO 13), (tO 14), (tO 15)] none <|
  .done
def f483r6 : K2 :=
  .p2 (binF .add (evBin look .add 3 (.tmp 9) (.const (.int .i64 (1))))) (tO 9) (.con (.int .i64 (1))) (some (sOf 16)) <|
  .mv (tO 16) (some (sOf 9)) <|
  .done
def f483l0 : C2 := (.seq (.reg f483r3)
  (.seq (.cond (tO 10) .skip (.exit 0))
  (.seq (.block 1 (.seq (.reg f483r4)
  (.reg f483r5)))
  (.reg f483r6))))
def f483b0 : Code := lpN zbk1 0
theorem zde1 : comp look f483b0 = f483l0 := by kernel_rfl
def f483r7 : K2 :=
  .mv (tO 3) (some (sOf 17)) <|
  .mv (tO 17) (some (sOf 2)) <|
  .done
def f483c : C2 := (.seq (.reg f483r0)
  (.seq (.reg f483r1)
  (.seq (.seq (.reg f483r2)
  (.block 0 (.loop f483b0)))
  (.seq (.reg f483r7)
  .ret))))
theorem f483_eq : fnF look 483 = some ⟨18, f483c, [.tmp 2]⟩ := by kernel_rfl
def zrb : Code := bodyN look 345
def f345r0 : K2 :=
  .mv (.con .nilSl) (some (sOf 2)) <|
  .done
end HS
end
