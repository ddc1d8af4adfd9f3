import Derived.Test.YtmbnmfclpbdimaaGreatEvF
import Derived.Test.YtmbnmfclpbdimaaGreatEvE
import Derived.Below
set_option linter.unusedSimpArgs false
set_option linter.unusedVariables false
namespace Go.Ev

/-! ### Symbolic runs of compiled code -/

noncomputable def tO (k : Nat) : O2 := brec (.hi k) (.lo (dg (Nat.div k 8)) (dg (Nat.mod k 8))) (Nat.blt k 64)
noncomputable def gT (T : Tr AV) (k : Nat) : AV := dflt (T.get k)
theorem ev_tO (k : Nat) (T : Tr AV) : (tO k).ev T = gT T k := by
  have := opnd_opd T (.tmp k)
  have h2 : opnd T (.tmp k) = some (gT T k) := by
    show (match T.get k with | some v => some v | none => some AV.undef) = some (dflt (T.get k))
    cases T.get k <;> rfl
  rw [h2] at this
  exact (Option.some.inj this).symm
theorem ev_con (v : AV) (T : Tr AV) : (O2.con v).ev T = v := rfl
theorem gT_set (T : Tr AV) (j : Nat) (v : AV) (k : Nat) : gT (T.set j v) k = if k = j then v else gT T k := by
  unfold gT; rw [Tr.get_set]; split <;> rfl
theorem gT_put (T : Tr AV) (j : Nat) (v : AV) (k : Nat) : gT (putS (some (sOf j)) v T) k = if k = j then v else gT T k := by
  show gT ((sOf j).set v T) k = _
  rw [sOf_set, gT_set]
theorem gT_put0 (T : Tr AV) (v : AV) (k : Nat) : gT (putS none v T) k = gT T k := rfl
theorem gT_nil (k : Nat) : gT .nil k = .undef := by
  unfold gT; rw [Tr.get_nil]; rfl
theorem sa_nil (j : Nat) (T : Tr AV) : setArgs [] j T = T := rfl
theorem sa_cons (v : AV) (l : List AV) (j : Nat) (T : Tr AV) : setArgs (v :: l) j T = setArgs l (j + 1) (T.set j v) := rfl
theorem evs_nil (T : Tr AV) : evs [] T = [] := rfl
theorem evs_cons (x : O2) (xs : List O2) (T : Tr AV) : evs (x :: xs) T = x.ev T :: evs xs T := rfl
theorem hd_cons (a : AV) (l : List AV) : hd (a :: l) = a := rfl
theorem tl_cons (a : AV) (l : List AV) : tl (a :: l) = l := rfl

inductive Kf where
  | seq (b : C2)
  | blk (id : Nat)
  | scp
noncomputable def kOf (L : Lk) (rec : Rec) : List Kf → Kont
  | [] => fun ex T H => some ⟨ex, T, H⟩
  | .seq b :: s => fun ex T H => exSeq (evC' b L rec (kOf L rec s) T H) (kOf L rec s) T H ex
  | .blk id :: s => fun ex T H => exBlk id (kOf L rec s) T H ex
  | .scp :: s => fun ex T H => exRec (kOf L rec s .normal T H) (fun i => kOf L rec s (.exit i) T H) (kOf L rec s .ret T H) (fun _ => none) ex

abbrev PostC := Ex → Tr AV → AH → Prop
/-- From some fuel on it comes to one and the same answer, of which Q holds. -/
def Comes (Q : PostC) (F : Rec → Option Out) (L : Lk) : Prop := ∃ o : Out, Q o.ex o.T o.H ∧ ∃ n, ∀ m, n ≤ m → F (evF L m) = some o
structure RC (L : Lk) (c : C2) (s : List Kf) (T : Tr AV) (H : AH) (Q : PostC) : Prop where
  h : Comes Q (fun rec => evC' c L rec (kOf L rec s) T H) L
structure RK (L : Lk) (k : K2) (s : List Kf) (T : Tr AV) (H : AH) (Q : PostC) : Prop where
  h : Comes Q (fun rec => runK' k L rec (kOf L rec s .normal) T H) L
structure RN (L : Lk) (s : List Kf) (ex : Ex) (T : Tr AV) (H : AH) (Q : PostC) : Prop where
  h : Comes Q (fun rec => kOf L rec s ex T H) L
structure FnE (L : Lk) (f : FuncId) (args : List AV) (H : AH) (R : AV → AH → Prop) : Prop where
  h : ∃ v H', R v H' ∧ ∃ n, ∀ m, n ≤ m → evF L m (.call f args H) = some (out1 v H')
structure LpE (L : Lk) (body : Code) (T : Tr AV) (H : AH) (R : PostC) : Prop where
  h : Comes R (fun rec => rec (.loop body T H)) L

section
variable {L : Lk} {s : List Kf} {T : Tr AV} {H : AH} {Q : PostC} {k : K2} {d : Option S2}

theorem Comes.mono {Q Q' : PostC} {F : Rec → Option Out} (h : Comes Q F L) (hq : ∀ ex T H, Q ex T H → Q' ex T H) : Comes Q' F L := by
  obtain ⟨o, h1, h2⟩ := h
  exact ⟨o, hq _ _ _ h1, h2⟩
theorem FnE.mono {f : FuncId} {args : List AV} {R R' : AV → AH → Prop} (h : FnE L f args H R) (hq : ∀ v H, R v H → R' v H) : FnE L f args H R' := by
  obtain ⟨v, H', h1, h2⟩ := h.h
  exact ⟨v, H', hq _ _ h1, h2⟩

/-! Code -/
theorem rn_nil {ex : Ex} (h : Q ex T H) : RN L [] ex T H Q := ⟨⟨ex, T, H⟩, h, 0, fun _ _ => rfl⟩
theorem rn_seq_n {b : C2} (h : RC L b s T H Q) : RN L (.seq b :: s) .normal T H Q := ⟨h.h⟩
theorem rn_seq_e {b : C2} {id : Nat} (h : RN L s (.exit id) T H Q) : RN L (.seq b :: s) (.exit id) T H Q := ⟨h.h⟩
theorem rn_seq_r {b : C2} (h : RN L s .ret T H Q) : RN L (.seq b :: s) .ret T H Q := ⟨h.h⟩
theorem rn_blk_n {id : Nat} (h : RN L s .normal T H Q) : RN L (.blk id :: s) .normal T H Q := ⟨h.h⟩
theorem rn_blk_r {id : Nat} (h : RN L s .ret T H Q) : RN L (.blk id :: s) .ret T H Q := ⟨h.h⟩
theorem rn_blk_e {id : Nat} (h : RN L s .normal T H Q) : RN L (.blk id :: s) (.exit id) T H Q := by
  refine ⟨?_⟩
  show Comes Q (fun rec => brec (kOf L rec s (.exit id) T H) (kOf L rec s .normal T H) (Nat.beq id id)) L
  rw [show Nat.beq id id = true from Nat.beq_refl id]
  exact h.h
theorem rn_blk_x {id j : Nat} (hj : Nat.beq j id = false) (h : RN L s (.exit j) T H Q) : RN L (.blk id :: s) (.exit j) T H Q := by
  refine ⟨?_⟩
  show Comes Q (fun rec => brec (kOf L rec s (.exit j) T H) (kOf L rec s .normal T H) (Nat.beq j id)) L
  rw [hj]
  exact h.h
theorem rn_scp_n (h : RN L s .normal T H Q) : RN L (.scp :: s) .normal T H Q := ⟨h.h⟩
theorem rn_scp_e {id : Nat} (h : RN L s (.exit id) T H Q) : RN L (.scp :: s) (.exit id) T H Q := ⟨h.h⟩
theorem rn_scp_r (h : RN L s .ret T H Q) : RN L (.scp :: s) .ret T H Q := ⟨h.h⟩
theorem rc_skip (h : RN L s .normal T H Q) : RC L .skip s T H Q := ⟨h.h⟩
theorem rc_reg (h : RK L k s T H Q) : RC L (.reg k) s T H Q := ⟨h.h⟩
theorem rc_seq {a b : C2} (h : RC L a (.seq b :: s) T H Q) : RC L (.seq a b) s T H Q := ⟨h.h⟩
theorem rc_blk {id : Nat} {a : C2} (h : RC L a (.blk id :: s) T H Q) : RC L (.block id a) s T H Q := ⟨h.h⟩
theorem rc_scp {a : C2} (h : RC L a (.scp :: s) T H Q) : RC L (.scope a) s T H Q := ⟨h.h⟩
theorem rc_exit {id : Nat} (h : RN L s (.exit id) T H Q) : RC L (.exit id) s T H Q := ⟨h.h⟩
theorem rc_ret (h : RN L s .ret T H Q) : RC L .ret s T H Q := ⟨h.h⟩
theorem rc_cond {x : O2} {a b : C2} {c : Bool} (hx : x.ev T = .bool c) (ha : c = true → RC L a s T H Q) (hb : c = false → RC L b s T H Q) : RC L (.cond x a b) s T H Q := by
  refine ⟨?_⟩
  show Comes Q (fun rec => avBoolO none (fun y => brec (evC' b L rec (kOf L rec s) T H) (evC' a L rec (kOf L rec s) T H) y) (x.ev T)) L
  rw [hx]
  cases c with
  | true => exact (ha rfl).h
  | false => exact (hb rfl).h
theorem rc_cond_f {x : O2} {a b : C2} (hx : x.ev T = .bool false) (hb : RC L b s T H Q) : RC L (.cond x a b) s T H Q := rc_cond hx (fun h => by cases h) (fun _ => hb)
theorem rc_loop {body : Code} {R : PostC} (h : LpE L body T H R) (hk : ∀ ex T' H', R ex T' H' → RN L s ex T' H' Q) : RC L (.loop body) s T H Q := by
  obtain ⟨o, hR, n, hn⟩ := h.h
  obtain ⟨o2, hQ, n2, h2⟩ := (hk _ _ _ hR).h
  refine ⟨o2, hQ, max n n2, fun m hm => ?_⟩
  show orec none (fun o => outRec (kOf L (evF L m) s) o) (evF L m (.loop body T H)) = some o2
  have hn : evF L m (.loop body T H) = some o := hn m (by omega)
  rw [hn]
  exact h2 m (by omega)

/-! Regions -/
theorem rk_done (h : RN L s .normal T H Q) : RK L .done s T H Q := ⟨h.h⟩
theorem rk_sk (h : RK L k s (putS d .undef T) H Q) : RK L (.sk d k) s T H Q := ⟨h.h⟩
theorem rk_p1 {f : AV → Option AV} {x : O2} {v : AV} (hv : f (x.ev T) = some v) (h : RK L k s (putS d v T) H Q) : RK L (.p1 f x d k) s T H Q := by
  refine ⟨?_⟩
  show Comes Q (fun rec => orec none (fun v => runK' k L rec (kOf L rec s .normal) (putS d v T) H) (f (x.ev T))) L
  rw [hv]; exact h.h
theorem rk_p2 {f : AV → AV → Option AV} {x y : O2} {v : AV} (hv : f (x.ev T) (y.ev T) = some v) (h : RK L k s (putS d v T) H Q) : RK L (.p2 f x y d k) s T H Q := by
  refine ⟨?_⟩
  show Comes Q (fun rec => orec none (fun v => runK' k L rec (kOf L rec s .normal) (putS d v T) H) (f (x.ev T) (y.ev T))) L
  rw [hv]; exact h.h
theorem rk_r1 {f : AV → AH → Option AV} {x : O2} {v : AV} (hv : f (x.ev T) H = some v) (h : RK L k s (putS d v T) H Q) : RK L (.r1 f x d k) s T H Q := by
  refine ⟨?_⟩
  show Comes Q (fun rec => orec none (fun v => runK' k L rec (kOf L rec s .normal) (putS d v T) H) (f (x.ev T) H)) L
  rw [hv]; exact h.h
theorem rk_m1 {w : Bool} {f : AV → AH → Option (AV × AH)} {x : O2} {v : AV} {H' : AH} (hv : f (x.ev T) (hIn w H) = some (v, H')) (h : RK L k s (putS d v T) (hOut w H H') Q) : RK L (.m1 w f x d k) s T H Q := by
  refine ⟨?_⟩
  show Comes Q (fun rec => orec none (prodO (fun v H' => runK' k L rec (kOf L rec s .normal) (putS d v T) (hOut w H H'))) (f (x.ev T) (hIn w H))) L
  rw [hv]; exact h.h
theorem rk_ln {f : List AV → AH → Option AV} {xs : List O2} {v : AV} (hv : f (evs xs T) H = some v) (h : RK L k s (putS d v T) H Q) : RK L (.ln f xs d k) s T H Q := by
  refine ⟨?_⟩
  show Comes Q (fun rec => orec none (fun v => runK' k L rec (kOf L rec s .normal) (putS d v T) H) (f (evs xs T) H)) L
  rw [hv]; exact h.h
theorem rk_ls {f : List AV → AH → Option AV} {xs : List O2} {o : Oper} {v : AV} (hv : f (evs xs T) H = some v) (h : RK L k s (putS d v T) H Q) : RK L (.ls f xs o d k) s T H Q := by
  refine ⟨?_⟩
  show Comes Q (fun rec => orec (orec none (prodO (fun v H' => runK' k L rec (kOf L rec s .normal) (putS d v T) H')) (evEnd L T o H)) (fun v => runK' k L rec (kOf L rec s .normal) (putS d v T) H) (f (evs xs T) H)) L
  rw [hv]; exact h.h
theorem rk_hn {w : Bool} {f : List AV → AH → Option (AV × AH)} {xs : List O2} {v : AV} {H' : AH} (hv : f (evs xs T) (hIn w H) = some (v, H')) (h : RK L k s (putS d v T) (hOut w H H') Q) : RK L (.hn w f xs d k) s T H Q := by
  refine ⟨?_⟩
  show Comes Q (fun rec => orec none (prodO (fun v H' => runK' k L rec (kOf L rec s .normal) (putS d v T) (hOut w H H'))) (f (evs xs T) (hIn w H))) L
  rw [hv]; exact h.h
theorem rk_gd {sl : Nat} {want c : Bool} {a b : K2} (hx : gT T sl = .bool c) (ha : c = want → RK L a s T H Q) (hb : c = !want → RK L b s (putS d .undef T) H Q) : RK L (.gd (sOf sl) want d a b) s T H Q := by
  refine ⟨?_⟩
  show Comes Q (fun rec => brec (runK' b L rec (kOf L rec s .normal) (putS d .undef T) H) (runK' a L rec (kOf L rec s .normal) T H) (guardB want ((sOf sl).get T))) L
  rw [sOf_get]
  unfold gT at hx
  cases hg : T.get sl with
  | none => rw [hg] at hx; cases hx
  | some v =>
    rw [hg] at hx
    have : v = .bool c := hx
    subst this
    cases c <;> cases want <;> first | exact (ha rfl).h | exact (hb rfl).h
theorem rk_cl {w : Bool} {f : FuncId} {xs : List O2} {R : AV → AH → Prop} (hc : FnE L f (evs xs T) (hIn w H) R) (h : ∀ v H', R v H' → RK L k s (putS d v T) (hOut w H H') Q) : RK L (.cl w f xs d k) s T H Q := by
  obtain ⟨v, H', hR, n, hn⟩ := hc.h
  obtain ⟨o, hQ, n2, h2⟩ := (h v H' hR).h
  refine ⟨o, hQ, max n n2, fun m hm => ?_⟩
  show orec none (outO (fun v H' => runK' k L (evF L m) (kOf L (evF L m) s .normal) (putS d v T) (hOut w H H'))) (evF L m (.call f (evs xs T) (hIn w H))) = some o
  rw [hn m (by omega)]
  exact h2 m (by omega)
/-! Functions -/
noncomputable def resV (L : Lk) (rs : List ResultVar) (T : Tr AV) (H : AH) : Option AV := match evResults L T H rs with | some vs => (match vs with | [v] => some v | vs => some (.tup vs)) | none => none
def FnQ (L : Lk) (rs : List ResultVar) (R : AV → AH → Prop) : PostC := fun ex T H => (ex = .normal ∨ ex = .ret) ∧ ∃ v, resV L rs T H = some v ∧ R v H
theorem resV_1 (L : Lk) (t : Tmp) : resV L [.tmp t] T H = some (gT T t) := by
  unfold resV evResults gT
  show (match obind (match T.get t with | some v => some v | none => some AV.undef) (fun b => obind (some []) fun bs => some (b :: bs)) with | some vs => (match vs with | [v] => some v | vs => some (AV.tup vs)) | none => none) = _
  cases T.get t <;> rfl
theorem fq_ret {rs : List ResultVar} {R : AV → AH → Prop} {v : AV} (hv : resV L rs T H = some v) (h : R v H) : FnQ L rs R .ret T H := ⟨.inr rfl, v, hv, h⟩
theorem fn_intro {f : FuncId} {args : List AV} {nt : Nat} {c : C2} {rs : List ResultVar} {R : AV → AH → Prop}
    (hf : fnF L f = some ⟨nt, c, rs⟩) (hx : L.ext f = none) (hn : Nat.ble (len args) nt = true) (h : RC L c [] (setArgs args 0 .nil) H (FnQ L rs R)) (hd : L.dfn f = false := by rfl) : FnE L f args H R := by
  obtain ⟨o, ⟨hex, v, hv, hR⟩, n, hm⟩ := h.h
  obtain ⟨ex, T1, H1⟩ := o
  simp only at hex hv hR
  refine ⟨v, H1, hR, n + 1, fun m hmn => ?_⟩
  obtain ⟨m, rfl⟩ : ∃ m', m = m' + 1 := ⟨m - 1, by omega⟩
  have hm := hm m (by omega)
  show callS L (evF L m) f args H = _
  unfold callS extS
  rw [hx]
  show bodyS L (evF L m) f args H = _
  unfold bodyS
  rw [hd]
  show callF L (evF L m) f args H = _
  have hcode : ∃ fn body, L.func f = some fn ∧ fn.body = some body ∧ c = comp L body := by
    unfold fnF at hf
    cases h1 : L.func f with
    | none => rw [h1] at hf; cases hf
    | some fn =>
      rw [h1] at hf
      simp only at hf
      cases h2 : fn.body with
      | none => rw [h2] at hf; cases hf
      | some b => rw [h2] at hf; cases hf; exact ⟨fn, b, rfl, h2, rfl⟩
  obtain ⟨fn, body, _, _, rfl⟩ := hcode
  unfold callF
  rw [hf]
  show brec none (evC L (evF L m) (comp L body) (fun ex T H => exRec (fin2 L rs T H) (fun _ => none) (fin2 L rs T H) (fun _ => none) ex) (setArgs args 0 .nil) H) (Nat.ble (len args) nt) = _
  rw [hn]
  simp only [brec_t]
  have h0 : evC L (evF L m) (comp L body) (fun ex T H => some ⟨ex, T, H⟩) (setArgs args 0 .nil) H = some ⟨ex, T1, H1⟩ := hm
  rw [evC_eq] at h0 ⊢
  cases he : evCode L (evF L m) body (setArgs args 0 .nil) H with
  | none => rw [he] at h0; cases h0
  | some o =>
    rw [he] at h0
    obtain ⟨ex', T', H'⟩ := o
    simp only [Option.some.injEq, Out.mk.injEq] at h0
    obtain ⟨rfl, rfl, rfl⟩ := h0
    have hfin : fin2 L rs T' H' = some (out1 v H') := by
      unfold fin2
      unfold resV at hv
      cases hr : evResults L T' H' rs with
      | none => rw [hr] at hv; cases hv
      | some vs =>
        rw [hr] at hv
        rcases vs with _ | ⟨a, _ | ⟨b, l⟩⟩ <;> (cases hv; rfl)
    rcases hex with rfl | rfl <;> exact hfin

/-! Loops -/
def LpQ (I : Nat → Tr AV → AH → Prop) (R : PostC) (k : Nat) : PostC := fun ex T H => match ex with | .normal => ∃ k', k' < k ∧ I k' T H | ex => R ex T H
theorem lpq_n {I : Nat → Tr AV → AH → Prop} {R : PostC} {k : Nat} (k' : Nat) (hk : k' < k) (h : I k' T H) : LpQ I R k .normal T H := ⟨k', hk, h⟩
theorem lpq_e {I : Nat → Tr AV → AH → Prop} {R : PostC} {k id : Nat} (h : R (.exit id) T H) : LpQ I R k (.exit id) T H := h
theorem lpq_r {I : Nat → Tr AV → AH → Prop} {R : PostC} {k : Nat} (h : R .ret T H) : LpQ I R k .ret T H := h
theorem lp_ind {body : Code} {c : C2} (hc : comp L body = c) (I : Nat → Tr AV → AH → Prop) (R : PostC) (h : ∀ k T H, I k T H → RC L c [] T H (LpQ I R k)) :
    ∀ k T H, I k T H → LpE L body T H R := by
  intro k
  induction k using Nat.strongRecOn with
  | _ k ih =>
    intro T H hI
    obtain ⟨o, hq, n, hn⟩ := (h k T H hI).h
    obtain ⟨ex, T1, H1⟩ := o
    subst hc
    have step : ∀ m, n ≤ m → evF L (m + 1) (.loop body T H) = exLoop (evF L m) body ex T1 H1 := fun m hm => by
      have h0 : evC L (evF L m) (comp L body) (fun ex T H => some ⟨ex, T, H⟩) T H = some ⟨ex, T1, H1⟩ := hn m hm
      show evC L (evF L m) (comp L body) (exLoop (evF L m) body) T H = _
      rw [evC_eq] at h0 ⊢
      cases he : evCode L (evF L m) body T H with
      | none => rw [he] at h0; cases h0
      | some o =>
        rw [he] at h0
        obtain ⟨ex', T', H'⟩ := o
        simp only [Option.some.injEq, Out.mk.injEq] at h0
        obtain ⟨rfl, rfl, rfl⟩ := h0
        rfl
    cases ex with
    | normal =>
      obtain ⟨k', hk', hI'⟩ := hq
      obtain ⟨o2, hR, n2, h2⟩ := (ih k' hk' T1 H1 hI').h
      refine ⟨o2, hR, max n n2 + 1, fun m hm => ?_⟩
      obtain ⟨m, rfl⟩ : ∃ m', m = m' + 1 := ⟨m - 1, by omega⟩
      show evF L (m + 1) (.loop body T H) = _
      rw [step m (by omega)]
      exact h2 m (by omega)
    | _ =>
      refine ⟨_, hq, n + 1, fun m hm => ?_⟩
      obtain ⟨m, rfl⟩ : ∃ m', m = m' + 1 := ⟨m - 1, by omega⟩
      show evF L (m + 1) (.loop body T H) = _
      rw [step m (by omega)]
      rfl
end
end Go.Ev

namespace Go.Ev
noncomputable def bodyN (L : Lk) (f : FuncId) : Code := match L.func f with | some fn => (match fn.body with | some c => c | none => .skip) | none => .skip
noncomputable def loopsC (c : Code) : List Code :=
  crec (β := List Code) [] (fun _ _ _ => []) (fun _ _ a b => a ++ b) (fun _ _ _ a b => a ++ b) (fun _ _ a => a) (fun body a => body :: a) (fun _ _ x y a b => x :: y :: (a ++ b)) (fun _ => []) (fun _ a => a) (fun _ => []) (fun _ => []) [] (fun _ => []) c
noncomputable def lpN (c : Code) (k : Nat) : Code := match nth (loopsC c) k with | some b => b | none => .skip
end Go.Ev

set_option linter.unusedSimpArgs false
set_option linter.unusedVariables false
namespace Go.Ev

/-! ### Numbers -/
theorem int2_same (g : IntKind → Int → Int → Option AV) (s : AV → AV → Option AV) (k : IntKind) (a b : Int) : int2 g s (.int k a) (.int k b) = g k a b := by
  show brec (s (.int k a) (.int k b)) (g k a b) (kEq k k) = _
  rw [kEq_eq]; simp [brec]
section
variable {s : AV → AV → Option AV} {k : IntKind} {a b : Int}
theorem bin_add : binF .add s (.int k a) (.int k b) = some (.int k (fw k (a + b))) := by rw [← FI.add_eq]; exact int2_same _ _ _ _ _
theorem bin_sub : binF .sub s (.int k a) (.int k b) = some (.int k (fw k (a - b))) := by rw [← FI.sub_eq]; exact int2_same _ _ _ _ _
theorem bin_mul : binF .mul s (.int k a) (.int k b) = some (.int k (fw k (a * b))) := by rw [← FI.mul_eq]; exact int2_same _ _ _ _ _
theorem bin_eql : binF .eql s (.int k a) (.int k b) = some (.bool (decide (a = b))) := by
  refine (int2_same _ _ _ _ _).trans ?_
  show some (AV.bool (FI.beq a b)) = _; rw [FI.beq_eq]; congr 2
theorem bin_neq : binF .neq s (.int k a) (.int k b) = some (.bool (decide (a ≠ b))) := by
  refine (int2_same _ _ _ _ _).trans ?_
  show some (AV.bool (brec true false (FI.beq a b))) = _
  rw [FI.beq_eq, brec_not]; congr 2
  by_cases h : a = b <;> simp [h]
theorem bin_lss : binF .lss s (.int k a) (.int k b) = some (.bool (decide (a < b))) := by
  refine (int2_same _ _ _ _ _).trans ?_
  show some (AV.bool (FI.blt a b)) = _; rw [FI.blt_eq]
theorem bin_leq : binF .leq s (.int k a) (.int k b) = some (.bool (decide (a ≤ b))) := by
  refine (int2_same _ _ _ _ _).trans ?_
  show some (AV.bool (FI.ble a b)) = _; rw [FI.ble_eq]
theorem bin_gtr : binF .gtr s (.int k a) (.int k b) = some (.bool (decide (b < a))) := by
  refine (int2_same _ _ _ _ _).trans ?_
  show some (AV.bool (FI.blt b a)) = _; rw [FI.blt_eq]
theorem bin_geq : binF .geq s (.int k a) (.int k b) = some (.bool (decide (b ≤ a))) := by
  refine (int2_same _ _ _ _ _).trans ?_
  show some (AV.bool (FI.ble b a)) = _; rw [FI.ble_eq]
theorem bin_quo (h : b ≠ 0) : binF .quo s (.int k a) (.int k b) = some (.int k (fw k (a.tdiv b))) := by
  refine (int2_same _ _ _ _ _).trans ?_
  show brec (some (AV.int k (fw k (FI.quo a b)))) none (FI.is0 b) = _
  rw [FI.is0_eq, FI.quo_eq, show (b == 0) = false from by simp [h]]; rfl
theorem bin_rem (h : b ≠ 0) : binF .rem s (.int k a) (.int k b) = some (.int k (a.tmod b)) := by
  refine (int2_same _ _ _ _ _).trans ?_
  show brec (some (AV.int k (FI.rem a b))) none (FI.is0 b) = _
  rw [FI.is0_eq, FI.rem_eq, show (b == 0) = false from by simp [h]]; rfl
end
theorem fw64 {n : Int} (h1 : -9223372036854775808 ≤ n) (h2 : n ≤ 9223372036854775807) : fw .i64 n = n := by
  show wrapS 9223372036854775808 .i64 n = n
  cases n with
  | ofNat m =>
    show brec _ (Int.ofNat m) (Nat.blt m 9223372036854775808) = _
    rw [show Nat.blt m 9223372036854775808 = true from by rw [Nat.blt_eq]; simp only [Int.ofNat_eq_natCast] at h2; omega]
    rfl
  | negSucc m =>
    show brec _ (Int.negSucc m) (Nat.blt m 9223372036854775808) = _
    rw [show Nat.blt m 9223372036854775808 = true from by rw [Nat.blt_eq]; rw [Int.negSucc_eq] at h1; omega]
    rfl
theorem notF_b (b : Bool) : notF (.bool b) = some (.bool (!b)) := by cases b <;> rfl
theorem pickF_t (a b : AV) : pickF [.bool true, a, b] = some a := rfl
theorem pickF_f (a b : AV) : pickF [.bool false, a, b] = some b := rfl
theorem exN0 (a : AV) (l : List AV) : exN 0 (.tup (a :: l)) = some a := rfl
theorem exN1 (a b : AV) (l : List AV) : exN 1 (.tup (a :: b :: l)) = some b := rfl
theorem exN2 (a b c : AV) (l : List AV) : exN 2 (.tup (a :: b :: c :: l)) = some c := rfl
theorem nilF_ptr (i o : Nat) : nilF (.ptr i o) = some (.ptr i o) := rfl
theorem fa_ptr (off i o : Nat) : fa off (.ptr i o) = some (.ptr i (o + off)) := rfl
theorem min2 (t : List TypeId) (L : Lk) (k k' : IntKind) (a b : Int) (H : AH) : fstO (builtinF .min L t [.int k a, .int k' b] H) = some (.int k (if b < a then b else a)) := rfl
theorem max2 (t : List TypeId) (L : Lk) (k k' : IntKind) (a b : Int) (H : AH) : fstO (builtinF .max L t [.int k a, .int k' b] H) = some (.int k (if a < b then b else a)) := rfl
theorem hIn_f (H : AH) : hIn false H = H := rfl
theorem hOut_f (H H' : AH) : hOut false H H' = H' := rfl

/-! ### Slices -/
/-- The address of an element of size z. -/
noncomputable def elA (z : Nat) : AV → Nat → AV
  | .sl i o _ _ _, k => .ptr i (o + k * z)
  | _, _ => .undef
/-- A slice value of n elements, in a block that is there. -/
def IsSl (H : AH) (v : AV) (n : Nat) : Prop := (v = .nilSl ∧ n = 0) ∨ ∃ i o c op, v = .sl i o n c op ∧ (i < H.next ∧ ∃ cc e z op' ro, H.get i = some (.cells cc e z op' ro) ∧ o ≤ cc.l.length)
theorem ix_el {H : AH} {v : AV} {n : Nat} (h : IsSl H v n) {k : IntKind} {e : Int} {z : Nat} (h0 : 0 ≤ e) (h1 : e < n) : ixS z v (.int k e) = some (elA z v e.toNat) := by
  rcases h with ⟨rfl, rfl⟩ | ⟨i, o, c, op, rfl, _⟩
  · exact absurd h1 (by omega)
  · obtain ⟨m, rfl⟩ := Int.eq_ofNat_of_zero_le h0
    show brec none (some (AV.ptr i (o + m * z))) (Nat.blt m n) = _
    rw [show Nat.blt m n = true from by rw [Nat.blt_eq]; omega]
    simp only [Int.toNat_natCast]; rfl
theorem len_el {L : Lk} {t e : TypeId} (ht : L.under t = some (.slice e)) {H H' : AH} {v : AV} {n : Nat} (h : IsSl H v n) : fstO (builtinF .len L [t] [v] H') = some (.int .i64 n) := by
  show fstO (match evLen L t v H' with | some v => some (v, H') | none => none) = _
  unfold evLen
  rw [ht]
  rcases h with ⟨rfl, rfl⟩ | ⟨i, o, c, op, rfl, _⟩ <;> rfl
theorem IsSl.lenOf {H : AH} {v : AV} {n : Nat} (h : IsSl H v n) : lenOf v = some n := by
  rcases h with ⟨rfl, rfl⟩ | ⟨i, o, c, op, rfl, _⟩ <;> rfl

/-! ### Heaps that grow -/
structure HX (H H' : AH) : Prop where
  next : H.next ≤ H'.next
  lo : H'.lo = H.lo
  hide : H'.hide = H.hide
  fz : H'.fz = H.fz
  old : ∀ i, i < H.next → H'.tree.get i = H.tree.get i
theorem HX.refl (H : AH) : HX H H := ⟨Nat.le_refl _, rfl, rfl, rfl, fun _ _ => rfl⟩
theorem HX.trans {H H1 H2 : AH} (h : HX H H1) (h' : HX H1 H2) : HX H H2 :=
  ⟨Nat.le_trans h.next h'.next, h'.lo.trans h.lo, h'.hide.trans h.hide, h'.fz.trans h.fz, fun i hi => (h'.old i (Nat.lt_of_lt_of_le hi h.next)).trans (h.old i hi)⟩
theorem HX.new (H : AH) (b : ABlk) : HX H (H.new b) :=
  ⟨Nat.le_succ _, rfl, rfl, rfl, fun i hi => by show (H.tree.set H.next b).get i = _; rw [Tr.get_set, if_neg (by omega)]⟩
theorem HX.vis {H H' : AH} (h : HX H H') (i : Nat) : H'.vis i = H.vis i := by unfold AH.vis; rw [h.hide]
theorem HX.get {H H' : AH} (h : HX H H') {i : Nat} (hi : i < H.next) : H'.get i = H.get i := by unfold AH.get; rw [h.vis, h.old i hi]
theorem IsSl.hx {H H' : AH} {v : AV} {n : Nat} (h : IsSl H v n) (hx : HX H H') : IsSl H' v n := by
  rcases h with h | ⟨i, o, c, op, hv, hi, cc, e, z, op', ro, hg, ho⟩
  · exact .inl h
  · exact .inr ⟨i, o, c, op, hv, Nat.lt_of_lt_of_le hi hx.next, cc, e, z, op', ro, (hx.get hi).trans hg, ho⟩
theorem ld1_get {i o : Nat} {H : AH} : ld1 (.ptr i o) H = H.read1 i o := read1F_eq H i o
/-- A slice whose elements read so (one cell each). -/
structure SlR (H : AH) (v : AV) (n : Nat) (g : Nat → AV) : Prop where
  is : IsSl H v n
  el : ∀ k, k < n → ld1 (elA 1 v k) H = some (g k)
theorem SlR.hx {H H' : AH} {v : AV} {n : Nat} {g : Nat → AV} (h : SlR H v n g) (hx : HX H H') : SlR H' v n g := by
  refine ⟨h.is.hx hx, fun k hk => ?_⟩
  have := h.el k hk
  rcases h.is with ⟨rfl, rfl⟩ | ⟨i, o, c, op, rfl, hi, _⟩
  · omega
  · show ld1 (.ptr i (o + k * 1)) H' = _
    have h2 : ld1 (.ptr i (o + k * 1)) H = some (g k) := this
    rw [ld1_get] at h2 ⊢
    unfold AH.read1 AH.row at h2 ⊢
    rw [hx.get hi]; exact h2
end Go.Ev
namespace Go.Ev
theorem rk_mv' {L : Lk} {s : List Kf} {T : Tr AV} {H : AH} {Q : PostC} {k : K2} {d : Option S2} {x : O2} {v : AV} (hv : x.ev T = v) (h : RK L k s (putS d v T) H Q) : RK L (.mv x d k) s T H Q := by subst hv; exact ⟨h.h⟩
end Go.Ev

set_option linter.unusedSimpArgs false
set_option linter.unusedVariables false
namespace Go.Ev
open Go.RowKit

abbrev XFn := List AV → AH → Option (AV × AH)
/-- A summary of one function is sound. -/
def XOk (P : Program) (B : Nat) (f : FuncId) (g : XFn) : Prop :=
  ∀ args H p, g args H = some p → ∀ E w us, H.Wf → St B E H w → StL E H.next args us → CallOk P B E H w f us p.1 p.2

noncomputable def xLook (tab : List (Nat × XFn)) (f : Nat) : Option XFn := lrec (β := Option XFn) none (fun p _ ih => brec ih (some p.2) (Nat.beq p.1 f)) tab
theorem xLook_mem {tab : List (Nat × XFn)} {f : Nat} {g : XFn} (h : xLook tab f = some g) : (f, g) ∈ tab := by
  induction tab with
  | nil => cases h
  | cons p tab ih =>
    have h : brec (xLook tab f) (some p.2) (Nat.beq p.1 f) = some g := h
    cases hb : Nat.beq p.1 f with
    | true =>
      rw [hb] at h
      cases h
      have := Nat.eq_of_beq_eq_true hb
      subst this
      exact List.mem_cons_self
    | false => rw [hb] at h; exact List.mem_cons_of_mem _ (ih h)

/-! ### Noughts that are known beforehand -/
noncomputable def zLook (tab : List (Nat × Nat)) (t : Nat) : Option AV := lrec (β := Option AV) none (fun p _ ih => brec ih (some (.bag p.2 0)) (Nat.beq p.1 t)) tab
theorem zLook_mem {tab : List (Nat × Nat)} {t : Nat} {z : AV} (h : zLook tab t = some z) : ∃ n, (t, n) ∈ tab ∧ z = .bag n 0 := by
  induction tab with
  | nil => cases h
  | cons p tab ih =>
    have h : brec (zLook tab t) (some (.bag p.2 0)) (Nat.beq p.1 t) = some z := h
    cases hb : Nat.beq p.1 t with
    | true =>
      rw [hb] at h
      cases h
      have := Nat.eq_of_beq_eq_true hb
      subst this
      exact ⟨_, List.mem_cons_self, rfl⟩
    | false =>
      rw [hb] at h
      obtain ⟨n, h1, h2⟩ := ih h
      exact ⟨n, List.mem_cons_of_mem _ h1, h2⟩
noncomputable def zFit (v : Value) (n : Nat) : Bool := match ofValue v with | some (.agg l) => (match Ce.pack l with | some m => Nat.beq m 0 && Nat.beq (len l) n | none => false) | _ => false
theorem zFit_ok {v : Value} {n : Nat} (h : zFit v n = true) (E : Env) : conc E (.bag n 0) = v := by
  unfold zFit at h
  split at h
  · next l hl =>
    split at h
    · next m hm =>
      rw [Bool.and_eq_true] at h
      have h1 := Nat.eq_of_beq_eq_true h.1
      have h2 := Nat.eq_of_beq_eq_true h.2
      subst h1
      have : (Ce.of l).l = l := Ce.of_l l
      unfold Ce.of at this
      rw [hm, h2] at this
      have h3 : bytesL n 0 = l := this
      rw [conc_bag, h3, ← ofValue_ok hl]
      rfl
    · cases h
  · cases h
noncomputable def zFits (ts : List TypeInfo) (p : Nat × Nat) : Bool := match ts[p.1]? with | some i => (match i.zero with | some v => zFit v p.2 | none => false) | none => false
noncomputable def lkZ (P : Program) (fs : Tr Func) (ts : Tr TypeInfo) (tab : List (Nat × XFn)) (zl : List (Nat × Nat)) : Lk :=
  { func := fun f => fs.get f, info := fun t => ts.get t, plainEq := fun t => !P.stoodInHeld t && !P.eqGuardType P.depth t, ext := fun f => xLook tab f, zt := fun t => zLook zl t }
theorem lkZ_ok {P : Program} {tab : List (Nat × XFn)} {zl : List (Nat × Nat)} (hm : P.follows .mixedOrders = true) (hf : P.funcs.toList.all fitFn = true) (hz : zl.all (zFits P.types.toList) = true) : LOk (lkZ P (Tr.ofList P.funcs.toList) (Tr.ofList P.types.toList) tab zl) P :=
  let h := lkOf_ok hm hf
  ⟨⟨h.info, h.plainEq, fun t z ht => by
    obtain ⟨n, h1, rfl⟩ := zLook_mem ht
    have h2 := List.all_eq_true.1 hz _ h1
    unfold zFits at h2
    split at h2
    · next i hi =>
      split at h2
      · next v hv => exact ⟨i, v, by show (Tr.ofList P.types.toList).get t = some i; rw [Tr.get_ofList]; exact hi, hv, zFit_ok h2⟩
      · cases h2
    · cases h2⟩, h.func, h.mixed⟩
theorem extOkZ_of {P : Program} {fs : Tr Func} {ts : Tr TypeInfo} {tab : List (Nat × XFn)} {zl : List (Nat × Nat)} {B : Nat} (h : ∀ p ∈ tab, XOk P B p.1 p.2) : ExtOk (lkZ P fs ts tab zl) P B :=
  fun f g hg => h (f, g) (xLook_mem hg)

/-! ### Functions of Go's library without a body -/
structure Bare (P : Program) (f : FuncId) (e : Array Value → Sem Value) : Prop where
  ok : ∃ fn, P.funcs[f]? = some fn ∧ (fn.name == "runtime.NumGoroutine") = false ∧ fn.body.isNone = true ∧ Extern.findNext fn = none ∧ Extern.find fn = some e
theorem Bare.run {P : Program} {f : FuncId} {e : Array Value → Sem Value} (h : Bare P f e) {us : Array Value} {w w1 : World} {u : Value} (he : (e us).run P w = .ok u w1) : (callFunc f us).run P w = .ok (.value u) w1 := by
  obtain ⟨fn, h1, h2, h3, h4, h5⟩ := h.ok
  unfold callFunc
  simp only [Sem.run_bind, program, Sem.run, Result.andThen_ok, h1, h2, h3, h4, h5, Bool.false_eq_true, if_false, if_true]
  rw [show (Go.mark (Mark.extern f)).run P w = .ok () w from rfl]
  simp only [Result.andThen_ok, he]
  rfl

def xIndexByte : XFn := fun args H => match args with
  | [.str s, .int .u8 c] => some (.int .i64 (match (List.range s.size).find? fun i => s[i]! == c.toNat.toUInt8 with | some i => (i : Int) | none => -1), H)
  | _ => none
def xCompare : XFn := fun args H => match args with
  | [.str a, .str b] => some (.int .i64 (Extern.BytealgCompare.cmp a b), H)
  | _ => none
theorem xIndexByte_ok {P : Program} {B : Nat} {f : FuncId} (hf : Bare P f Extern.BytealgIndexByte.indexByte) : XOk P B f xIndexByte := by
  intro args H p hp E w us hw hS hus
  unfold xIndexByte at hp
  split at hp
  · next s c =>
    cases hp
    have hu := hus E (Agree.refl _ _)
    subst hu
    unfold CallOk
    have : (callFunc f (concL E [.str s, .int .u8 c]).toArray).run P w = .ok (.value (.int .i64 (match (List.range s.size).find? fun i => s[i]! == c.toNat.toUInt8 with | some i => (i : Int) | none => -1))) w := by
      refine hf.run ?_
      have hi : Extern.BytealgIndexByte.indexByte #[Value.string s, Value.int .u8 c] = (do
          let b ← Extern.Bytes.bytesOf (.string s)
          let c ← Extern.Bytes.asByte (.int .u8 c)
          match (List.range b.size).find? fun i => b[i]! == c with
          | some i => pure (goInt i)
          | none => pure (goInt (-1))) := rfl
      show (Extern.BytealgIndexByte.indexByte #[Value.string s, Value.int .u8 c]).run P w = _
      rw [hi]
      simp only [Extern.Bytes.bytesOf, Extern.Bytes.asByte, Sem.run_bind, Sem.run_pure, Result.andThen_ok]
      split <;> rfl
    rw [this]
    exact Done.same hw hS (fun _ _ => rfl)
  · cases hp
theorem xCompare_ok {P : Program} {B : Nat} {f : FuncId} (hf : Bare P f Extern.BytealgCompare.compare) : XOk P B f xCompare := by
  intro args H p hp E w us hw hS hus
  unfold xCompare at hp
  split at hp
  · next a b =>
    cases hp
    have hu := hus E (Agree.refl _ _)
    subst hu
    unfold CallOk
    have : (callFunc f (concL E [.str a, .str b]).toArray).run P w = .ok (.value (.int .i64 (Extern.BytealgCompare.cmp a b))) w := by
      refine hf.run ?_
      have hi : Extern.BytealgCompare.compare #[Value.string a, Value.string b] = (do pure (goInt (Extern.BytealgCompare.cmp (← Extern.Bytes.bytesOf (.string a)) (← Extern.Bytes.bytesOf (.string b))))) := rfl
      show (Extern.BytealgCompare.compare #[Value.string a, Value.string b]).run P w = _
      rw [hi]
      simp only [Extern.Bytes.bytesOf, Sem.run_bind, Sem.run_pure, Result.andThen_ok]
      rfl
    rw [this]
    exact Done.same hw hS (fun _ _ => rfl)
  · cases hp
end Go.Ev

set_option linter.unusedSimpArgs false
set_option linter.unusedVariables false
namespace Go.Ev
open Go.RowKit

/-- A function that takes nothing and answers true: nothing that was there is touched, and what is new is let go. -/
def xTrue : XFn := fun args H => match args with | [] => some (.bool true, H) | _ => none

theorem done_true {B : Nat} {E0 E : Env} {H H1 : AH} {w w1 : World} {v : AV} {u : Value} (hS : St B E H w) (hw : H.Wf) (hv : v = .bool true) (hz : H1.fz = false) (h : Done w.heap.size E0 H0 w v H1 u w1) : Done B E H w (.bool true) H u w1 := by
  obtain ⟨E1, h1, _, h3, _⟩ := h
  subst hv
  have hu : u = .bool true := h1.self
  subst hu
  have hfr : ∀ c, c < w.heap.size → w1.heap[c]? = w.heap[c]? := fun c hc => h3.frame c hc fun ⟨j, b, hg, _⟩ => by rw [H0_get] at hg; cases hg
  refine ⟨E, fun _ _ => rfl, fun E' hE => ?_, ⟨Agree.refl _ _, Nat.le_refl _, rfl, rfl, h3.tape, h3.os, h3.output, h3.size, fun c hc _ => hfr c hc, fun c hc => .inl hc, fun _ _ => rfl, h3.loops, fun hf => ⟨hf, (h3.froz hz).2⟩, fun _ h => .inl h⟩, hw⟩
  have r := hS E' hE
  exact ⟨fun i b hg => (r.blk i b hg).congr fun hl => hfr _ ((r.blk i b hg).obj hl), r.inj, r.base, Nat.le_trans r.size h3.size⟩

theorem xTrue_ok {L : Lk} {P : Program} {B : Nat} (hL : LOk L P) (hX : ∀ B, ExtOk L P B) {n : Nat} {f : FuncId} (h : saysTrue (evReq L n (.call f [] H0)) = true) : XOk P B f xTrue := by
  obtain ⟨out, ho, hv, hz⟩ := saysTrue_ok h
  intro args H p hp E w us hw hS hus
  unfold xTrue at hp
  split at hp
  · cases hp
    have hu := hus E (Agree.refl _ _)
    subst hu
    have E0 : Env := fun _ => ⟨0, 0, 0⟩
    have hc := (evReq_ok hL (hX w.heap.size) n).call f [] H0 out ho E0 w [] H0_wf (H0_st E0 w) (fun _ _ => rfl)
    unfold CallOk at hc ⊢
    show match (callFunc f (concL E []).toArray).run P w with | .ok (.value u) w1 => _ | .ok (.enter g vs) w' => _ | _ => _
    have e0 : (concL E []).toArray = ([] : List Value).toArray := rfl
    rw [e0]
    revert hc
    cases (callFunc f ([] : List Value).toArray).run P w with
    | ok nx w1 =>
      cases nx with
      | value u => exact fun hc => done_true hS hw hv hz hc
      | enter g vs => exact fun hc => CallsIn.mono hc fun e w1 ⟨u, he, hd⟩ => ⟨u, he, done_true hS hw hv hz hd⟩
      | _ => exact fun hc => hc
    | _ => exact fun hc => hc
  · cases hp

theorem fnE_ext {L : Lk} {f : FuncId} {g : XFn} {args : List AV} {H H' : AH} {v : AV} (hx : L.ext f = some g) (hg : g args H = some (v, H')) : FnE L f args H fun r H1 => r = v ∧ H1 = H' := by
  refine ⟨v, H', ⟨rfl, rfl⟩, 1, fun m hm => ?_⟩
  obtain ⟨m, rfl⟩ : ∃ m', m = m' + 1 := ⟨m - 1, by omega⟩
  show callS L (evF L m) f args H = _
  unfold callS extS
  rw [hx]
  show orec _ (fun p => some (out1 p.1 p.2)) (g args H) = _
  rw [hg]; rfl
end Go.Ev

set_option linter.unusedSimpArgs false
set_option linter.unusedVariables false
namespace Go.Ev

theorem Ce.sub_ex {c : Ce} {o n : Nat} (h : o + n ≤ c.l.length) : ∃ c', c.sub o n = some c' ∧ c'.l = (c.l.drop o).take n := by
  have key : ∃ c', c.sub o n = some c' := by
    cases c with
    | lst l =>
      have : sliceN l o n = some ((l.drop o).take n) := (sliceN_some l o n _).2 ⟨by have : (Ce.lst l).l.length = l.length := rfl; omega, rfl⟩
      exact ⟨_, by show (match sliceN l o n with | some l' => some (Ce.lst l') | none => none) = _; rw [this]⟩
    | byt m N =>
      refine ⟨_, by show brec none _ (Nat.ble n (m - o)) = _; rw [show Nat.ble n (m - o) = true from by rw [Nat.ble_eq]; have : (Ce.byt m N).l.length = m := bytesL_length m N; omega]; rfl⟩
  obtain ⟨c', hc⟩ := key
  exact ⟨c', hc, ((sliceN_some _ _ _ _).1 (Ce.sub_l hc)).2⟩
theorem Ce.over_ex {x c : Ce} {o : Nat} (h : o + x.l.length ≤ c.l.length) : ∃ c', Ce.over x c o = some c' ∧ c'.l = c.l.take o ++ x.l ++ c.l.drop (o + x.l.length) := by
  have ho : overAt x.l c.l o = some (c.l.take o ++ x.l ++ c.l.drop (o + x.l.length)) := (overAt_some _ _ _ _).2 ⟨h, rfl⟩
  have key : ∃ c', Ce.over x c o = some c' := by
    cases c with
    | lst l => exact ⟨_, by show (match overAt x.l l o with | some l' => some (Ce.lst l') | none => none) = _; rw [show overAt x.l l o = _ from ho]⟩
    | byt m N =>
      cases x with
      | lst xs => exact ⟨_, by show (match overAt xs (bytesL m N) o with | some l' => some (Ce.lst l') | none => none) = _; rw [show overAt xs (bytesL m N) o = _ from ho]⟩
      | byt k X =>
        have h1 : (Ce.byt k X).l.length = k := bytesL_length k X
        have h2 : (Ce.byt m N).l.length = m := bytesL_length m N
        exact ⟨_, by show brec none _ (Nat.ble (o + k) m) = _; rw [show Nat.ble (o + k) m = true from by rw [Nat.ble_eq]; omega]; rfl⟩
  obtain ⟨c', hc⟩ := key
  refine ⟨c', hc, ?_⟩
  have := Ce.over_l hc
  rw [ho] at this
  exact (Option.some.inj this).symm

/-! ### Heaps in which some blocks are kept -/
structure HP (p : Nat → Prop) (H H' : AH) : Prop where
  next : H.next ≤ H'.next
  lo : H'.lo = H.lo
  hide : H'.hide = H.hide
  fz : H'.fz = H.fz
  old : ∀ i, i < H.next → p i → H'.tree.get i = H.tree.get i
theorem HX.hp {H H' : AH} (h : HX H H') (p : Nat → Prop) : HP p H H' := ⟨h.next, h.lo, h.hide, h.fz, fun i hi _ => h.old i hi⟩
theorem HP.hx {p : Nat → Prop} {H H' : AH} (h : HP p H H') (hp : ∀ i, i < H.next → p i) : HX H H' := ⟨h.next, h.lo, h.hide, h.fz, fun i hi => h.old i hi (hp i hi)⟩
theorem HP.refl (p : Nat → Prop) (H : AH) : HP p H H := ⟨Nat.le_refl _, rfl, rfl, rfl, fun _ _ _ => rfl⟩
theorem HP.trans {p q r : Nat → Prop} {H H1 H2 : AH} (h : HP p H H1) (h' : HP q H1 H2) (hr : ∀ i, i < H.next → r i → p i ∧ q i) : HP r H H2 :=
  ⟨Nat.le_trans h.next h'.next, h'.lo.trans h.lo, h'.hide.trans h.hide, h'.fz.trans h.fz, fun i hi hri => (h'.old i (Nat.lt_of_lt_of_le hi h.next) (hr i hi hri).2).trans (h.old i hi (hr i hi hri).1)⟩
theorem HP.mono {p q : Nat → Prop} {H H' : AH} (h : HP p H H') (hq : ∀ i, i < H.next → q i → p i) : HP q H H' := ⟨h.next, h.lo, h.hide, h.fz, fun i hi hqi => h.old i hi (hq i hi hqi)⟩
theorem HP.vis {p : Nat → Prop} {H H' : AH} (h : HP p H H') (i : Nat) : H'.vis i = H.vis i := by unfold AH.vis; rw [h.hide]
theorem HP.get {p : Nat → Prop} {H H' : AH} (h : HP p H H') {i : Nat} (hi : i < H.next) (hp : p i) : H'.get i = H.get i := by unfold AH.get; rw [h.vis, h.old i hi hp]
theorem HP.put (H : AH) (i : Nat) (b : ABlk) : HP (· ≠ i) H (H.put i b) :=
  ⟨Nat.le_refl _, rfl, rfl, rfl, fun j hj hp => by show (H.tree.set i b).get j = _; rw [Tr.get_set, if_neg hp]⟩
theorem HX.put {H H' : AH} (h : HX H H') {i : Nat} (hi : H.next ≤ i) (b : ABlk) : HX H (H'.put i b) :=
  ((h.hp (fun _ => True)).trans (HP.put H' i b) (r := fun _ => True) (fun j hj _ => ⟨trivial, by omega⟩)).hx (fun _ _ => trivial)

/-! ### Rows of cells -/
/-- Block i has the cells l. -/
def Row (H : AH) (i : Nat) (ro op : Bool) (e z : Nat) (l : List AV) : Prop := ∃ c, H.get i = some (.cells c e z op ro) ∧ c.l = l
theorem Row.hp {p : Nat → Prop} {H H' : AH} {i e z : Nat} {ro op : Bool} {l : List AV} (h : Row H i ro op e z l) (hx : HP p H H') (hi : i < H.next) (hp : p i) : Row H' i ro op e z l := by
  obtain ⟨c, h1, h2⟩ := h
  exact ⟨c, (hx.get hi hp).trans h1, h2⟩
theorem Row.hx {H H' : AH} {i e z : Nat} {ro op : Bool} {l : List AV} (h : Row H i ro op e z l) (hx : HX H H') (hi : i < H.next) : Row H' i ro op e z l := h.hp (hx.hp fun _ => True) hi trivial
theorem Row.rd {H : AH} {i e z k : Nat} {ro op : Bool} {l : List AV} {v : AV} (h : Row H i ro op e z l) (hv : l[k]? = some v) : ld1 (.ptr i k) H = some v := by
  obtain ⟨c, h1, rfl⟩ := h
  rw [ld1_get]
  unfold AH.read1 AH.row
  rw [h1]
  simp only [nth_eq]
  exact hv
theorem AH.get_new {H : AH} (hh : H.hide = []) (b : ABlk) : (H.new b).get H.next = some b := by
  unfold AH.get
  have : (H.new b).vis H.next = true := by unfold AH.vis; show H.hide.all _ = true; rw [hh]; rfl
  rw [this]
  show (H.tree.set H.next b).get H.next = _
  rw [Tr.get_set_self]
theorem AH.get_put {H : AH} (hh : H.hide = []) (i : Nat) (b : ABlk) : (H.put i b).get i = some b := by
  unfold AH.get
  have : (H.put i b).vis i = true := by unfold AH.vis; show H.hide.all _ = true; rw [hh]; rfl
  rw [this]
  show (H.tree.set i b).get i = _
  rw [Tr.get_set_self]
theorem Row.new {H : AH} (hh : H.hide = []) (c : Ce) (e z : Nat) (op ro : Bool) : Row (H.new (.cells c e z op ro)) H.next ro op e z c.l := ⟨c, AH.get_new hh _, rfl⟩
theorem cells_one {v : AV} (h : v.oneCell = true) : v.cells = [v] := by cases v <;> first | rfl | cases h
theorem toC_one {v : AV} (h : v.oneCell = true) : v.toC.one = true := by
  cases v <;> first
    | (have := one_single; exact (this _).trans h)
    | cases h
theorem toC_len {v : AV} : v.toC.len = v.cells.length := by rw [Ce.len_l, toC_l]
/-- A store. -/
theorem Row.st {L : Lk} {t s : Nat} {H : AH} {i e z k : Nat} {op : Bool} {l : List AV} {v : AV} (h : Row H i false op e z l) (hh : H.hide = []) (hlo : H.lo ≤ i) (hs : L.size t = some s) (hv : v.cells.length = s) (h1 : v.toC.one = true) (hk : k + s ≤ l.length) :
    ∃ H', evStore L t (.ptr i k) v H = some H' ∧ Row H' i false op e z (l.take k ++ v.cells ++ l.drop (k + s)) ∧ HP (· ≠ i) H H' ∧ H'.next = H.next := by
  obtain ⟨c, h2, rfl⟩ := h
  obtain ⟨c', h3, h4⟩ := Ce.over_ex (x := v.toC) (c := c) (o := k) (by rw [toC_l]; omega)
  refine ⟨H.put i (.cells c' e z op false), ?_, ⟨c', AH.get_put hh _ _, ?_⟩, HP.put _ _ _, rfl⟩
  · unfold evStore
    rw [hs]
    simp only
    rw [show Nat.beq v.toC.len s = true from by rw [toC_len, hv]; exact Nat.beq_refl s]
    simp only
    unfold AH.writeC
    rw [show Nat.ble H.lo i = true from Nat.ble_eq_true_of_le hlo, h2]
    simp only [h1, h3]
  · rw [h4, toC_l, hv]
theorem Row.st1 {L : Lk} {t : Nat} {H : AH} {i e z k : Nat} {op : Bool} {l : List AV} {v : AV} (h : Row H i false op e z l) (hh : H.hide = []) (hlo : H.lo ≤ i) (hs : L.size t = some 1) (hv : v.oneCell = true) (hk : k < l.length) :
    ∃ H', st1 L t (.ptr i k) v H = some H' ∧ Row H' i false op e z (l.set k v) ∧ HP (· ≠ i) H H' ∧ H'.next = H.next := by
  obtain ⟨H', h1, h2, h3, h4⟩ := h.st (k := k) hh hlo hs (by rw [cells_one hv]; rfl) (toC_one hv) (by omega)
  refine ⟨H', (st1_eq hs _ _ _).trans h1, ?_, h3, h4⟩
  rw [cells_one hv] at h2
  rw [List.set_eq_take_append_cons_drop, if_pos hk]
  simpa using h2
theorem Row.stN {L : Lk} {t s : Nat} {H : AH} {i e z k : Nat} {op : Bool} {l : List AV} {v : AV} (h : Row H i false op e z l) (hh : H.hide = []) (hlo : H.lo ≤ i) (hv : v.cells.length = s) (h1 : v.toC.one = true) (hk : k + s ≤ l.length) :
    ∃ H', stN s (.ptr i k) v H = some H' ∧ Row H' i false op e z (l.take k ++ v.cells ++ l.drop (k + s)) ∧ HP (· ≠ i) H H' ∧ H'.next = H.next := by
  obtain ⟨c, h2, rfl⟩ := h
  obtain ⟨c', h3, h4⟩ := Ce.over_ex (x := v.toC) (c := c) (o := k) (by rw [toC_l]; omega)
  refine ⟨H.put i (.cells c' e z op false), ?_, ⟨c', AH.get_put hh _ _, ?_⟩, HP.put _ _ _, rfl⟩
  · show brec none (writeCF H i k v.toC) (Nat.beq v.toC.len s) = _
    rw [show Nat.beq v.toC.len s = true from by rw [toC_len, hv]; exact Nat.beq_refl s]
    show writeCF H i k v.toC = _
    rw [writeCF_eq]
    unfold AH.writeC
    rw [show Nat.ble H.lo i = true from Nat.ble_eq_true_of_le hlo, h2]
    simp only [h1, h3]
  · rw [h4, toC_l, hv]
/-- A row read as a slice of one-cell elements. -/
theorem Row.slR {H : AH} {i e z o n c : Nat} {ro op op' : Bool} {l : List AV} {g : Nat → AV} (h : Row H i ro op e z l) (hi : i < H.next) (ho : o ≤ l.length) (hg : ∀ k, k < n → l[o + k]? = some (g k)) : SlR H (.sl i o n c op') n g := by
  refine ⟨.inr ⟨i, o, c, op', rfl, hi, by obtain ⟨cc, h1, rfl⟩ := h; exact ⟨cc, e, z, op, ro, h1, ho⟩⟩, fun k hk => ?_⟩
  show ld1 (.ptr i (o + k * 1)) H = _
  rw [Nat.mul_one]
  exact h.rd (hg k hk)

theorem src_sl {z : Nat} {H : AH} {i o n m c : Nat} {op : Bool} {ro op' : Bool} {e z' : Nat} {l : List AV} (h : Row H i ro op' e z' l) (hk : o + n * z ≤ l.length) : ∃ new, srcCells z (.sl i o m c op) n H = some new ∧ new.l = (l.drop o).take (n * z) := by
  obtain ⟨cc, h2, rfl⟩ := h
  obtain ⟨c', h3, h4⟩ := Ce.sub_ex (c := cc) (o := o) (n := n * z) hk
  refine ⟨c', ?_, h4⟩
  show AH.subC H i o (n * z) = _
  unfold AH.subC
  rw [h2]
  exact h3
end Go.Ev
namespace Go.Ev
/-- A slice's elements, read at once. -/
theorem SlR.src {H : AH} {v : AV} {n : Nat} {g : Nat → AV} (h : SlR H v n g) : ∃ new, srcCells 1 v n H = some new ∧ new.l = (List.range n).map g := by
  rcases h.is with ⟨rfl, rfl⟩ | ⟨i, o, c, op, rfl, hi⟩
  · exact ⟨.lst [], rfl, rfl⟩
  · obtain ⟨hi, cc, e, z, op', ro, hg, ho⟩ := hi
    have hel : ∀ k, k < n → cc.l[o + k]? = some (g k) := fun k hk => by
      have h2 : ld1 (.ptr i (o + k * 1)) H = some (g k) := h.el k hk
      rw [ld1_get, Nat.mul_one] at h2
      unfold AH.read1 AH.row at h2
      rw [hg] at h2
      simpa only [nth_eq] using h2
    have hlen : o + n ≤ cc.l.length := by
      by_cases h0 : n = 0
      · omega
      · have := hel (n - 1) (by omega)
        have := (List.getElem?_eq_some_iff.1 this).1
        omega
    obtain ⟨new, h1, h2⟩ := src_sl (z := 1) (m := n) (c := c) (op := op) (ro := ro) (op' := op') (e := e) (z' := z) ⟨cc, hg, rfl⟩ (o := o) (n := n) (by omega)
    refine ⟨new, h1, ?_⟩
    rw [h2, Nat.mul_one]
    refine List.ext_getElem? fun k => ?_
    by_cases hk : k < n
    · rw [List.getElem?_take_of_lt hk, List.getElem?_drop, hel k hk]; simp [hk]
    · rw [List.getElem?_eq_none (by simp; omega), List.getElem?_eq_none (by simp; omega)]
end Go.Ev
namespace Go.Ev
theorem elA_sl (z i o n c k : Nat) (op : Bool) : elA z (.sl i o n c op) k = .ptr i (o + k * z) := rfl
theorem Row.isSl {H : AH} {i e z o n c : Nat} {ro op op' : Bool} {l : List AV} (h : Row H i ro op e z l) (hi : i < H.next) (ho : o ≤ l.length) : IsSl H (.sl i o n c op') n := by
  obtain ⟨cc, h1, rfl⟩ := h
  exact .inr ⟨i, o, c, op', rfl, hi, cc, e, z, op, ro, h1, ho⟩
end Go.Ev
namespace Go.Ev
end Go.Ev

set_option linter.unusedSimpArgs false
set_option linter.unusedVariables false
namespace Go.Ev
def blkNe (s : AV) (j : Nat) : Prop := ∀ o n c op, s ≠ .sl j o n c op
theorem blkNe_sl {i o n c : Nat} {op : Bool} {j : Nat} (h : j ≠ i) : blkNe (.sl i o n c op) j := fun _ _ _ _ h' => by cases h'; exact h rfl
/-- A slice that was appended to, from nil on: it owns its cells. -/
def Ap (H : AH) (s : AV) (n : Nat) (l : List AV) (e z N : Nat) : Prop := l.length = n * z ∧ ((s = .nilSl ∧ n = 0) ∨ ∃ i, s = .sl i 0 n n true ∧ Row H i false true e z l ∧ N ≤ i ∧ i < H.next)
theorem Ap.nil (H : AH) (e z N : Nat) : Ap H .nilSl 0 [] e z N := ⟨by simp, .inl ⟨rfl, rfl⟩⟩
theorem Ap.hp {H H' : AH} {s : AV} {n e z N : Nat} {l : List AV} (h : Ap H s n l e z N) {p : Nat → Prop} (hp : HP p H H') (hb : ∀ i, s = .sl i 0 n n true → p i) : Ap H' s n l e z N := by
  obtain ⟨h0, h | ⟨i, hs, hr, hN, hi⟩⟩ := h
  · exact ⟨h0, .inl h⟩
  · exact ⟨h0, .inr ⟨i, hs, hr.hp hp hi (hb i hs), hN, Nat.lt_of_lt_of_le hi hp.next⟩⟩
theorem Ap.hx {H H' : AH} {s : AV} {n e z N : Nat} {l : List AV} (h : Ap H s n l e z N) (hx : HX H H') : Ap H' s n l e z N := h.hp (hx.hp fun _ => True) fun _ _ => trivial
theorem Ap.slR {H : AH} {s : AV} {n e N : Nat} {l : List AV} {g : Nat → AV} (h : Ap H s n l e 1 N) (hg : ∀ k, k < n → l[k]? = some (g k)) : SlR H s n g := by
  obtain ⟨h0, ⟨rfl, rfl⟩ | ⟨i, rfl, hr, hN, hi⟩⟩ := h
  · exact ⟨.inl ⟨rfl, rfl⟩, fun k hk => by omega⟩
  · exact hr.slR hi (Nat.zero_le _) fun k hk => by rw [Nat.zero_add]; exact hg k hk
theorem Ap.isSl {H : AH} {s : AV} {n e z N : Nat} {l : List AV} (h : Ap H s n l e z N) : IsSl H s n := by
  obtain ⟨h0, ⟨rfl, rfl⟩ | ⟨i, rfl, hr, hN, hi⟩⟩ := h
  · exact .inl ⟨rfl, rfl⟩
  · exact hr.isSl hi (Nat.zero_le _)

/-- append to a slice that is the call's own. -/
theorem Ap.app {e z b : Nat} {H : AH} {s x : AV} {n m N : Nat} {l : List AV} {new : Ce} (h : Ap H s n l e z N) (hx : lenOf x = some m) (hsrc : srcCells z x m H = some new) (h1 : new.one = true) (hnl : new.l.length = m * z) (hm0 : 1 ≤ m)
    (hb : (n + m) * b ≤ 140737488355328) (hm : n + m ≤ 9223372036854775807) (hh : H.hide = []) (hlo : H.lo ≤ N) (hN : N ≤ H.next) :
    ∃ s' H', appX e z b [s, x] H = some (s', H') ∧ Ap H' s' (n + m) (l ++ new.l) e z N ∧ HP (blkNe s) H H' ∧ H'.next = H.next + 1 ∧ (∀ j, j < H.next → blkNe s' j) := by
  have start : ∀ s : AV, appX e z b [s, x] H = appS e z b m new s H := fun s => by
    show orec none (fun n => orec none (fun new => brec none (appS e z b n new s H) new.one) (srcF z x n H)) (lenOf x) = _
    rw [hx]
    show orec none (fun new => brec none (appS e z b m new s H) new.one) (srcF z x m H) = _
    rw [srcF_eq, hsrc]
    show brec none (appS e z b m new s H) new.one = _
    rw [h1]; rfl
  obtain ⟨h0, ⟨rfl, rfl⟩ | ⟨i, rfl, ⟨cc, h2, rfl⟩, hNi, hi⟩⟩ := h
  · have hl0 : l = [] := List.eq_nil_of_length_eq_zero (by omega)
    subst hl0
    refine ⟨.sl H.next 0 m m true, H.new (.cells new e z true false), ?_, ⟨by simpa using hnl, .inr ⟨H.next, by simp, ?_, hN, Nat.lt_succ_self _⟩⟩, (HX.new _ _).hp _, rfl, fun j hj => blkNe_sl (by omega)⟩
    · rw [start]
      show brec (match Nat.ble (Nat.mul m b) 140737488355328 && Nat.ble m 9223372036854775807 with
        | false => none
        | true => slNew m (.cells new e z true false) H) (some (.nilSl, H)) (Nat.beq m 0) = _
      rw [show Nat.beq m 0 = false from by cases m with | zero => omega | succ m => rfl]
      rw [show Nat.ble (Nat.mul m b) 140737488355328 = true from Nat.ble_eq_true_of_le (by rw [Nat.zero_add] at hb; exact hb), show Nat.ble m 9223372036854775807 = true from Nat.ble_eq_true_of_le (by omega)]
      exact slNew_eq _ _ _
    · have := Row.new hh new e z true false
      simpa using this
  · have hsub : ∃ old, H.subC i 0 (n * z) = some old ∧ old.l = cc.l := by
      obtain ⟨old, h3, h4⟩ := Ce.sub_ex (c := cc) (o := 0) (n := n * z) (by omega)
      refine ⟨old, by unfold AH.subC; rw [h2]; exact h3, ?_⟩
      rw [h4, List.drop_zero, List.take_of_length_le (by omega)]
    obtain ⟨old, h3, h4⟩ := hsub
    refine ⟨.sl H.next 0 (n + m) (n + m) true, (H.put i .defd).new (.cells (Ce.app old new) e z true false), ?_, ⟨by rw [List.length_append, h0, hnl, Nat.add_mul], .inr ⟨H.next, rfl, ?_, hN, Nat.lt_succ_self _⟩⟩, ?_, rfl, fun j hj => blkNe_sl (by omega)⟩
    · rw [start]
      show brec (appG e z b i 0 n n true m new H) _ (Nat.ble (n + m) n) = _
      rw [show Nat.ble (n + m) n = false from by cases h : Nat.ble (n + m) n with | false => rfl | true => have := Nat.le_of_ble_eq_true h; omega]
      show (match Nat.ble (Nat.mul (Nat.add n m) b) 140737488355328 && Nat.ble (Nat.add n m) 9223372036854775807 with
        | false => none
        | true => orec none (fun old => brec (slNew (Nat.add n m) (.cells (Ce.app old new) e z true false) H) (appO e z i 0 n n m old new H) true) (subCF H i 0 (Nat.mul n z))) = _
      rw [show Nat.ble (Nat.mul (Nat.add n m) b) 140737488355328 = true from Nat.ble_eq_true_of_le hb, show Nat.ble (Nat.add n m) 9223372036854775807 = true from Nat.ble_eq_true_of_le hm, subCF_eq]
      rw [show H.subC i 0 (Nat.mul n z) = some old from h3]
      show appO e z i 0 n n m old new H = _
      unfold appO
      rw [show Nat.ble H.lo i = true from Nat.ble_eq_true_of_le (by omega), hGet_eq, h2]
      show appD e z i 0 n n m old new H cc e z true false = _
      unfold appD
      rw [show (Nat.beq e e && Nat.beq z z && true && !false && Nat.beq cc.len (Nat.add 0 (Nat.mul n z))) = true from by
        rw [show Nat.beq e e = true from Nat.beq_refl e, show Nat.beq z z = true from Nat.beq_refl z, Ce.len_l, h0, show Nat.add 0 (Nat.mul n z) = n * z from Nat.zero_add _]
        simp]
      simp only [slNew_eq, hPut_eq]
      rfl
    · have := Row.new (H := H.put i .defd) hh (Ce.app old new) e z true false
      rw [Ce.app_l, h4] at this
      exact this
    · refine (HP.put H i .defd).trans ((HX.new (H.put i .defd) (.cells (Ce.app old new) e z true false)).hp fun _ => True) fun j hj hb => ⟨fun h => ?_, trivial⟩
      subst h
      exact hb _ _ _ _ rfl
end Go.Ev
namespace Go.Ev
/-- A fact that is laid by. -/
structure Hd (p : Prop) : Prop where
  out : p
end Go.Ev
namespace Go.Ev
theorem rk_gd_u {L : Lk} {s : List Kf} {T : Tr AV} {H : AH} {Q : PostC} {d : Option S2} {sl : Nat} {want : Bool} {a b : K2} (hx : gT T sl = .undef) (hb : RK L b s (putS d .undef T) H Q) : RK L (.gd (sOf sl) want d a b) s T H Q := by
  refine ⟨?_⟩
  show Comes Q (fun rec => brec (runK' b L rec (kOf L rec s .normal) (putS d .undef T) H) (runK' a L rec (kOf L rec s .normal) T H) (guardB want ((sOf sl).get T))) L
  rw [sOf_get]
  have : guardB want (T.get sl) = false := by
    unfold gT at hx
    cases hg : T.get sl with
    | none => rfl
    | some v =>
      rw [hg] at hx
      have : v = .undef := hx
      subst this; rfl
  rw [this]
  exact hb.h
end Go.Ev
namespace Go.Ev
theorem firstN0 (l : List AV) : firstN 0 l = [] := rfl
theorem restN0 (l : List AV) : restN 0 l = l := rfl
end Go.Ev
namespace Go.Ev
theorem evl : type_of% (And.intro @ev_tO (And.intro @ev_con (And.intro @gT_put (And.intro @gT_put0 (And.intro @gT_set (And.intro @gT_nil (And.intro @sa_cons (And.intro @sa_nil (And.intro @evs_cons (And.intro @evs_nil (And.intro @hd_cons (And.intro @tl_cons (And.intro @hIn_f (And.intro @hOut_f (And.intro @Nat.zero_ne_one (And.intro @Nat.one_ne_zero (And.intro @bin_add (And.intro @bin_sub (And.intro @bin_mul (And.intro @bin_rem (And.intro @bin_quo (And.intro @bin_eql (And.intro @bin_neq (And.intro @bin_lss (And.intro @bin_leq (And.intro @bin_gtr (And.intro @bin_geq (And.intro @fw64 (And.intro @notF_b (And.intro @pickF_t (And.intro @pickF_f (And.intro @exN0 (And.intro @exN1 (And.intro @exN2 (And.intro @nilF_ptr (And.intro @fa_ptr (And.intro @min2 (And.intro @max2 (And.intro @Int.toNat_natCast (And.intro @Nat.zero_add (And.intro @Nat.mul_one (And.intro @Nat.add_zero (And.intro @elA_sl (And.intro @decide_eq_true (And.intro @decide_eq_false (And.intro @Bool.not_true (And.intro @Bool.not_false (And.intro @firstN0 (@restN0))))))))))))))))))))))))))))))))))))))))))))))))) := And.intro @ev_tO (And.intro @ev_con (And.intro @gT_put (And.intro @gT_put0 (And.intro @gT_set (And.intro @gT_nil (And.intro @sa_cons (And.intro @sa_nil (And.intro @evs_cons (And.intro @evs_nil (And.intro @hd_cons (And.intro @tl_cons (And.intro @hIn_f (And.intro @hOut_f (And.intro @Nat.zero_ne_one (And.intro @Nat.one_ne_zero (And.intro @bin_add (And.intro @bin_sub (And.intro @bin_mul (And.intro @bin_rem (And.intro @bin_quo (And.intro @bin_eql (And.intro @bin_neq (And.intro @bin_lss (And.intro @bin_leq (And.intro @bin_gtr (And.intro @bin_geq (And.intro @fw64 (And.intro @notF_b (And.intro @pickF_t (And.intro @pickF_f (And.intro @exN0 (And.intro @exN1 (And.intro @exN2 (And.intro @nilF_ptr (And.intro @fa_ptr (And.intro @min2 (And.intro @max2 (And.intro @Int.toNat_natCast (And.intro @Nat.zero_add (And.intro @Nat.mul_one (And.intro @Nat.add_zero (And.intro @elA_sl (And.intro @decide_eq_true (And.intro @decide_eq_false (And.intro @Bool.not_true (And.intro @Bool.not_false (And.intro @firstN0 (@restN0))))))))))))))))))))))))))))))))))))))))))))))))
theorem bvl : type_of% (And.intro @AV.bool.injEq (And.intro @AV.int.injEq (And.intro @decide_eq_true_eq (And.intro @decide_eq_false_iff_not (And.intro @Bool.not_eq_true' (And.intro @Bool.not_eq_false' (@Decidable.not_not))))))) := And.intro @AV.bool.injEq (And.intro @AV.int.injEq (And.intro @decide_eq_true_eq (And.intro @decide_eq_false_iff_not (And.intro @Bool.not_eq_true' (And.intro @Bool.not_eq_false' (@Decidable.not_not))))))
end Go.Ev

set_option linter.unusedSimpArgs false
set_option linter.unusedVariables false
namespace Go.Ev
open Go.RowKit

/-! ### A law's arguments -/
noncomputable def hA (bs : List ABlk) : AH := { tree := Tr.ofList bs, next := bs.length, lo := 0, hide := [] }
theorem hA_get (bs : List ABlk) (i : Nat) : (hA bs).get i = bs[i]? := by
  unfold AH.get
  have : (hA bs).vis i = true := rfl
  rw [this]
  exact Tr.get_ofList bs i
theorem hA_wf (bs : List ABlk) : (hA bs).Wf := ⟨fun i b h => by
    have : bs[i]? = some b := by rw [← Tr.get_ofList]; exact h
    exact (List.getElem?_eq_some_iff.1 this).1, Nat.zero_le _, fun r hr => by cases hr⟩

theorem law_call {L : Lk} {P : Program} (hL : LOk L P) (hX : ∀ B, ExtOk L P B) {f : FuncId} {fn : Func} {c : Code} (hf : L.func f = some fn) (hb : fn.body = some c) {w : World} (bs : List (ABlk × EB)) {args : List AV} {us : List Value}
    (h : FnE L f args (hA (bs.map Prod.fst)) fun v H' => v = .bool true ∧ H'.fz = false) (hown : ∀ b ∈ bs, b.1.own = false) (hbr : ∀ k b, bs[k]? = some b → ∀ E : Env, E k = b.2 → BRel E k b.1 w)
    (hargs : ∀ E : Env, (∀ k b, bs[k]? = some b → E k = b.2) → concL E args = us) :
    Calls P f us.toArray w fun e w' => e = .returned (.bool true) ∧ Below w.heap.size w w' := by
  obtain ⟨v, H', ⟨rfl, hz⟩, n, hn⟩ := h.h
  have ho := hn n (Nat.le_refl _)
  rw [evF_eq] at ho
  obtain ⟨E, hE⟩ : ∃ E : Env, ∀ k b, bs[k]? = some b → E k = b.2 := ⟨fun k => match bs[k]? with | some b => b.2 | none => ⟨0, 0, 0⟩, fun k b hk => by simp only [hk]⟩
  have hown' : ∀ i b, (hA (bs.map Prod.fst)).get i = some b → b.own = false := fun i b hg => by
    rw [hA_get, List.getElem?_map] at hg
    cases hbi : bs[i]? with
    | none => rw [hbi] at hg; cases hg
    | some p => rw [hbi] at hg; cases hg; exact hown p (List.mem_of_getElem? hbi)
  have hagree : ∀ E', Agree (hA (bs.map Prod.fst)).next E E' → ∀ k b, bs[k]? = some b → E' k = b.2 := fun E' hA' k b hk => by
    rw [hA' k (by show k < (bs.map Prod.fst).length; rw [List.length_map]; exact (List.getElem?_eq_some_iff.1 hk).1)]
    exact hE k b hk
  have hS : St w.heap.size E (hA (bs.map Prod.fst)) w := fun E' hA' => by
    refine ⟨fun i b hg => ?_, fun i j b c hg _ _ ho => (by rw [hown' i b hg] at ho; cases ho), fun i b hg ho => (by rw [hown' i b hg] at ho; cases ho), Nat.le_refl _⟩
    rw [hA_get, List.getElem?_map] at hg
    cases hbi : bs[i]? with
    | none => rw [hbi] at hg; cases hg
    | some p => rw [hbi] at hg; cases hg; exact hbr i p hbi E' (hagree E' hA' i p hbi)
  have hc := (evReq_ok hL (hX w.heap.size) n).call f args _ _ ho E w us (hA_wf _) hS (fun E' hA' => (hargs E' (hagree E' hA')).symm)
  unfold CallOk at hc
  rw [run_callFunc hL hf hb] at hc
  refine (CallsIn.calls hc fun k => room_open open_wide k).mono fun e w1 ⟨u, he, E1, h1, _, h3, _⟩ => ?_
  subst he
  have hov : outVal (out1 (.bool true) H') = .bool true := rfl
  rw [hov] at h1
  refine ⟨by rw [h1.self]; rfl, ⟨h3.os, h3.tape, h3.output, h3.size, fun i hi => ?_⟩⟩
  exact h3.frame i hi fun ⟨j, b, hg, ho, _⟩ => by rw [hown' j b hg] at ho; cases ho

/-- A slice that came in: its block, and where that lies. -/
theorem arg_sl (k : Nat) {w : World} {x : Addr} {len cap e z : Nat} {l : List AV} (hsp : x.spot = none) (hblk : ∃ cs e fz, w.heap[x.block]? = some (.cells cs e fz)) (hcell : ∀ (E : Env) j v, l[j]? = some v → w.cell? ⟨x.block, x.off + j, none⟩ = some (conc E v)) :
    (∀ E : Env, E k = ⟨x.block, x.off, 0⟩ → conc E (.sl k 0 len cap false) = .slice (some x) len cap) ∧ (∀ E : Env, E k = ⟨x.block, x.off, 0⟩ → BRel E k (.cells (.lst l) e z false true) w) := by
  obtain ⟨xb, xo, xs⟩ := x
  simp only at hsp
  subst hsp
  refine ⟨fun E hE => ?_, fun E hE => ?_⟩
  · show Value.slice (some ⟨(E k).blk, (E k).off + 0, none⟩) len (cap + 0) = _
    rw [hE]; rfl
  · obtain ⟨cs, e', fz, hb⟩ := hblk
    refine ⟨cs, e', fz, by rw [hE]; exact hb, fun j v hj => ?_, fun h => by cases h⟩
    have := hcell E j v hj
    rw [hE]
    unfold World.cell? at this
    simp only [hb, Option.isSome_none, Bool.false_eq_true, if_false] at this
    exact this
end Go.Ev
namespace Go.Ev
open Go.RowKit
theorem add_none {x : Addr} (h : x.spot = none) (i : Nat) : x.add i = ⟨x.block, x.off + i, none⟩ := by
  obtain ⟨b, o, s⟩ := x
  simp only at h
  subst h
  unfold Addr.add
  split
  · next h => subst h; rfl
  · rfl
theorem has_block {P : Program} {w : World} {base : Nat} {t e : TypeId} {x : Addr} {len cap : Nat} (ht : P.underlying t = some (.slice e)) (h : Value.okWide P w .any base t (.slice (some x) len cap)) :
    x.spot = none ∧ ∃ cs e fz, w.heap[x.block]? = some (.cells cs e fz) := by
  unfold Value.okWide at h
  rw [ht] at h
  simp only at h
  unfold Cell.okWide at h
  rw [ht] at h
  simp only at h
  unfold Cell.ok at h
  rw [ht] at h
  simp only at h
  obtain ⟨_, _, _, hs, row, cells, hsh, _⟩ := h
  refine ⟨hs, ?_⟩
  unfold World.shape? at hsh
  split at hsh
  · next c el fz hx => exact ⟨_, _, _, hx⟩
  · cases hsh
/-- What is known of an argument that is a slice, the k-th: its block, its value; what it reads as. -/
structure Arg (w : World) (k : Nat) (u : Value) (R : AH → AV → Prop) (b : ABlk × EB) (v : AV) : Prop where
  own : b.1.own = false
  br : ∀ E : Env, E k = b.2 → BRel E k b.1 w
  val : ∀ E : Env, E k = b.2 → conc E v = u
  rd : ∀ bs : List ABlk, bs[k]? = some b.1 → R (hA bs) v
theorem arg_nil (w : World) (k : Nat) {R : AH → AV → Prop} (h : ∀ H, R H .nilSl) : Arg w k (.slice none 0 0) R (.defd, ⟨0, 0, 0⟩) .nilSl :=
  ⟨rfl, fun _ _ => trivial, fun _ _ => rfl, fun _ _ => h _⟩
theorem arg_row (k : Nat) {w : World} {x : Addr} {len cap e z : Nat} {l : List AV} {R : AH → AV → Prop} (hsp : x.spot = none) (hblk : ∃ cs e fz, w.heap[x.block]? = some (.cells cs e fz)) (hcell : ∀ (E : Env) j v, l[j]? = some v → w.cell? ⟨x.block, x.off + j, none⟩ = some (conc E v))
    (hR : ∀ H, k < H.next → Row H k true false e z l → R H (.sl k 0 len cap false)) : Arg w k (.slice (some x) len cap) R (.cells (.lst l) e z false true, ⟨x.block, x.off, 0⟩) (.sl k 0 len cap false) := by
  obtain ⟨h1, h2⟩ := arg_sl k (len := len) (cap := cap) (e := e) (z := z) (l := l) hsp hblk hcell
  exact ⟨rfl, h2, h1, fun bs hb => hR _ (List.getElem?_eq_some_iff.1 hb).1 ⟨.lst l, by rw [hA_get]; exact hb, rfl⟩⟩
end Go.Ev

set_option linter.unusedSimpArgs false
set_option linter.unusedVariables false
namespace Go.Ev
noncomputable def elB (z : Nat) : AV → Nat → Nat → AV
  | .sl i o _ _ _, k, j => .ptr i (o + k * z + j)
  | _, _, _ => .undef
structure SlZ (H : AH) (v : AV) (n z : Nat) (cs : List AV) : Prop where
  len : cs.length = n * z
  hv : (v = .nilSl ∧ n = 0) ∨ ∃ i o c op ro op' e z' l, v = .sl i o n c op ∧ i < H.next ∧ Row H i ro op' e z' l ∧ o + n * z ≤ l.length ∧ (l.drop o).take (n * z) = cs
theorem SlZ.is {H : AH} {v : AV} {n z : Nat} {cs : List AV} (h : SlZ H v n z cs) : IsSl H v n := by
  rcases h.hv with h | ⟨i, o, c, op, ro, op', e, z', l, rfl, hi, hr, hl, _⟩
  · exact .inl h
  · exact hr.isSl hi (by omega)
theorem SlZ.hp {H H' : AH} {v : AV} {n z : Nat} {cs : List AV} (h : SlZ H v n z cs) {p : Nat → Prop} (hp : HP p H H') (hb : ∀ i o c op, v = .sl i o n c op → p i) : SlZ H' v n z cs := by
  refine ⟨h.len, ?_⟩
  rcases h.hv with h | ⟨i, o, c, op, ro, op', e, z', l, rfl, hi, hr, hl, hc⟩
  · exact .inl h
  · exact .inr ⟨i, o, c, op, ro, op', e, z', l, rfl, Nat.lt_of_lt_of_le hi hp.next, hr.hp hp hi (hb _ _ _ _ rfl), hl, hc⟩
theorem SlZ.hx {H H' : AH} {v : AV} {n z : Nat} {cs : List AV} (h : SlZ H v n z cs) (hx : HX H H') : SlZ H' v n z cs := h.hp (hx.hp fun _ => True) fun _ _ _ _ _ => trivial
theorem SlZ.get {n z k j : Nat} {cs l : List AV} {o : Nat} (hc : (l.drop o).take (n * z) = cs) (hk : k < n) (hj : j < z) : cs[k * z + j]? = l[o + k * z + j]? := by
  subst hc
  have : k * z + j < n * z := by
    have : (k + 1) * z ≤ n * z := Nat.mul_le_mul_right z hk
    rw [Nat.add_mul] at this; omega
  rw [List.getElem?_take_of_lt this, List.getElem?_drop, Nat.add_assoc]
theorem SlZ.rd {H : AH} {v : AV} {n z : Nat} {cs : List AV} (h : SlZ H v n z cs) {k j : Nat} (hk : k < n) (hj : j < z) {x : AV} (hx : cs[k * z + j]? = some x) : ld1 (elB z v k j) H = some x := by
  rcases h.hv with ⟨rfl, rfl⟩ | ⟨i, o, c, op, ro, op', e, z', l, rfl, hi, hr, hl, hc⟩
  · omega
  · exact hr.rd ((SlZ.get hc hk hj).symm.trans hx)
theorem SlZ.src {H : AH} {v : AV} {n z : Nat} {cs : List AV} (h : SlZ H v n z cs) : ∃ new, srcCells z v n H = some new ∧ new.l = cs := by
  have hlen := h.len
  rcases h.hv with ⟨rfl, rfl⟩ | ⟨i, o, c, op, ro, op', e, z', l, rfl, hi, hr, hl, hc⟩
  · refine ⟨.lst [], rfl, ?_⟩
    exact (List.eq_nil_of_length_eq_zero (by omega)).symm
  · obtain ⟨new, h1, h2⟩ := src_sl (z := z) (m := n) (c := c) (op := op) hr (o := o) (n := n) hl
    exact ⟨new, h1, by rw [h2, hc]⟩
end Go.Ev
namespace Go.Ev
open Go.RowKit
end Go.Ev
/-! Short names, for texts that a program writes: a name that stands for several rules, one of which fits. -/
theorem Go.Ev.Ra.Z : type_of% @Go.Ev.rc_reg := @Go.Ev.rc_reg
theorem Go.Ev.Rb.Z : type_of% @Go.Ev.rc_seq := @Go.Ev.rc_seq
theorem Go.Ev.Rc.Z : type_of% @Go.Ev.rk_done := @Go.Ev.rk_done
theorem Go.Ev.Rd.Zq : type_of% @Go.Ev.rn_seq_n := @Go.Ev.rn_seq_n
theorem Go.Ev.Re.Z : type_of% @Go.Ev.rc_blk := @Go.Ev.rc_blk
theorem Go.Ev.Rf.Z : type_of% @Go.Ev.rc_skip := @Go.Ev.rc_skip
theorem Go.Ev.Rg.Z : type_of% @Go.Ev.rc_exit := @Go.Ev.rc_exit
theorem Go.Ev.Rh.Z : type_of% @Go.Ev.rc_ret := @Go.Ev.rc_ret
theorem Go.Ev.Ri.Z : type_of% @Go.Ev.rc_scp := @Go.Ev.rc_scp
theorem Go.Ev.Rj.Z : type_of% @Go.Ev.rn_seq_e := @Go.Ev.rn_seq_e
theorem Go.Ev.Rk.Z : type_of% @Go.Ev.rn_seq_r := @Go.Ev.rn_seq_r
theorem Go.Ev.Rl.Z : type_of% @Go.Ev.rn_blk_n := @Go.Ev.rn_blk_n
theorem Go.Ev.Rm.Z : type_of% @Go.Ev.rn_blk_r := @Go.Ev.rn_blk_r
theorem Go.Ev.Rn.Z : type_of% @Go.Ev.rn_blk_e := @Go.Ev.rn_blk_e
theorem Go.Ev.Ro.Z : type_of% @Go.Ev.rn_scp_n := @Go.Ev.rn_scp_n
theorem Go.Ev.Rp.Z : type_of% @Go.Ev.rn_scp_e := @Go.Ev.rn_scp_e
theorem Go.Ev.Rq.Z : type_of% @Go.Ev.rn_scp_r := @Go.Ev.rn_scp_r
theorem Go.Ev.Rr.Z : type_of% @Go.Ev.rk_sk := @Go.Ev.rk_sk
theorem Go.Ev.Ra.Y : type_of% @Go.Ev.rk_mv' := @Go.Ev.rk_mv'
theorem Go.Ev.Rb.Y : type_of% @Go.Ev.rk_p1 := @Go.Ev.rk_p1
theorem Go.Ev.Rc.Y : type_of% @Go.Ev.rk_p2 := @Go.Ev.rk_p2
theorem Go.Ev.Rd.Y : type_of% @Go.Ev.rk_r1 := @Go.Ev.rk_r1
theorem Go.Ev.Re.Y : type_of% @Go.Ev.rk_ln := @Go.Ev.rk_ln
theorem Go.Ev.Rf.Y : type_of% @Go.Ev.rk_ls := @Go.Ev.rk_ls
theorem Go.Ev.Ra.X : type_of% @Go.Ev.rc_cond := @Go.Ev.rc_cond
theorem Go.Ev.Rb.X : type_of% @Go.Ev.rk_gd := @Go.Ev.rk_gd
theorem Go.Ev.Zu : type_of% (And.intro @Go.Ev.bvl (And.intro @Bool.not_true (And.intro @Bool.not_false @not_true_eq_false))) := And.intro @Go.Ev.bvl (And.intro @Bool.not_true (And.intro @Bool.not_false @not_true_eq_false))
