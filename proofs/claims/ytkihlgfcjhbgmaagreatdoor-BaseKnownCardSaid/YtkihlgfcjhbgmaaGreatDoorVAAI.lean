import Derived.Test.YtkihlgfcjhbgmaaGreatDoorVAAE
import Derived.Test.YtkihlgfcjhbgmaaGreatDoorVAAH
import Derived.Test.YtkihlgfcjhbgmaaGreatDoorVAAF
noncomputable section
set_option maxHeartbeats 8000000
set_option linter.unusedSimpArgs false
set_option linter.unusedVariables false
namespace Go.Ev
section
variable {L : Lk} {P : Program} {B : Nat} {rec : Rec} {rt : RecT}
abbrev zqg (u : Value) (r : Bool) : List PanicEntry := [{ v := u, recovered := r }]
def ThrOk (P : Program) (B : Nat) (rt : RecT) : Prop := ∀ f args H p, rt f args H = some p → ∀ E w us, H.Wf → St B E H w → StL E H.next args us →
  (callFunc f us.toArray).run P w = .ok (.enter f us.toArray) w ∧ CallsIn Fence.wide 0 P f us.toArray w fun e w1 => ∃ u, e = .panicked (zqg u false) ∧ Done B E H w p.1 p.2 u w1
def Thrown (B N : Nat) (E : Env) (H : AH) (w : World) (r : OutT) (e : Exit) (a1 : Act) (w1 : World) : Prop :=
  ∃ E1 u, e = .panic (zqg u false) ∧ StV E1 r.2.2.2.next r.2.2.1 u ∧ St B E1 r.2.2.2 w1 ∧ StT E1 r.2.2.2.next r.2.1 a1.tmps ∧ Post E H w E1 r.2.2.2 w1 ∧ r.2.2.2.Wf ∧ DefOk ⟨N, r.1⟩ E1 r.2.2.2 w1 a1.defers
theorem Thrown.trans {N : Nat} {E E1 : Env} {H H1 : AH} {w w1 : World} {r : OutT} {e : Exit} {a2 : Act} {w2 : World} (hp : Post E H w E1 H1 w1) (h : Thrown B N E1 H1 w1 r e a2 w2) : Thrown B N E H w r e a2 w2 := by
  obtain ⟨E2, u, h1, h2, h3, h4, h5, h6, h7⟩ := h
  exact ⟨E2, u, h1, h2, h3, h4, hp.trans h5, h6, h7⟩
theorem zkz (hL : LOk0 L P) (ht : ThrOk P B rt) {T : Tr AV} {o : Oper} {H : AH} {p : AV × AH} (h : ztv L rt T o H = some p) {E : Env} {w : World} {a : Act} (hw : H.Wf) (hS : St B E H w) (hT : StT E H.next T a.tmps)
    {K : Act → World → Prop} {Q : Exit → Act → World → Prop} (hQ : ∀ u w1, Done B E H w p.1 p.2 u w1 → Q (.panic (zqg u false)) a w1) : o.wpIn Fence.wide 0 P a w K Q := by
  unfold ztv at h
  refine ⟨fun f _ => trivial, ?_⟩
  split at h
  · next x hop =>
    split at h
    · next t v hx =>
      cases h
      rw [Oper.semAt_eq Fence.wide.round a.eval o (fun c hc => by rw [hop] at hc; cases hc)]
      have hst := zra hT hx
      have e0 : a.eval x = .iface t (conc E v) := hst.self
      have hrun : (execOp a.eval o).run P w = .halt (.panic (.iface t (conc E v))) w := by
        unfold execOp
        rw [hop]
        simp only [e0]
        rfl
      rw [hrun]
      exact hQ _ _ (Done.same hw hS (by rw [← e0]; exact hst))
    · cases h
  · next c hop =>
    split at h
    · next f args hnx =>
      rw [Oper.semAt_eq Fence.wide.round a.eval o (fun c hc => by rw [hop] at hc; cases hc)]
      obtain ⟨us, hus, hrun⟩ := zds hL hw hS hT hnx
      rw [hrun]
      obtain ⟨h1, h2⟩ := ht f args H p h E w us hw hS hus
      rw [h1]
      refine ⟨znd zza _, h2.mono fun e w1 ⟨u, he, hd⟩ => ?_⟩
      subst he
      exact hQ u w1 hd
    · cases h
  · cases h
theorem zpe1 (hL : LOk0 L P) (hr : RecOk P B rec) (ht : ThrOk P B rt) (ops : Array Oper) (l : List Oper) : ∀ (k : Nat), (∀ j, l[j]? = ops[k + j]?) → ∀ (ds : List Df) (T : Tr AV) (H : AH) (r : OutT), zmb1 L rec rt ops.toList l ds T H = some r →
    ∀ (N : Nat) (E : Env) (w : World) (a : Act), H.Wf → St B E H w → StT E H.next T a.tmps → DefOk ⟨N, ds⟩ E H w a.defers → (∀ o ∈ l, ∀ d, o.dst = some d → d < a.tmps.size) → ∀ (Q : Exit → Act → World → Prop),
      (∀ e a1 w1, Thrown B N E H w r e a1 w1 → Q e a1 w1) → ArrOps Fence.wide P ops Q (List.range' k l.length) a w := by
  induction l with
  | nil => intro k _ ds T H r h; cases h
  | cons o l ih =>
    intro k hk ds T H r h N E w a hw hS hT hD hd Q hQ
    have h0 : ops[k]? = some o := by simpa using (hk 0).symm
    have hk' : ∀ j, l[j]? = ops[k + 1 + j]? := fun j => by have := hk (j + 1); simpa [Nat.add_assoc, Nat.add_comm 1 j] using this
    simp only [List.length_cons, List.range'_succ]
    have hwk := zhg (hT E (Agree.refl _ _)) ops o
    unfold zmb1 at h
    rw [zja] at h
    have hdo := hd o (by simp)
    split at h
    · next hwant =>
      split at h
      · split at h
        · next x hx =>
          obtain ⟨d, hrun, hdr⟩ := zvo (P := P) hT hx w
          refine ArrOps.op zza h0 (hwk.trans hwant) ⟨fun f _ => trivial, ?_⟩
          have hsem : o.semAt Fence.wide.round a.eval = execOp a.eval o := rfl
          rw [hsem, hrun]
          show ArrOps Fence.wide P ops Q _ (({ a with defers := d :: a.defers } : Act).put o.dst undef) w
          have hT' : StT E H.next T ({ a with defers := d :: a.defers } : Act).tmps := hT
          exact ih (k + 1) hk' _ _ _ _ h N E w _ hw hS (StT.put hT' (v := .undef) (u := undef) (fun _ _ => rfl) hdo) (by rw [zib]; exact hD.more hdr) (fun o ho d' hod => by rw [zlb]; exact hd o (by simp [ho]) d' hod) Q hQ
        · cases h
      · split at h
        · next r' hro =>
          refine zdk hL hr zza hro hw hS hT h0 (hwk.trans hwant) fun u w1 ⟨E1, hv, hS1, hp, hw1⟩ => ?_
          exact ih (k + 1) hk' _ _ _ _ h N E1 w1 _ hw1 hS1 (StT.put (hT.up hp.ext hp.next) hv hdo) (by rw [zib]; exact hD.post hp) (fun o ho d hod => by rw [zlb]; exact hd o (by simp [ho]) d hod) Q fun e a1 w2 hx => hQ e a1 w2 (hx.trans hp)
        · split at h
          · next p hth =>
            cases h
            exact ArrOps.op zza h0 (hwk.trans hwant) (zkz hL ht hth hw hS hT fun u w1 ⟨E1, hv, hS1, hp, hw1⟩ => hQ _ _ _ ⟨E1, u, rfl, hv, hS1, hT.up hp.ext hp.next, hp, hw1, hD.post hp⟩)
          · cases h
    · next hwant =>
      refine ArrOps.skip zza h0 (hwk.trans hwant) ?_
      exact ih (k + 1) hk' _ _ _ _ h N E w _ hw hS (StT.put hT (v := .undef) (u := undef) (fun _ _ => rfl) hdo) (by rw [zib]; exact hD) (fun o ho d hod => by rw [zlb]; exact hd o (by simp [ho]) d hod) Q hQ
theorem ztp (hL : LOk0 L P) (hm : P.follows .mixedOrders = true) {m : Nat} (hr : CodeRec P B m rec) (ht : ThrOk P B rt) (n : Nat) (c : Code) : ∀ (ds : List Df) (T : Tr AV) (H : AH) (r : OutT), ztj L rec rt c ds T H = some r → wfC n c = true →
    ∀ (N : Nat) (E : Env) (w : World) (a : Act), Ahead B Fence.wide ⟨N, ds⟩ E T H w a → n ≤ a.tmps.size → ∀ (Q : Exit → Act → World → Prop),
    (∀ e a1 w1, Thrown B N E H w r e a1 w1 → Q e a1 w1) → c.wpIn Fence.wide 0 P Q a w := by
  induction c with
  | region id ops draw =>
    intro ds T H r h hwf N E w a hA hn Q hQ
    have h' : (match (generalizing := false) draw with | true => none | false => zmb1 L rec rt ops.toList ops.toList ds T H) = some r := h
    split at h'
    · cases h'
    · have hd : ∀ o ∈ ops.toList, ∀ d, o.dst = some d → d < a.tmps.size := by
        intro o ho d hod
        simp only [wfC] at hwf
        unfold wfOps at hwf
        have := List.all_eq_true.1 hwf o ho
        rw [hod] at this
        have h2 : d + 1 ≤ n := Nat.le_of_ble_eq_true this
        exact Nat.lt_of_lt_of_le h2 hn
      have hx := zpe1 hL hr.toRecOk ht ops ops.toList 0 (fun j => by simp) ds T H r h' N E w a hA.wf hA.st hA.tmps hA.defs hd Q hQ
      rw [Array.length_toList, ← List.range_eq_range'] at hx
      exact fun b k cs hro hb hr => let ⟨e, a', w', q, r⟩ := hx b k cs hro hb hr; ⟨e, a', w', q, .of_steps (.one (fenced_calm hb hr rfl) stepR_region) r⟩
  | seq x y ihx ihy =>
    intro ds T H r h hwf N E w a hA hn Q hQ
    simp only [wfC, Bool.and_eq_true] at hwf
    have h' : (match zpg L rec x ds T H with | some r => (match r.2.ex with | .normal => ztj L rec rt y r.1 r.2.T r.2.H | _ => none) | none => ztj L rec rt x ds T H) = some r := h
    split at h'
    · next o ho =>
      refine wpIn_seq (zwo hL hm hr n x ds T H o ho hwf.1 N E w a hA hn _ fun e a1 w1 hb => ?_)
      obtain ⟨⟨E1, h1, h2, h3, h4⟩, h5, h6, h7⟩ := hb
      generalize hex : o.2.ex = ex at h' h6
      cases h6 with
      | normal => exact ihy o.1 o.2.T o.2.H r h' hwf.2 N E1 w1 a1 ⟨h5, h1, h2, h4, Nat.le_trans hA.base h3.size, fun l hl => let ⟨r, hr⟩ := hA.rnd l hl; h3.loops l r hr⟩ (by omega) Q fun e2 a2 w2 hx => hQ e2 a2 w2 (hx.trans h3)
      | exit id => cases h'
      | ret => cases h'
      | goto l => cases h'
    · refine wpIn_seq (ihx ds T H r h' hwf.1 N E w a hA hn _ fun e a1 w1 hx => ?_)
      have hq := hQ e a1 w1 hx
      obtain ⟨E1, u, rfl, _⟩ := hx
      exact hq
  | cond x y z ihy ihz =>
    intro ds T H r h hwf N E w a hA hn Q hQ
    simp only [wfC, Bool.and_eq_true] at hwf
    have h' : (match opnd T x with | some (.bool true) => ztj L rec rt y ds T H | some (.bool false) => ztj L rec rt z ds T H | _ => none) = some r := h
    split at h'
    · next hx => exact wpIn_cond_true (by rw [zeb (hA.tmps E (Agree.refl _ _)) hx]; rfl) (ihy ds T H r h' hwf.1 N E w a hA hn Q hQ)
    · next hx => exact wpIn_cond_false (by rw [zeb (hA.tmps E (Agree.refl _ _)) hx]; rfl) (ihz ds T H r h' hwf.2 N E w a hA hn Q hQ)
    · cases h'
  | block id x ih =>
    intro ds T H r h hwf N E w a hA hn Q hQ
    refine wpIn_block (ih ds T H r h hwf N E w a hA hn _ fun e a1 w1 hx => ?_)
    have hq := hQ e a1 w1 hx
    obtain ⟨E1, u, rfl, _⟩ := hx
    exact hq
  | skip => intro ds T H r h; cases h
  | loop x ih => intro ds T H r h; cases h
  | rangeFunc f ps asg bd _ _ => intro ds T H r h; cases h
  | exit id => intro ds T H r h; cases h
  | scope x ih => intro ds T H r h; cases h
  | label l => intro ds T H r h; cases h
  | goto l => intro ds T H r h; cases h
  | ret => intro ds T H r h; cases h
  | refuse s => intro ds T H r h; cases h
theorem zlz {fn : Func} {E : Env} {H : AH} {w : World} {tmps : Array Value} {N : Nat} (hN : w.heap.size ≤ N) {v : AV} {u : Value} {E1 : Env} {H1 : AH} (hwf : H1.Wf) (hv : StV E1 H1.next v u)
    (l : List Deferred) : ∀ (w1 : World), DefOk ⟨N, []⟩ E1 H1 w1 l → St B E1 H1 w1 → Post E H w E1 H1 w1 →
      LeavesInM Fence.wide 0 P fn tmps (fun e w1 => ∃ u, e = .panicked (zqg u false) ∧ Done B E H w v H1 u w1) l (.panicking (zqg u false)) w1 := by
  induction l with
  | nil => intro w1 hD hS hp; exact ⟨u, rfl, E1, hv, hS, hp, hwf⟩
  | cons d l ih =>
    intro w1 hD hS hp
    refine ⟨(fun h => by cases h), ?_⟩
    obtain ⟨h1, h2, h3⟩ := hD
    cases hm : zxk d with
    | some r =>
      left
      have e1 : zec (d :: l) = r :: zec l := by unfold zec; rw [List.filterMap_cons, hm]
      have e2 : zfc (d :: l) = zfc l := by unfold zfc; rw [List.filter_cons, hm]; rfl
      have htar : d.target = .collected r := by
        unfold zxk at hm
        split at hm
        · next r' hr' => cases hm; exact hr'
        · cases hm
      rw [e1] at h2 h3
      rw [e2] at h1
      rw [List.nodup_cons] at h2
      obtain ⟨k0, k1, k2, k3⟩ := h3 r (by simp)
      refine ⟨r, w1.putObj r (.deferred none), htar, run_takeDeferred k2, ?_⟩
      refine ih _ ⟨h1, h2.2, fun r' hr' => ?_⟩ (hS.other k2) (hp.other (Nat.le_trans hN k0) k2)
      obtain ⟨j0, j1, j2, j3⟩ := h3 r' (by simp [hr'])
      refine ⟨j0, by rw [World.putObj_size]; exact j1, ?_, j3⟩
      rw [World.putObj_heap_other (fun e => h2.1 (by rw [← e]; exact hr'))]
      exact j2
    | none =>
      have e2 : zfc (d :: l) = d :: zfc l := by unfold zfc; rw [List.filter_cons, hm]; rfl
      rw [e2] at h1
      cases h1
theorem zmz (hL : LOk L P) {m : Nat} (hr : CodeRec P B m rec) (ht : ThrOk P B rt) : ThrOk P B (evThr L rec rt) := by
  intro f args H p h E w us hw hS hus
  unfold evThr at h
  split at h
  · cases h
  · next fn hf =>
    split at h
    · cases h
    · next c hb =>
      split at h
      · cases h
      · next hlen =>
        rw [zpc] at hlen
        have hlen := Nat.le_of_ble_eq_true hlen
        split at h
        · cases h
        · next r hc =>
          split at h
          · next hds =>
            cases h
            obtain ⟨h1, h2, h3⟩ := hL.func f fn hf
            have hul : us.length = args.length := by rw [hus E (Agree.refl _ _), zda]
            refine ⟨zya hL hf hb _ _, callsIn_of_wp_marks h1 hb trivial ?_ rfl⟩
            refine ztp hL.toLOk0 hL.mixed hr ht fn.ntmps c [] _ H r hc (h3 c hb) w.heap.size E w _ ⟨hw, hS, StT.args hus _, DefOk.nil _ _ _ _, Nat.le_refl _, fun l hl => by cases hl⟩ ?_ _ ?_
            · simp; omega
            · rintro e a1 w1 ⟨E1, u, rfl, k1, k2, k3, k4, k5, k6⟩
              rw [hds] at k6
              exact zlz (Nat.le_refl _) k5 k1 a1.defers w1 k6 k2 k4
          · cases h
theorem zmk1 : ThrOk P B fun _ _ _ => none := fun _ _ _ _ h => by cases h
theorem zlv (hL : LOk L P) {m : Nat} (hr : CodeRec P B m rec) {x : Df} {v : AV} {H1 H1' : AH} (h : zcm L rec x v H1 = some H1') {E1 : Env} {w1 : World} {us : List Value} {u : Value} (hw : H1.Wf) (hS : St B E1 H1 w1) (hus : StL E1 H1.next x.2 us) (hv : StV E1 H1.next v u) :
    (callFunc x.1 us.toArray).run P w1 = .ok (.enter x.1 us.toArray) w1 ∧ CallsDIn Fence.wide 0 P x.1 us.toArray (.panicking (zqg u false)) w1 fun e u' w2 =>
      (∃ v, e = .returned v) ∧ u' = .panicking (zqg u true) ∧ ∃ E2, St B E2 H1' w2 ∧ Post E1 H1 w1 E2 H1' w2 ∧ H1'.Wf := by
  unfold zcm at h
  split at h
  · cases h
  · next fn hf =>
    split at h
    · next id ops c hb =>
      split at h
      · next o hops =>
        split at h
        · cases h
        · next hcond =>
          simp only [Bool.and_eq_true] at hcond
          obtain ⟨hrec, hwant, hno, hlen⟩ := hcond
          rw [zpc] at hlen
          have hlen := Nat.le_of_ble_eq_true hlen
          split at h
          · cases h
          · next o1 ho1 =>
            split at h
            · cases h
            · next o2 ho2 =>
              obtain ⟨rfl, hex⟩ := zyq ho2
              split at h
              · next vs hres =>
                cases h
                obtain ⟨h1, h2, h3⟩ := hL.func _ fn hf
                have hul : us.length = x.2.length := by rw [hus E1 (Agree.refl _ _), zda]
                have hwf := h3 _ hb
                simp only [wfC, Bool.and_eq_true] at hwf
                obtain ⟨hwf1, hwf2⟩ := hwf
                have hsz : ops.size = 1 := by rw [← Array.length_toList, hops]; rfl
                have h0 : ops[0]? = some o := by rw [← Array.getElem?_toList, hops]; rfl
                refine ⟨zya hL hf hb _ _, callsDIn_of_wpSIn h1 hb trivial fun c₀ cs hmode => wpSIn_seq (wpSIn_region ?_)⟩
                rw [hsz]
                have hT := StT.args hus (fn.ntmps - us.toArray.size)
                generalize ha : (⟨us.toArray ++ Array.replicate (fn.ntmps - us.toArray.size) undef, []⟩ : Act) = a at *
                have hasz : fn.ntmps ≤ a.tmps.size := by subst ha; simp; omega
                have had : a.defers = [] := by subst ha; rfl
                have hT : StT E1 H1.next (zob x.2 0 .nil) a.tmps := by subst ha; exact hT
                have hwk := zhg (hT E1 (Agree.refl _ _)) ops o
                rw [hops] at hwk
                show wpOpsSIn Fence.wide 0 P ops _ [0] a (c₀ :: cs) w1
                simp only [wpOpsSIn, h0]
                refine ⟨fun _ _ => trivial, ?_⟩
                rw [if_pos (hwk.trans hwant), zso hrec]
                simp only [recoverD, hmode]
                have hdo : ∀ d, o.dst = some d → d < a.tmps.size := fun d hod => by
                  unfold wfOps at hwf1
                  have := List.all_eq_true.1 hwf1 o (by rw [hops]; simp)
                  rw [hod] at this
                  exact Nat.lt_of_lt_of_le (Nat.le_of_ble_eq_true this) hasz
                have hT1 : StT E1 H1.next (putT (zob x.2 0 .nil) o.dst v) (a.put o.dst u).tmps := StT.put hT hv hdo
                refine zto hL.toLOk0 hL.mixed hr fn.ntmps c (.inr hno) _ H1 o2 ho1 hwf2 ⟨w1.heap.size, []⟩ E1 w1 _ ⟨hw, hS, hT1, by rw [zib, had]; exact DefOk.nil _ _ _ _, Nat.le_refl _, fun l hl => by cases hl⟩ (by rw [zlb]; exact hasz) _ ?_
                intro e a1 w2 ⟨⟨E2, k1, k2, k3, k4⟩, k5, k6, k7⟩ hd
                have fin : a1.defers = [] ∧ ∃ u', ({ c₀ with mode := .panicking (zqg u true) } : Frame) :: cs = { c₀ with mode := u' } :: cs ∧ ∃ v, (results fn a1.tmps).run P w2 = .ok v w2 ∧ ((∃ v', Ending.returned v = .returned v') ∧ u' = FrameMode.panicking (zqg u true) ∧ ∃ E2, St B E2 o2.H w2 ∧ Post E1 H1 w1 E2 o2.H w2 ∧ o2.H.Wf) :=
                  ⟨by rw [hd, zib, had], _, rfl, _, zwg hL.toLOk0 k1.self (k2 E2 (Agree.refl _ _)) hres, ⟨_, rfl⟩, rfl, E2, k1, k3, k5⟩
                rcases hex with hex | hex <;> rw [hex] at k6 <;> cases k6 <;> exact fin
              · cases h
      · cases h
    · cases h
theorem znz (hL : LOk L P) {m : Nat} (hr : CodeRec P B m rec) {fn : Func} {T : Tr AV} {vs : List AV} {E : Env} {H : AH} {w : World} {H2 H3 : AH} {tmps : Array Value} {N : Nat} (hN : w.heap.size ≤ N) (hres : zjb L T H3 fn.results.toList = some vs)
    {x : Df} {xs : List Df} {v : AV} {u : Value} {E1 : Env} {H1 : AH} (hdp : zcm L rec x v H1 = some H2) (hlv : zqn L rec xs H2 = some H3) (hwf : H1.Wf) (hT : StT E1 H1.next T tmps) (hv : StV E1 H1.next v u)
    (l : List Deferred) : ∀ (w1 : World), DefOk ⟨N, x :: xs⟩ E1 H1 w1 l → St B E1 H1 w1 → Post E H w E1 H1 w1 →
      LeavesInM Fence.wide 0 P fn tmps (fun e w1 => ∃ u, e = .returned u ∧ Done B E H w (tupOf vs) H3 u w1) l (.panicking (zqg u false)) w1 := by
  induction l with
  | nil =>
    intro w1 hD _ _
    have := hD.real
    cases this
  | cons d l ih =>
    intro w1 hD hS hp
    refine ⟨(fun h => by cases h), ?_⟩
    obtain ⟨h1, h2, h3⟩ := hD
    cases hm : zxk d with
    | some r =>
      left
      have e1 : zec (d :: l) = r :: zec l := by unfold zec; rw [List.filterMap_cons, hm]
      have e2 : zfc (d :: l) = zfc l := by unfold zfc; rw [List.filter_cons, hm]; rfl
      have htar : d.target = .collected r := by
        unfold zxk at hm
        split at hm
        · next r' hr' => cases hm; exact hr'
        · cases hm
      rw [e1] at h2 h3
      rw [e2] at h1
      rw [List.nodup_cons] at h2
      obtain ⟨k0, k1, k2, k3⟩ := h3 r (by simp)
      refine ⟨r, w1.putObj r (.deferred none), htar, run_takeDeferred k2, ?_⟩
      refine ih _ ⟨h1, h2.2, fun r' hr' => ?_⟩ (hS.other k2) (hp.other (Nat.le_trans hN k0) k2)
      obtain ⟨j0, j1, j2, j3⟩ := h3 r' (by simp [hr'])
      refine ⟨j0, by rw [World.putObj_size]; exact j1, ?_, j3⟩
      rw [World.putObj_heap_other (fun e => h2.1 (by rw [← e]; exact hr'))]
      exact j2
    | none =>
      right
      have e1 : zec (d :: l) = zec l := by unfold zec; rw [List.filterMap_cons, hm]
      have e2 : zfc (d :: l) = d :: zfc l := by unfold zfc; rw [List.filter_cons, hm]; rfl
      rw [e2] at h1
      rw [e1] at h2 h3
      cases h1 with
      | cons hx hxs =>
        obtain ⟨cap, htar, hus⟩ := hx
        obtain ⟨hrun, hci⟩ := zlv hL hr hdp hwf hS hus hv
        have harr : (d.args ++ cap).toList.toArray = d.args ++ cap := rfl
        rw [harr] at hrun hci
        refine ⟨znd zza _, .func x.1, cap, x.1, d.args ++ cap, htar, by rw [zro d _ _ htar]; exact hrun, fun _ _ => trivial, hci.mono fun e u' w2 ⟨⟨v, he⟩, hu, E2, q1, q2, q3⟩ => ?_⟩
        subst he
        subst hu
        exact zjj hL.toLOk0 hN hres l xs E2 H2 w2 (fun y _ => zuo hL hr y) hlv q3 (hT.up q2.ext q2.next) ((⟨hxs, h2, h3⟩ : DefOk ⟨N, xs⟩ E1 H1 w1 l).post q2) q1 (hp.trans q2)
theorem zoz (hL : LOk L P) {m : Nat} (hr : CodeRec P B m rec) (ht : ThrOk P B rt) (f : FuncId) : XOk P B f (zuv L rec rt f) := by
  intro args H p h E w us hw hS hus
  unfold zuv at h
  split at h
  · cases h
  · next fn hf =>
    split at h
    · cases h
    · next c hb =>
      split at h
      · cases h
      · next hlen =>
        rw [zpc] at hlen
        have hlen := Nat.le_of_ble_eq_true hlen
        split at h
        · cases h
        · next r hc =>
          split at h
          · cases h
          · next x xs hds =>
            split at h
            · cases h
            · next H2 hdp =>
              split at h
              · cases h
              · next H3 hlv =>
                split at h
                · next vs hres =>
                  cases h
                  rw [zhk]
                  unfold CallOk
                  rw [zya hL hf hb]
                  obtain ⟨h1, h2, h3⟩ := hL.func f fn hf
                  have hul : us.length = args.length := by rw [hus E (Agree.refl _ _), zda]
                  refine callsIn_of_wp_marks h1 hb trivial ?_ rfl
                  refine ztp hL.toLOk0 hL.mixed hr ht fn.ntmps c [] _ H r hc (h3 c hb) w.heap.size E w _ ⟨hw, hS, StT.args hus _, DefOk.nil _ _ _ _, Nat.le_refl _, fun l hl => by cases hl⟩ ?_ _ ?_
                  · simp; omega
                  · rintro e a1 w1 ⟨E1, u, rfl, k1, k2, k3, k4, k5, k6⟩
                    rw [hds] at k6
                    exact znz hL hr (Nat.le_refl _) hres hdp hlv k5 k3 k1 a1.defers w1 k6 k2 k4
                · cases h
theorem zqe1 (hL : LOk L P) {m : Nat} (hr : CodeRec P B m rec) (f : FuncId) : XOk P B f (zth1 L rec f) := by
  intro args H p h
  unfold zth1 at h
  split at h
  · split at h
    · split at h
      · exact zoz hL hr (zmz hL hr (zmz hL hr zmk1)) f _ H p h
      · cases h
    · cases h
  · cases h
end
open Go.RowKit
def xRead (L : Lk) (f : Nat) : XFn := zth1 L (evF L 1000000) f
theorem znk1 {L : Lk} {P : Program} {B : Nat} (hL : LOk L P) (hX : ExtOk L P B) (f : Nat) : XOk P B f (xRead L f) := by
  unfold xRead
  rw [zcr]
  exact zqe1 hL (zvf hL hX _) f
def zup (G rt : Nat) : XFn := fun args H => match args with
  | [.ifc t _] => some (.ifc rt (.agg [.ext 2 G t]), H)
  | [.nilIfc] => some (.nilIfc, H)
  | _ => none
theorem zpz {P : Program} {B : Nat} {f G rt : Nat} (hf : Bare P f Extern.ReflectliteType.typeOf) (hG : P.globals.size = G) (hr : ∃ n, P.cutTypes.find? (·.1 == "internal/reflectlite.rtype") = some (n, rt)) : XOk P B f (zup G rt) := by
  intro args H p hp E w us hw hS hus
  obtain ⟨nm, hr⟩ := hr
  unfold zup at hp
  split at hp
  · next t v =>
    cases hp
    have hu := hus E (Agree.refl _ _)
    subst hu
    unfold CallOk
    have : (callFunc f (concL E [.ifc t v]).toArray).run P w = .ok (.value (.iface rt (.agg #[.pointer (some ⟨G, t, none⟩)]))) w := by
      refine hf.run ?_
      show (Extern.ReflectliteType.typeOf #[Value.iface t (conc E v)]).run P w = _
      have hi : Extern.ReflectliteType.typeOf #[Value.iface t (conc E v)] = Extern.ReflectliteType.toType t := rfl
      rw [hi]
      unfold Extern.ReflectliteType.toType cutType Extern.Rtype.handle typeHandle
      simp only [Sem.run_bind, program, Sem.run, Result.andThen_ok, hr, Sem.run_pure, hG]
    rw [this]
    exact Done.same hw hS (fun _ _ => rfl)
  · cases hp
    have hu := hus E (Agree.refl _ _)
    subst hu
    unfold CallOk
    have : (callFunc f (concL E [.nilIfc]).toArray).run P w = .ok (.value .nilIface) w := hf.run rfl
    rw [this]
    exact Done.same hw hS (fun _ _ => rfl)
  · cases hp
def zye (G : Nat) (tab : List (Nat × Bool)) : XFn := fun args H => match args with
  | [.agg [.ext 2 g t]] => (match Nat.beq g G, tab.lookup t with | true, some b => some (.bool b, H) | _, _ => none)
  | _ => none
def eComp : Array Value → Sem Value := Extern.ReflectliteType.method fun t => do Extern.Rtype.noPackHeld "Comparable" t; pure (Value.bool (← typeInfo t).comparable)
theorem zqz {l : List (Nat × Bool)} {t : Nat} {b : Bool} (h : l.lookup t = some b) : (t, b) ∈ l := by
  induction l with
  | nil => cases h
  | cons p l ih =>
    obtain ⟨k, c⟩ := p
    rw [List.lookup_cons] at h
    split at h
    · next hk => have := eq_of_beq hk; subst this; cases h; exact List.mem_cons_self
    · exact List.mem_cons_of_mem _ (ih h)
theorem zhn {P : Program} {B : Nat} {f G : Nat} {tab : List (Nat × Bool)} {e : Array Value → Sem Value} (hf : Bare P f e)
    (ht : ∀ p ∈ tab, ∀ w, (e #[.agg #[.pointer (some ⟨G, p.1, none⟩)]]).run P w = .ok (.bool p.2) w) : XOk P B f (zye G tab) := by
  intro args H p hp E w us hw hS hus
  unfold zye at hp
  split at hp
  · next g t =>
    split at hp
    · next b hg hb =>
      cases hp
      have hg := Nat.eq_of_beq_eq_true hg
      subst hg
      have hu := hus E (Agree.refl _ _)
      subst hu
      unfold CallOk
      have : (callFunc f (concL E [.agg [.ext 2 g t]]).toArray).run P w = .ok (.value (.bool b)) w := hf.run (ht (t, b) (zqz hb) w)
      rw [this]
      exact Done.same hw hS (fun _ _ => rfl)
    · cases hp
  · cases hp
theorem cmp_nil {Q : Nat × Bool → Prop} : ∀ p ∈ ([] : List (Nat × Bool)), Q p := fun p h => by cases h
theorem znr {P : Program} {e : Array Value → Sem Value} {G t : Nat} {b : Bool} {l : List (Nat × Bool)} (h : ∀ w, (e #[.agg #[.pointer (some ⟨G, t, none⟩)]]).run P w = .ok (.bool b) w)
    (hl : ∀ p ∈ l, ∀ w, (e #[.agg #[.pointer (some ⟨G, p.1, none⟩)]]).run P w = .ok (.bool p.2) w) : ∀ p ∈ (t, b) :: l, ∀ w, (e #[.agg #[.pointer (some ⟨G, p.1, none⟩)]]).run P w = .ok (.bool p.2) w := fun p hp => by
  rcases List.mem_cons.1 hp with rfl | hp
  · exact h
  · exact hl p hp
def dLook (dl : List Nat) (f : Nat) : Bool := lrec (β := Bool) false (fun a _ ih => brec ih true (Nat.beq a f)) dl
def lkD (P : Program) (fs : Tr Func) (ts : Tr TypeInfo) (tab : List (Nat × XFn)) (zl : List (Nat × Nat)) (dl : List Nat) : Lk :=
  { func := fun f => fs.get f, info := fun t => ts.get t, plainEq := fun t => !P.stoodInHeld t && !P.eqGuardType P.depth t, ext := fun f => xLook tab f, zt := fun t => zLook zl t, dfn := fun f => dLook dl f }
theorem lkD_ok {P : Program} {tab : List (Nat × XFn)} {zl : List (Nat × Nat)} {dl : List Nat} (hm : P.follows .mixedOrders = true) (hf : P.funcs.toList.all fitFn = true) (hz : zl.all (zFits P.types.toList) = true) : LOk (lkD P (Tr.ofList P.funcs.toList) (Tr.ofList P.types.toList) tab zl dl) P :=
  let h := zjj1 (tab := tab) hm hf hz
  ⟨⟨h.info, h.plainEq, h.zt⟩, h.func, h.mixed⟩
theorem zin {P : Program} {fs : Tr Func} {ts : Tr TypeInfo} {tab : List (Nat × XFn)} {zl : List (Nat × Nat)} {dl : List Nat} {B : Nat} (h : ∀ p ∈ tab, XOk P B p.1 p.2) : ExtOk (lkD P fs ts tab zl dl) P B :=
  fun f g hg => h (f, g) (zid1 hg)
def trOf (l : List (Nat × XFn)) : Tr XFn := lrec (β := Tr XFn) Tr.nil (fun p _ t => t.set p.1 p.2) l
def uTr (l : List Nat) : Tr Unit := lrec (β := Tr Unit) Tr.nil (fun k _ t => t.set k ()) l
def lkT (P : Program) (fs : Tr Func) (ts : Tr TypeInfo) (tab : Tr XFn) (zl : List (Nat × Nat)) (dt : Tr Unit) : Lk :=
  { func := fun f => fs.get f, info := fun t => ts.get t, plainEq := fun t => !P.stoodInHeld t && !P.eqGuardType P.depth t, ext := fun f => tab.get f, zt := fun t => zLook zl t, dfn := fun f => orec false (fun _ => true) (dt.get f) }
theorem lkT_ok {P : Program} {tab : Tr XFn} {zl : List (Nat × Nat)} {dt : Tr Unit} (hm : P.follows .mixedOrders = true) (hf : P.funcs.toList.all fitFn = true) (hz : zl.all (zFits P.types.toList) = true) : LOk (lkT P (Tr.ofList P.funcs.toList) (Tr.ofList P.types.toList) tab zl dt) P :=
  let h := zjj1 (tab := []) hm hf hz
  ⟨⟨h.info, h.plainEq, h.zt⟩, h.func, h.mixed⟩
def TOk (P : Program) (t : Tr XFn) : Prop := ∀ B f g, t.get f = some g → XOk P B f g
theorem zoj {P : Program} {fs : Tr Func} {ts : Tr TypeInfo} {tab : Tr XFn} {zl : List (Nat × Nat)} {dt : Tr Unit} (h : TOk P tab) (B : Nat) : ExtOk (lkT P fs ts tab zl dt) P B :=
  fun f g hg => h B f g hg
theorem TOk.set {P : Program} {t : Tr XFn} {f : Nat} {g : XFn} (ht : TOk P t) (h : ∀ B, XOk P B f g) : TOk P (t.set f g) := fun B f' g' he => by
  rw [Tr.get_set] at he
  split at he
  · next e => subst e; cases he; exact h B
  · exact ht B f' g' he
theorem TOk.of {P : Program} : ∀ (l : List (Nat × XFn)), (∀ B, ∀ p ∈ l, XOk P B p.1 p.2) → TOk P (trOf l)
  | [], _ => fun B f g he => by
    have he : (Tr.nil : Tr XFn).get f = some g := he
    rw [Tr.get_nil] at he; cases he
  | p :: l, h => (TOk.of l fun B q hq => h B q (List.mem_cons_of_mem _ hq)).set fun B => h B p List.mem_cons_self
end Go.Ev
open Go Go.Proofs Go.RowKit
namespace HS
open Go.Ev
set_option maxRecDepth 1000000
def zl : List (Nat × Nat) := [(58, 32), (59, 32), (369, 256), (370, 256), (718, 2), (719, 2), (720, 32)]
theorem hm0 : Tryz.prog.follows .mixedOrders = true := by kernel_rfl
theorem hf0 : Tryz.prog.funcs.toList.all fitFn = true := by kernel_rfl
theorem hz0 : zl.all (zFits Tryz.prog.types.toList) = true := by kernel_rfl
def dl : List Nat := [204, 208, 213, 244, 286, 415, 416, 425, 480, 505]
def lk (tab : List (Nat × XFn)) : Lk := lkD Tryz.prog (Tr.ofList Tryz.prog.funcs.toList) (Tr.ofList Tryz.prog.types.toList) tab zl dl
theorem lk_ok (tab : List (Nat × XFn)) : LOk (lk tab) Tryz.prog := lkD_ok hm0 hf0 hz0
theorem zdc {P : Program} {B : Nat} {f : Nat} {g : XFn} {l : List (Nat × XFn)} (h : XOk P B f g) (hl : ∀ p ∈ l, XOk P B p.1 p.2) : ∀ p ∈ (f, g) :: l, XOk P B p.1 p.2 := fun p hp => by
  rcases List.mem_cons.1 hp with rfl | hp
  · exact h
  · exact hl p hp
theorem zrz {P : Program} {B f : Nat} {F : Fact} {l : List Fact} (h : XOk P B f F.fn) (hl : ∀ F ∈ l, XOk P B f F.fn) : ∀ G ∈ F :: l, XOk P B f G.fn := fun G hG => by
  rcases List.mem_cons.1 hG with rfl | hG
  · exact h
  · exact hl G hG
def fI (n : Nat) : AV := .int .i64 (.ofNat n)
def fI0 : AV := .int .i64 (.ofNat 0)
def fB (n : Nat) : AV := .int .u8 (.ofNat n)
def fB0 : AV := .int .u8 (.ofNat 0)
def fU (n : Nat) : AV := .int .u64 (.ofNat n)
def fU0 : AV := .int .u64 (.ofNat 0)
def byL (n N : Nat) (r : List AV) : List AV := nrecF (α := Nat) (β := List AV) (fun _ => r) (fun _ ih N => zzi (fun M => AV.int .u8 (.ofNat (Nat.mod N 256)) :: ih M) (Nat.div N 256)) n N
def rpL (n : Nat) (a : AV) (r : List AV) : List AV := nrecF (α := Unit) (β := List AV) (fun _ => r) (fun _ ih u => a :: ih u) n ()
theorem s451 (B : Nat) : XOk Tryz.prog B 451 (Hs.xTurned) := Hs.xTurned_ok B
theorem s345 (B : Nat) : XOk Tryz.prog B 345 (zzy) := zfe1 B
theorem s407 (B : Nat) : XOk Tryz.prog B 407 (zqp) := zbz B
theorem s552 (B : Nat) : XOk Tryz.prog B 552 (Tm.xTrim) := Tm.xTrim_ok B
theorem b442 : Bare Tryz.prog 442 Extern.ReflectliteType.typeOf := ⟨Tryz.f442, Tryz.func442, by kernel_rfl, by kernel_rfl, by kernel_rfl, by kernel_rfl⟩
theorem g442 : Tryz.prog.globals.size = 5 := by kernel_rfl
theorem c442 : Tryz.prog.cutTypes.find? (·.1 == "internal/reflectlite.rtype") = some ("internal/reflectlite.rtype", 619) := by kernel_rfl
theorem s442 (B : Nat) : XOk Tryz.prog B 442 (zup 5 619) := by
  have h := @zpz Tryz.prog B 442 5 619 b442 g442 ⟨_, c442⟩
  exact h
theorem b714 : Bare Tryz.prog 714 eComp := ⟨Tryz.f714, Tryz.func714, by kernel_rfl, by kernel_rfl, by kernel_rfl, by kernel_rfl⟩
theorem zok1 (w : World) : (eComp #[.agg #[.pointer (some ⟨5, 736, none⟩)]]).run Tryz.prog w = .ok (.bool true) w := by kernel_rfl
theorem c714_31 (w : World) : (eComp #[.agg #[.pointer (some ⟨5, 31, none⟩)]]).run Tryz.prog w = .ok (.bool true) w := by kernel_rfl
theorem zpk1 (w : World) : (eComp #[.agg #[.pointer (some ⟨5, 364, none⟩)]]).run Tryz.prog w = .ok (.bool true) w := by kernel_rfl
theorem s714 (B : Nat) : XOk Tryz.prog B 714 (zye 5 [(736, true), (31, true), (364, true)]) := by
  have h := @zhn Tryz.prog B 714 5 [(736, true), (31, true), (364, true)] eComp b714 (@znr Tryz.prog eComp 5 736 true _ zok1 (@znr Tryz.prog eComp 5 31 true _ c714_31 (@znr Tryz.prog eComp 5 364 true _ zpk1 (cmp_nil))))
  exact h
theorem b648 : Bare Tryz.prog 648 Extern.BytealgIndexByte.indexByte := ⟨Tryz.f648, Tryz.func648, by kernel_rfl, by kernel_rfl, by kernel_rfl, by kernel_rfl⟩
theorem s648 (B : Nat) : XOk Tryz.prog B 648 (zwf) := by
  have h := @zbp Tryz.prog B 648 b648
  exact h
theorem b632 : Bare Tryz.prog 632 Extern.BytealgCompare.compare := ⟨Tryz.f632, Tryz.func632, by kernel_rfl, by kernel_rfl, by kernel_rfl, by kernel_rfl⟩
theorem s632 (B : Nat) : XOk Tryz.prog B 632 (zok) := by
  have h := @zcv Tryz.prog B 632 b632
  exact h
def tabR : List (Nat × XFn) := [(451, Hs.xTurned), (345, zzy), (407, zqp), (552, Tm.xTrim), (442, zup 5 619), (714, zye 5 [(736, true), (31, true), (364, true)]), (648, zwf), (632, zok)]
theorem tabR_ok (B : Nat) : ∀ p ∈ tabR, XOk Tryz.prog B p.1 p.2 := zdc (s451 B) (zdc (s345 B) (zdc (s407 B) (zdc (s552 B) (zdc (s442 B) (zdc (s714 B) (zdc (s648 B) (zdc (s632 B) (fun _ h => by cases h))))))))
theorem s505 (B : Nat) : XOk Tryz.prog B 505 (xRead (lk tabR) 505) := znk1 (lk_ok tabR) (zin (tabR_ok B)) 505
def tab0 : List (Nat × XFn) := [(451, Hs.xTurned), (345, zzy), (407, zqp), (552, Tm.xTrim), (442, zup 5 619), (714, zye 5 [(736, true), (31, true), (364, true)]), (648, zwf), (632, zok), (505, xRead (lk tabR) 505)]
theorem zsz (B : Nat) : ∀ p ∈ tab0, XOk Tryz.prog B p.1 p.2 := zdc (s451 B) (zdc (s345 B) (zdc (s407 B) (zdc (s552 B) (zdc (s442 B) (zdc (s714 B) (zdc (s648 B) (zdc (s632 B) (zdc (s505 B) (fun _ h => by cases h)))))))))
def rgL (n a : Nat) (r : List AV) : List AV := nrecF (α := Nat) (β := List AV) (fun _ => r) (fun _ ih a => zzi (fun b => fI b :: ih (Nat.add b 1)) a) n a
abbrev LT := Tr XFn
def dT : Tr Unit := uTr dl
def lkt (t : LT) : Lk := lkT Tryz.prog (Tr.ofList Tryz.prog.funcs.toList) (Tr.ofList Tryz.prog.types.toList) t zl dT
theorem zre1 (t : LT) : LOk (lkt t) Tryz.prog := lkT_ok hm0 hf0 hz0
def T0 : LT := trOf tab0
abbrev LF := List Fact
def cT (l : List AV) (e z : Nat) : ABlk := .cells (.lst l) e z true false
def cF (l : List AV) (e z : Nat) : ABlk := .cells (.lst l) e z false false
def yT (n N e z : Nat) : ABlk := .cells (.byt n N) e z true false
def yF (n N e z : Nat) : ABlk := .cells (.byt n N) e z false false
def sT (i n : Nat) : AV := .sl i 0 n n true
def sF (i n : Nat) : AV := .sl i 0 n n false
def pP (i : Nat) : AV := .ptr i 0
def chk (t : LT) (f : Nat) (F : Fact) : Bool := F.ok && F.res (evF (lkt t) 1000000 (.call f F.args (hA F.pre)))
abbrev TO (t : LT) : Prop := TOk Tryz.prog t
theorem T0_ok : TO T0 := TOk.of _ zsz
def LO (f : Nat) (l : LF) : Prop := ∀ B, ∀ G ∈ l, XOk Tryz.prog B f G.fn
theorem LO0 (f : Nat) : LO f [] := fun _ _ h => by cases h
theorem stp {t : LT} {l : LF} {f : Nat} {F : Fact} (ht : TO t) (hc : chk t f F = true) (hl : LO f l) : LO f (F :: l) ∧ TO (t.set f (facts (F :: l))) := by
  unfold chk at hc
  rw [Bool.and_eq_true] at hc
  have hl' : LO f (F :: l) := fun B => zrz (fact_ok (zre1 _) (zoj ht) hc.1 (by rw [← zcr]; exact hc.2) B) (hl B)
  exact ⟨hl', ht.set fun B => zjy _ (hl' B)⟩
theorem zst {t : LT} {f : Nat} (ht : TO t) (hr : saysT (evF (lkt t) 1000000 (.call f [] H0)) = true) : (∀ B, XOk Tryz.prog B f zxg) ∧ TO (t.set f zxg) :=
  have h : ∀ B, XOk Tryz.prog B f zxg := fun B => zkd1 (zre1 _) (zoj ht) (by rw [← zcr]; exact hr)
  ⟨h, ht.set h⟩
end HS
end
