import Derived.Test.YtnkomaedmblemaaEvG2
set_option linter.unusedSimpArgs false
set_option linter.unusedVariables false
namespace Go.Ev
noncomputable section

def nodeS (L : Lk) (o : Oper) (k : K2) : K2 := match o.op with | .slice _ _ _ _ none => .ge o (dOf o.dst) k | _ => node L o false k
def compG (all : List Oper) (o : Oper) (n : K2) (k : K2) : K2 :=
  match o.guard with
  | none => n
  | some g => (match nth all g.1 with
    | some oj => (match oj.dst with
      | some d => .gd (sOf d) g.2 (dOf o.dst) n k
      | none => .sk (dOf o.dst) k)
    | none => .sk (dOf o.dst) k)
def compOps (L : Lk) (all : List Oper) (ops : List Oper) : K2 := lrec (β := K2) .done (fun o _ ih => compG all o (nodeS L o ih) ih) ops
def isStore (o : Op) : Bool := match o with | .store _ _ _ => true | _ => false
def nodeD (L : Lk) (x : Ent) (pre : List Ent) (k : K2) : K2 :=
  match watched L x pre with
  | false => node L x.2.2 false k
  | true => (match isStore x.2.2.op with | true => .gw x pre (dOf x.2.2.dst) k | false => node L x.2.2 true k)
def compDraw (L : Lk) (all : List Oper) (pl : List Ent) : List Ent → K2 :=
  lrec (β := List Ent → K2) (fun _ => .done) (fun x _ ih pre => compG all x.2.2 (nodeD L x pre (ih (x :: pre))) (ih (x :: pre))) pl
def compReg (L : Lk) (ops : List Oper) (draw : Bool) : K2 :=
  match draw with
  | false => compOps L ops ops
  | true => (match plan L ops with | some pl => compDraw L ops pl [] | none => .fail)

section
variable {L : Lk} {rec : Rec} {kk : Tr AV → AH → Option Out}
theorem guardB_eq (want : Bool) (o : Option AV) : guardB want o = (match o with | some (.bool b) => (match b, want with | true, true => true | false, false => true | _, _ => false) | _ => false) := by
  cases o with
  | none => rfl
  | some v => cases v <;> first | rfl | (next b => cases b <;> cases want <;> rfl)
theorem run_gd (s : S2) (want : Bool) (d : Option S2) (a b : K2) (T : Tr AV) (H : AH) :
    runK L rec kk (.gd s want d a b) T H = brec (runK L rec kk b (putS d .undef T) H) (runK L rec kk a T H) (guardB want (s.get T)) := rfl
theorem run_sk (d : Option S2) (k : K2) (T : Tr AV) (H : AH) : runK L rec kk (.sk d k) T H = runK L rec kk k (putS d .undef T) H := rfl
theorem run_compG (all : List Oper) (o : Oper) (n k : K2) (T : Tr AV) (H : AH) :
    runK L rec kk (compG all o n k) T H = (match wantedA all T o with | true => runK L rec kk n T H | false => runK L rec kk k (putT T o.dst .undef) H) := by
  unfold compG wantedA
  cases hg : o.guard with
  | none => rfl
  | some g =>
    obtain ⟨j, want⟩ := g
    simp only
    cases hn : nth all j with
    | none => simp only; rw [run_sk, putS_dOf]
    | some oj =>
      simp only
      cases hd : oj.dst with
      | none => simp only; rw [run_sk, putS_dOf]
      | some d =>
        simp only
        rw [run_gd, sOf_get, putS_dOf, guardB_eq]
        cases T.get d with
        | none => rfl
        | some v => cases v <;> first | rfl | (next b => cases b <;> cases want <;> rfl)

theorem evEnd_other {T : Tr AV} {o : Oper} {H : AH} (h : ∀ t x lo hi, o.op ≠ .slice t x lo hi none) : evEnd L T o H = none := by
  unfold evEnd
  split
  · next t x lo hi ho => exact absurd ho (h t x lo hi)
  · rfl
theorem run_node (o : Oper) (k : K2) (T : Tr AV) (H : AH) : runK L rec kk (node L o false k) T H = (match evOper L rec T o H with | some r => runK L rec kk k (putT T o.dst r.1) r.2 | none => none) := by
  cases hl : isHeavy L o with
  | false =>
    rw [node_light o false _ T H hl]
    unfold lightSem
    cases he : evOper L rec T o H with
    | none => rfl
    | some r => simp only; rw [light_same hl he]
  | true =>
    rw [node_heavy o false _ T H hl]
    rfl
theorem run_nodeS (o : Oper) (k : K2) (T : Tr AV) (H : AH) : runK L rec kk (nodeS L o k) T H = (match evOperS L rec T o H with | some r => runK L rec kk k (putT T o.dst r.1) r.2 | none => none) := by
  unfold nodeS
  split
  · show orec none (fun r => Prod.rec (motive := fun _ => Option Out) (fun v H' => runK L rec kk k (putS (dOf o.dst) v T) H') r) (evOperS L rec T o H) = _
    cases evOperS L rec T o H with
    | none => rfl
    | some r => show runK L rec kk k (putS (dOf o.dst) r.1 T) r.2 = _; rw [putS_dOf]
  · next hop =>
    rw [run_node]
    unfold evOperS
    cases evOper L rec T o H with
    | some r => rfl
    | none => simp only; rw [evEnd_other (fun t x lo hi h => hop t x lo hi h)]

theorem run_compOps (all : List Oper) (ops : List Oper) : ∀ (T : Tr AV) (H : AH), runK L rec kk (compOps L all ops) T H = (match evOps L rec all ops T H with | some r => kk r.1 r.2 | none => none) := by
  induction ops with
  | nil => intro T H; rfl
  | cons o ops ih =>
    intro T H
    show runK L rec kk (compG all o (nodeS L o (compOps L all ops)) (compOps L all ops)) T H = match (match wantedA all T o with
      | true => (match evOperS L rec T o H with
        | some r => evOps L rec all ops (putT T o.dst r.1) r.2
        | none => none)
      | false => evOps L rec all ops (putT T o.dst .undef) H) with | some r => kk r.1 r.2 | none => none
    rw [run_compG]
    cases wantedA all T o with
    | false => simp only; exact ih _ _
    | true =>
      simp only
      rw [run_nodeS]
      cases evOperS L rec T o H with
      | none => rfl
      | some r => simp only; rw [ih]

theorem far_store {L : Lk} {T : Tr AV} {x : Ent} {pre : List Ent} (h : isStore x.2.2.op = false) : far L T x pre = false := by
  unfold far
  split
  · next ho => rw [ho] at h; cases h
  · rfl
theorem store_heavy {L : Lk} {o : Oper} (h : isStore o.op = true) : isHeavy L o = true := by
  unfold isStore at h
  split at h
  · next ho => unfold isHeavy kindOf; rw [ho]; rfl
  · cases h
theorem run_nodeD_light (x : Ent) (pre : List Ent) (k : K2) (T : Tr AV) (H : AH) (hl : isHeavy L x.2.2 = false) : runK L rec kk (nodeD L x pre k) T H = lightSem L rec kk x.2.2 k T H := by
  unfold nodeD
  cases watched L x pre with
  | false => exact node_light _ _ _ T H hl
  | true =>
    simp only
    cases hs : isStore x.2.2.op with
    | false => exact node_light _ _ _ T H hl
    | true => rw [store_heavy hs] at hl; cases hl
theorem run_nodeD_heavy (x : Ent) (pre : List Ent) (k : K2) (T : Tr AV) (H : AH) (hl : isHeavy L x.2.2 = true) : runK L rec kk (nodeD L x pre k) T H = (match watched L x pre with
          | false => (match evOper L rec T x.2.2 H with
            | some r => runK L rec kk k (putT T x.2.2.dst r.1) r.2
            | none => none)
          | true => match far L T x pre with
            | true => (match evOper L rec T x.2.2 H with
              | some r => runK L rec kk k (putT T x.2.2.dst r.1) r.2
              | none => none)
            | false => (match evOper L rec T x.2.2 { H with lo := H.next } with
              | some r => runK L rec kk k (putT T x.2.2.dst r.1) { r.2 with lo := H.lo }
              | none => none)) := by
  unfold nodeD
  cases watched L x pre with
  | false => exact node_heavy _ _ _ T H hl
  | true =>
    simp only
    cases hs : isStore x.2.2.op with
    | false => rw [far_store hs]; exact node_heavy _ _ _ T H hl
    | true =>
      show brec
        (orec none (fun r => Prod.rec (motive := fun _ => Option Out) (fun v H' => runK L rec kk k (putS (dOf x.2.2.dst) v T) (hOut true H H')) r) (evOper L rec T x.2.2 (hIn true H)))
        (orec none (fun r => Prod.rec (motive := fun _ => Option Out) (fun v H' => runK L rec kk k (putS (dOf x.2.2.dst) v T) H') r) (evOper L rec T x.2.2 H)) (far L T x pre) = _
      cases far L T x pre with
      | true =>
        simp only [brec_t]
        cases evOper L rec T x.2.2 H with
        | none => rfl
        | some r => show runK L rec kk k (putS (dOf x.2.2.dst) r.1 T) r.2 = _; rw [putS_dOf]
      | false =>
        simp only [brec_f]
        show orec none _ (evOper L rec T x.2.2 { H with lo := H.next }) = _
        cases evOper L rec T x.2.2 { H with lo := H.next } with
        | none => rfl
        | some r => show runK L rec kk k (putS (dOf x.2.2.dst) r.1 T) { r.2 with lo := H.lo } = _; rw [putS_dOf]

theorem run_compDraw (all : List Oper) (pl : List Ent) : ∀ (pre : List Ent) (T : Tr AV) (H : AH), runK L rec kk (compDraw L all pl pre) T H = (match evDraw L rec all pl pre T H with | some r => kk r.1 r.2 | none => none) := by
  induction pl with
  | nil => intro pre T H; rfl
  | cons x pl ih =>
    intro pre T H
    show runK L rec kk (compG all x.2.2 (nodeD L x pre (compDraw L all pl (x :: pre))) (compDraw L all pl (x :: pre))) T H = match (match wantedA all T x.2.2 with
      | false => evDraw L rec all pl (x :: pre) (putT T x.2.2.dst .undef) H
      | true => match isHeavy L x.2.2 with
        | false => (match evOper L rec T x.2.2 H with
          | some r => evDraw L rec all pl (x :: pre) (putT T x.2.2.dst r.1) H
          | none => none)
        | true => match watched L x pre with
          | false => (match evOper L rec T x.2.2 H with
            | some r => evDraw L rec all pl (x :: pre) (putT T x.2.2.dst r.1) r.2
            | none => none)
          | true => match far L T x pre with
            | true => (match evOper L rec T x.2.2 H with
              | some r => evDraw L rec all pl (x :: pre) (putT T x.2.2.dst r.1) r.2
              | none => none)
            | false => (match evOper L rec T x.2.2 { H with lo := H.next } with
              | some r => evDraw L rec all pl (x :: pre) (putT T x.2.2.dst r.1) { r.2 with lo := H.lo }
              | none => none)) with | some r => kk r.1 r.2 | none => none
    rw [run_compG]
    cases wantedA all T x.2.2 with
    | false => simp only; exact ih _ _ _
    | true =>
      simp only
      cases hl : isHeavy L x.2.2 with
      | false =>
        rw [run_nodeD_light _ _ _ T H hl]
        unfold lightSem
        cases he : evOper L rec T x.2.2 H with
        | none => rfl
        | some r => simp only; rw [ih]
      | true =>
        rw [run_nodeD_heavy _ _ _ T H hl]
        cases watched L x pre with
        | false =>
          simp only
          cases he : evOper L rec T x.2.2 H with
          | none => rfl
          | some r => simp only; rw [ih]
        | true =>
          simp only
          cases far L T x pre with
          | true =>
            simp only
            cases he : evOper L rec T x.2.2 H with
            | none => rfl
            | some r => simp only; rw [ih]
          | false =>
            simp only
            cases he : evOper L rec T x.2.2 { H with lo := H.next } with
            | none => rfl
            | some r => simp only; rw [ih]

theorem run_compReg (ops : List Oper) (draw : Bool) (T : Tr AV) (H : AH) : runK L rec kk (compReg L ops draw) T H = (match evRegion L rec ops draw T H with | some r => kk r.1 r.2 | none => none) := by
  unfold compReg evRegion
  cases draw with
  | false => exact run_compOps ops ops T H
  | true =>
    simp only
    cases plan L ops with
    | none => rfl
    | some pl => exact run_compDraw ops pl [] T H
end

/-! ### Code -/
inductive C2 where
  | skip
  | reg (k : K2)
  | seq (a b : C2)
  | cond (x : O2) (a b : C2)
  | block (id : Nat) (a : C2)
  | loop (body : Code)
  | rng (f : O2) (ps : List Tmp) (assign body : Code)
  | exit (id : Nat)
  | scope (a : C2)
  | goto (l : Nat)
  | ret
  | bad
def comp (L : Lk) (c : Code) : C2 :=
  crec (β := C2) .skip (fun _ ops draw => .reg (compReg L ops.toList draw)) (fun _ _ a b => .seq a b)
    (fun x _ _ a b => orec .bad (fun x => .cond x a b) (opd x)) (fun id _ a => .block id a) (fun body _ => .loop body)
    (fun f ps assign body _ _ => orec .bad (fun x => .rng x ps.toList assign body) (opd f)) (fun id => .exit id) (fun _ a => .scope a) (fun _ => .skip) (fun l => .goto l) .ret (fun _ => .bad) c

def exRec {β : Type} (n : β) (x : Nat → β) (r : β) (g : Nat → β) (e : Ex) : β := Ex.rec (motive := fun _ => β) n x r g e
def outRec {β : Type} (f : Ex → Tr AV → AH → β) (o : Out) : β := Out.rec (motive := fun _ => β) (fun e T H => f e T H) o
abbrev Kont := Ex → Tr AV → AH → Option Out
def evC (L : Lk) (rec : Rec) (c : C2) : Kont → Tr AV → AH → Option Out :=
  C2.rec (motive := fun _ => Kont → Tr AV → AH → Option Out)
    (fun K T H => K .normal T H)
    (fun k K T H => runK L rec (fun T H => K .normal T H) k T H)
    (fun _ _ iha ihb K T H => iha (fun ex T H => exRec (ihb K T H) (fun id => K (.exit id) T H) (K .ret T H) (fun l => K (.goto l) T H) ex) T H)
    (fun x _ _ iha ihb K T H => avBool none (fun b => brec (ihb K T H) (iha K T H) b) (x.ev T))
    (fun id _ ih K T H => ih (fun ex T H => exRec (K .normal T H) (fun i => brec (K (.exit i) T H) (K .normal T H) (Nat.beq i id)) (K .ret T H) (fun l => K (.goto l) T H) ex) T H)
    (fun body K T H => orec none (fun o => outRec K o) (rec (.loop body T H)))
    (fun f ps assign body K T H => orec none (fun o => outRec K o) (rec (.range (f.ev T) ps assign body T H)))
    (fun id K T H => K (.exit id) T H)
    (fun _ ih K T H => ih (fun ex T H => exRec (K .normal T H) (fun i => K (.exit i) T H) (K .ret T H) (fun _ => none) ex) T H)
    (fun l K T H => K (.goto l) T H)
    (fun K T H => K .ret T H)
    (fun _ _ _ => none) c

theorem evC_eq (L : Lk) (rec : Rec) (c : Code) : ∀ (K : Kont) (T : Tr AV) (H : AH), evC L rec (comp L c) K T H = (match evCode L rec c T H with | some o => K o.ex o.T o.H | none => none) := by
  induction c with
  | skip => intro K T H; rfl
  | region i ops d =>
    intro K T H
    show runK L rec (fun T H => K .normal T H) (compReg L ops.toList d) T H = match (match evRegion L rec ops.toList d T H with | some r => some (⟨.normal, r.1, r.2⟩ : Out) | none => none) with | some o => K o.ex o.T o.H | none => none
    rw [run_compReg]
    cases evRegion L rec ops.toList d T H <;> rfl
  | seq a b iha ihb =>
    intro K T H
    show evC L rec (comp L a) (fun ex T H => exRec (evC L rec (comp L b) K T H) (fun id => K (.exit id) T H) (K .ret T H) (fun l => K (.goto l) T H) ex) T H = match (match evCode L rec a T H with
      | some o => (match o.ex with | .normal => evCode L rec b o.T o.H | _ => some o)
      | none => none) with | some o => K o.ex o.T o.H | none => none
    rw [iha]
    cases evCode L rec a T H with
    | none => rfl
    | some o =>
      obtain ⟨ex, T1, H1⟩ := o
      cases ex with
      | normal => exact ihb K T1 H1
      | _ => rfl
  | cond x a b iha ihb =>
    intro K T H
    show evC L rec (orec C2.bad (fun x => .cond x (comp L a) (comp L b)) (opd x)) K T H = match (match opnd T x with
      | some (.bool true) => evCode L rec a T H
      | some (.bool false) => evCode L rec b T H
      | _ => none) with | some o => K o.ex o.T o.H | none => none
    rw [opnd_opd]
    cases opd x with
    | none => rfl
    | some y =>
      show avBool none (fun c => brec (evC L rec (comp L b) K T H) (evC L rec (comp L a) K T H) c) (y.ev T) = _
      simp only
      cases y.ev T <;> first
        | rfl
        | (next c => cases c <;> first | exact iha K T H | exact ihb K T H)
  | block id a ih =>
    intro K T H
    show evC L rec (comp L a) (fun ex T H => exRec (K .normal T H) (fun i => brec (K (.exit i) T H) (K .normal T H) (Nat.beq i id)) (K .ret T H) (fun l => K (.goto l) T H) ex) T H = match (match evCode L rec a T H with
      | some o => (match o.ex with
        | .exit i => (match Nat.beq i id with | true => some (⟨.normal, o.T, o.H⟩ : Out) | false => some o)
        | _ => some o)
      | none => none) with | some o => K o.ex o.T o.H | none => none
    rw [ih]
    cases evCode L rec a T H with
    | none => rfl
    | some o =>
      obtain ⟨ex, T1, H1⟩ := o
      cases ex with
      | exit i =>
        show brec (K (.exit i) T1 H1) (K .normal T1 H1) (Nat.beq i id) = _
        simp only
        cases Nat.beq i id <;> rfl
      | _ => rfl
  | loop body ih =>
    intro K T H
    show orec none (fun o => outRec K o) (rec (.loop body T H)) = match rec (.loop body T H) with | some o => K o.ex o.T o.H | none => none
    cases rec (.loop body T H) <;> rfl
  | rangeFunc f ps assign body _ _ =>
    intro K T H
    show evC L rec (orec C2.bad (fun x => .rng x ps.toList assign body) (opd f)) K T H = match (match opnd T f with | some g => rec (.range g ps.toList assign body T H) | none => none) with | some o => K o.ex o.T o.H | none => none
    rw [opnd_opd]
    cases opd f with
    | none => rfl
    | some y =>
      show orec none (fun o => outRec K o) (rec (.range (y.ev T) ps.toList assign body T H)) = _
      simp only
      cases rec (.range (y.ev T) ps.toList assign body T H) <;> rfl
  | exit id => intro K T H; rfl
  | scope a ih =>
    intro K T H
    show evC L rec (comp L a) (fun ex T H => exRec (K .normal T H) (fun i => K (.exit i) T H) (K .ret T H) (fun _ => none) ex) T H = match (match evCode L rec a T H with
      | some o => (match o.ex with | .goto _ => none | _ => some o)
      | none => none) with | some o => K o.ex o.T o.H | none => none
    rw [ih]
    cases evCode L rec a T H with
    | none => rfl
    | some o =>
      obtain ⟨ex, T1, H1⟩ := o
      cases ex <;> rfl
  | label l => intro K T H; rfl
  | goto l => intro K T H; rfl
  | ret => intro K T H; rfl
  | refuse w => intro K T H; rfl

/-! ### Functions -/
structure F2 where
  nt : Nat
  code : C2
  res : List ResultVar
def fnF (L : Lk) (f : FuncId) : Option F2 :=
  match L.func f with
  | none => none
  | some fn => match fn.body with
    | none => none
    | some c => some ⟨fn.ntmps, comp L c, fn.results.toList⟩
def runC (L : Lk) (rec : Rec) (c : Code) (T : Tr AV) (H : AH) : Option Out := evC L rec (comp L c) (fun ex T H => some ⟨ex, T, H⟩) T H
theorem runC_eq (L : Lk) (rec : Rec) (c : Code) (T : Tr AV) (H : AH) : runC L rec c T H = evCode L rec c T H := by
  unfold runC; rw [evC_eq]; cases evCode L rec c T H <;> rfl
def fin2 (L : Lk) (res : List ResultVar) (T : Tr AV) (H : AH) : Option Out :=
  match evResults L T H res with
  | some vs => (match vs with | [v] => some (out1 v H) | vs => some (out1 (.tup vs) H))
  | none => none
def callF (L : Lk) (rec : Rec) (f : FuncId) (args : List AV) (H : AH) : Option Out :=
  orec none (fun F => F2.rec (motive := fun _ => Option Out) (fun nt code res =>
    brec none (evC L rec code (fun ex T H => exRec (fin2 L res T H) (fun _ => none) (fin2 L res T H) (fun _ => none) ex) (setArgs args 0 .nil) H) (Nat.ble (len args) nt)) F) (fnF L f)

/-- One step of the evaluation of a request. -/
def stepF (L : Lk) (rec : Rec) (r : Req) : Option Out :=
  match r with
  | .call f args H => orec (callF L rec f args H) (fun g => orec none (fun p => some (out1 p.1 p.2)) (g args H)) (L.ext f)
  | .loop body T H => evC L rec (comp L body) (fun ex T H => exRec (rec (.loop body T H)) (fun id => some ⟨.exit id, T, H⟩) (some ⟨.ret, T, H⟩) (fun l => some ⟨.goto l, T, H⟩) ex) T H
  | .round l args H => (match Nat.ble H.lo l, H.get l with
    | true, some (.loop .ready none T n ps assign body) => (match Nat.beq (len args) (len ps) with
      | false => none
      | true => match runC L rec assign (setParams (ps.zip args) T) H with
        | none => none
        | some o1 => match o1.ex with
          | .normal => (match o1.H.get l with
            | some (.loop .ready none T2 n2 ps2 as2 bd2) => (match runC L rec body o1.T (o1.H.put l (.loop .busy none T2 n2 ps2 as2 bd2)) with
              | none => none
              | some o2 => match o2.H.get l with
                | some (.loop .busy _ T n ps assign body) => (match o2.ex with
                  | .normal => some (out1 (.bool true) (o2.H.put l (.loop .ready none T n ps assign body)))
                  | .exit id => some (out1 (.bool false) (o2.H.put l (.loop .done (some (.exit id)) T n ps assign body)))
                  | .ret => some (out1 (.bool false) (o2.H.put l (.loop .done (some .ret) T n ps assign body)))
                  | .goto _ => none)
                | _ => none)
            | _ => none)
          | _ => none)
    | _, _ => none)
  | .range g ps assign body T H =>
    (match evCallFn g [.yld H.next] with
    | some (.enter f args) => (match L.func f with
      | none => none
      | some fn => match fn.body with
        | none => none
        | some _ => match rec (.call f args (H.new (.loop .ready none T 0 ps assign body))) with
          | none => none
          | some o => match Nat.ble o.H.lo H.next, o.H.get H.next with
            | true, some (.loop st pend _ _ _ _ _) => (match st with
              | .busy => none
              | _ => match pend with
                | none => some ⟨.normal, T, o.H.put H.next .defd⟩
                | some (.exit id) => some ⟨.exit id, T, o.H.put H.next .defd⟩
                | some .ret => some ⟨.ret, T, o.H.put H.next .defd⟩
                | _ => none)
            | _, _ => none)
    | _ => none)
def evF (L : Lk) (fuel : Nat) : Rec := nrecF (α := Req) (β := Option Out) (fun _ => none) (fun _ rec r => stepF L rec r) fuel

theorem callF_eq (L : Lk) (rec : Rec) (f : FuncId) (args : List AV) (H : AH) : callF L rec f args H = (match L.func f with
          | none => none
          | some fn => match fn.body with
            | none => none
            | some c => match Nat.ble (len args) fn.ntmps with
              | false => none
              | true => match evCode L rec c (setArgs args 0 .nil) H with
                | none => none
                | some o => match o.ex with
                  | .ret | .normal => (match evResults L o.T o.H fn.results.toList with
                    | some vs => (match vs with | [v] => some (out1 v o.H) | vs => some (out1 (.tup vs) o.H))
                    | none => none)
                  | _ => none) := by
  unfold callF fnF
  cases L.func f with
  | none => rfl
  | some fn =>
    simp only
    cases fn.body with
    | none => rfl
    | some c =>
      show brec none (evC L rec (comp L c) (fun ex T H => exRec (fin2 L fn.results.toList T H) (fun _ => none) (fin2 L fn.results.toList T H) (fun _ => none) ex) (setArgs args 0 .nil) H) (Nat.ble (len args) fn.ntmps) = _
      simp only
      cases Nat.ble (len args) fn.ntmps with
      | false => rfl
      | true =>
        simp only [brec_t]
        rw [evC_eq]
        cases evCode L rec c (setArgs args 0 .nil) H with
        | none => rfl
        | some o =>
          obtain ⟨ex, T1, H1⟩ := o
          cases ex <;> rfl

theorem evF_eq (L : Lk) (n : Nat) : evF L n = evReq L n := by
  induction n with
  | zero => rfl
  | succ n ih =>
    funext r
    show stepF L (evF L n) r = evReq L (n + 1) r
    rw [ih]
    cases r with
    | call f args H =>
      show orec (callF L (evReq L n) f args H) (fun g => orec none (fun p => some (out1 p.1 p.2)) (g args H)) (L.ext f) = evReq L (n + 1) (.call f args H)
      unfold evReq
      rw [nrecF_succ]
      simp only
      cases L.ext f with
      | none => exact callF_eq L _ f args H
      | some g => show orec none _ (g args H) = _; simp only; cases g args H <;> rfl
    | loop body T H =>
      show evC L (evReq L n) (comp L body) _ T H = evReq L (n + 1) (.loop body T H)
      rw [evC_eq]
      show _ = (match evCode L (evReq L n) body T H with
        | none => none
        | some o => match o.ex with
          | .normal => evReq L n (.loop body o.T o.H)
          | _ => some o)
      cases evCode L (evReq L n) body T H with
      | none => rfl
      | some o => obtain ⟨ex, T1, H1⟩ := o; cases ex <;> rfl
    | round l args H => simp only [stepF, runC_eq]; rfl
    | range g ps assign body T H => rfl

end
end Go.Ev
