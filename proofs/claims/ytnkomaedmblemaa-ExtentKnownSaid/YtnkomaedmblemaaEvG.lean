import Derived.Test.YtnkomaedmblemaaEvF
import Derived.Test.YtnkomaedmblemaaEvDraw1
set_option linter.unusedSimpArgs false
set_option linter.unusedVariables false
namespace Go.Ev
noncomputable section

/-! ### Slots -/
inductive S2 where
  | lo (x y : Dg)
  | hi (k : Nat)
inductive O2 where
  | lo (x y : Dg)
  | hi (k : Nat)
  | con (v : AV)
def dflt (o : Option AV) : AV := orec AV.undef (fun v => v) o
def sOf (k : Nat) : S2 := brec (.hi k) (.lo (dg (Nat.div k 8)) (dg (Nat.mod k 8))) (Nat.blt k 64)
def S2.get (s : S2) : Tr AV → Option AV := S2.rec (motive := fun _ => Tr AV → Option AV) (fun x y T => Tr.getLo x y T) (fun k T => T.get k) s
def S2.set (s : S2) : AV → Tr AV → Tr AV := S2.rec (motive := fun _ => AV → Tr AV → Tr AV) (fun x y v T => Tr.setLo x y v T) (fun k v T => T.set k v) s
def O2.ev (o : O2) : Tr AV → AV := O2.rec (motive := fun _ => Tr AV → AV) (fun x y T => dflt (Tr.getLo x y T)) (fun k T => dflt (T.get k)) (fun v _ => v) o
def opd (o : Operand) : Option O2 :=
  match o with
  | .tmp t => some (brec (.hi t) (.lo (dg (Nat.div t 8)) (dg (Nat.mod t 8))) (Nat.blt t 64))
  | .const v => orec none (fun v => some (.con v)) (ofValue v)
  | .global _ => none
  | .func f => some (.con (.fn (.func f) [] []))
theorem sOf_get (k : Nat) (T : Tr AV) : (sOf k).get T = T.get k := by
  unfold sOf
  by_cases h : k < 64
  · rw [Tr.blt_t h, Tr.get_lo _ h]; rfl
  · rw [Tr.blt_f h]; rfl
theorem sOf_set (k : Nat) (v : AV) (T : Tr AV) : (sOf k).set v T = T.set k v := by
  unfold sOf
  by_cases h : k < 64
  · rw [Tr.blt_t h, Tr.set_lo _ _ h]; rfl
  · rw [Tr.blt_f h]; rfl
theorem opnd_opd (T : Tr AV) (o : Operand) : opnd T o = (match opd o with | some x => some (x.ev T) | none => none) := by
  cases o with
  | tmp t =>
    show (match T.get t with | some v => some v | none => some AV.undef) = some (O2.ev (brec _ _ (Nat.blt t 64)) T)
    by_cases h : t < 64
    · rw [Tr.blt_t h]
      show _ = some (dflt (Tr.getLo (dg (t / 8)) (dg (t % 8)) T))
      rw [← Tr.get_lo _ h]
      cases T.get t <;> rfl
    · rw [Tr.blt_f h]
      show _ = some (dflt (T.get t))
      cases T.get t <;> rfl
  | const v =>
    show ofValue v = match orec none (fun v => some (O2.con v)) (ofValue v) with | some x => some (x.ev T) | none => none
    cases ofValue v <;> rfl
  | global g => rfl
  | func f => rfl

/-! ### The heap -/
def hGet (H : AH) (i : Nat) : Option ABlk := lrec (β := Option ABlk) (H.tree.get i) (fun _ _ _ => H.get i) H.hide
theorem hGet_eq (H : AH) (i : Nat) : hGet H i = H.get i := by
  unfold hGet
  cases h : H.hide with
  | nil => show H.tree.get i = _; unfold AH.get AH.vis; rw [h]; rfl
  | cons r l => rfl
def blkCells {β : Type} (n : β) (f : List AV → TypeId → Nat → Bool → Bool → β) (b : ABlk) : β :=
  ABlk.rec (motive := fun _ => β) (fun vs e z op ro => f vs e z op ro) (fun _ _ => n) (fun _ _ _ _ _ _ _ => n) n (fun _ _ => n) b
def hPut (H : AH) (i : Nat) (b : ABlk) : AH := AH.rec (motive := fun _ => AH) (fun tree next lo hide fz => ⟨Tr.set tree i b, next, lo, hide, fz⟩) H
theorem hPut_eq (H : AH) (i : Nat) (b : ABlk) : hPut H i b = H.put i b := by cases H; rfl
def forceN {β : Type} (f : Nat → β) (n : Nat) : β := Nat.rec (motive := fun _ => β) (f 0) (fun p _ => f (Nat.succ p)) n
theorem forceN_eq {β : Type} (f : Nat → β) (n : Nat) : forceN f n = f n := by cases n <;> rfl
def hNew (b : ABlk) (K : Nat → AH → Option (AV × AH)) (H : AH) : Option (AV × AH) :=
  AH.rec (motive := fun _ => Option (AV × AH)) (fun tree next lo hide fz => forceN (fun n => K n ⟨Tr.set tree n b, Nat.succ n, lo, hide, fz⟩) next) H
theorem hNew_eq (b : ABlk) (K : Nat → AH → Option (AV × AH)) (H : AH) : hNew b K H = K H.next (H.new b) := by
  cases H; unfold hNew; show forceN _ _ = _; rw [forceN_eq]; rfl

def nthF {α : Type} (l : List α) : Nat → Option α :=
  lrec (β := Nat → Option α) (fun _ => none) (fun a _ ih i => zrec (some a) (fun j => ih j) i) l
theorem nthF_eq {α : Type} (l : List α) : ∀ i, nthF l i = nth l i := by
  induction l with
  | nil => intro i; rfl
  | cons a l ih => intro i; cases i with | zero => rfl | succ j => exact ih j
def setNth {α : Type} (l : List α) : Nat → α → Option (List α) :=
  lrec (β := Nat → α → Option (List α)) (fun _ _ => none) (fun a l ih i v => zrec (some (v :: l)) (fun j => orec none (fun l' => some (a :: l')) (ih j v)) i) l
theorem setNth_eq {α : Type} (l : List α) (v : α) : ∀ i, setNth l i v = overAt [v] l i := by
  induction l with
  | nil => intro i; cases i <;> rfl
  | cons a l ih =>
    intro i
    cases i with
    | zero => rfl
    | succ j =>
      show orec none (fun l' => some (a :: l')) (setNth l j v) = (match overAt [v] l j with | some l' => some (a :: l') | none => none)
      rw [ih]
      cases overAt [v] l j <;> rfl
def read1F (H : AH) (i o : Nat) : Option AV := orec none (fun b => blkCells none (fun vs _ _ _ _ => nthF vs o) b) (hGet H i)
theorem read1F_eq (H : AH) (i o : Nat) : read1F H i o = H.read1 i o := by
  unfold read1F AH.read1 AH.row
  rw [hGet_eq]
  cases H.get i with
  | none => rfl
  | some b => cases b <;> first | rfl | exact nthF_eq _ _
def readF (H : AH) (i o n : Nat) : Option (List AV) := orec none (fun b => blkCells none (fun vs _ _ _ _ => sliceN vs o n) b) (hGet H i)
theorem readF_eq (H : AH) (i o n : Nat) : readF H i o n = H.read i o n := by
  unfold readF AH.read AH.row
  rw [hGet_eq]
  cases H.get i with
  | none => rfl
  | some b => cases b <;> rfl
def write1F (H : AH) (i o : Nat) (v : AV) : Option AH :=
  brec none (orec none (fun b => blkCells none (fun vs e z op ro => brec (avOne none (orec none (fun vs' => some (hPut H i (.cells vs' e z op ro))) (setNth vs o v)) v) none ro) b) (hGet H i)) (Nat.ble H.lo i)
theorem all_one (v : AV) : [v].all AV.oneCell = AV.oneCell v := by simp
theorem write1F_eq (H : AH) (i o : Nat) (v : AV) : write1F H i o v = H.write i o [v] := by
  unfold write1F AH.write
  rw [hGet_eq]
  cases Nat.ble H.lo i with
  | false => rfl
  | true =>
    show orec none _ (H.get i) = _
    cases H.get i with
    | none => rfl
    | some b =>
      cases b with
      | cells vs e z op ro =>
        cases ro with
        | true => rfl
        | false =>
          show avOne none (orec none _ (setNth vs o v)) v = _
          simp only [all_one]
          rw [setNth_eq]
          simp only [hPut_eq]
          cases v <;> (cases overAt _ vs o <;> rfl)
      | _ => rfl

/-! ### Single operations -/
def ld1 (a : AV) (H : AH) : Option AV := avPtr none (fun i o => read1F H i o) a
def ldN (s : Nat) (a : AV) (H : AH) : Option AV := avPtr none (fun i o => orec none (fun l => some (.agg l)) (readF H i o s)) a
theorem ld1_eq {L : Lk} {t : TypeId} (h : L.isAgg t = some false) (a : AV) (H : AH) : ld1 a H = evLoad L t a H := by
  cases a <;> try rfl
  unfold evLoad; rw [h]; exact read1F_eq _ _ _
theorem ldN_eq {L : Lk} {t : TypeId} {s : Nat} (h : L.isAgg t = some true) (hs : L.size t = some s) (a : AV) (H : AH) : ldN s a H = evLoad L t a H := by
  cases a <;> try rfl
  unfold evLoad; rw [h, hs]
  show orec none _ (readF H _ _ s) = _
  rw [readF_eq]
  simp only
  cases AH.read H _ _ s <;> rfl
def st1 (L : Lk) (t : TypeId) (a v : AV) (H : AH) : Option AH := avPtr none (fun i o => avOne (evStore L t a v H) (write1F H i o v) v) a
theorem st1_eq {L : Lk} {t : TypeId} (hs : L.size t = some 1) (a v : AV) (H : AH) : st1 L t a v H = evStore L t a v H := by
  cases a <;> try rfl
  next i o =>
  cases v <;> first
    | rfl
    | (show write1F H i o _ = _
       unfold evStore; rw [hs, write1F_eq]; rfl)
def ixS (z : Nat) (x ix : AV) : Option AV :=
  avSl none (fun i o n _ _ => avInt none (fun _ j => irec (fun j => brec none (some (.ptr i (Nat.add o (Nat.mul j z)))) (Nat.blt j n)) (fun _ => none) j) ix) x
def ixA (n z : Nat) (x ix : AV) : Option AV :=
  avPtr none (fun i o => avInt none (fun _ j => irec (fun j => brec none (some (.ptr i (Nat.add o (Nat.mul j z)))) (Nat.blt j n)) (fun _ => none) j) ix) x
theorem ixS_eq {L : Lk} {t e : TypeId} {z : Nat} (ht : L.under t = some (.slice e)) (hz : L.size e = some z) (x ix : AV) : ixS z x ix = evIndexAddr L t x ix := by
  unfold evIndexAddr
  rw [ht]
  cases ix with
  | int k n =>
    cases n with
    | ofNat j =>
      cases x <;> try rfl
      next i o len c op =>
      simp only [natOf, hz]
      show brec none (some (AV.ptr i (o + j * z))) (Nat.blt j len) = _
      cases Nat.blt j len <;> rfl
    | negSucc j => cases x <;> rfl
  | _ => cases x <;> rfl
theorem ixA_eq {L : Lk} {t e : TypeId} {n z : Nat} (ht : L.under t = some (.array n e)) (hz : L.size e = some z) (x ix : AV) : ixA n z x ix = evIndexAddr L t x ix := by
  unfold evIndexAddr
  rw [ht]
  cases ix with
  | int k m =>
    cases m with
    | ofNat j =>
      cases x <;> try rfl
      next i o =>
      simp only [natOf, hz]
      show brec none (some (AV.ptr i (o + j * z))) (Nat.blt j n) = _
      cases Nat.blt j n <;> rfl
    | negSucc j => cases x <;> rfl
  | _ => cases x <;> rfl
def fa (off : Nat) (x : AV) : Option AV := avPtr none (fun i o => some (.ptr i (Nat.add o off))) x
theorem fa_eq {L : Lk} {s : TypeId} {f : Nat} {fields : Array Field} {fd : Field} {z : Nat} (hs : L.under s = some (.struct fields)) (hf : nth fields.toList f = some fd) (hz : L.size fd.type = some z) (h0 : Nat.beq z 0 = false) (x : AV) :
    fa fd.offset x = evFieldAddr L s x f := by
  cases x <;> try rfl
  unfold evFieldAddr
  simp only [hs, hf, hz, h0]
  rfl
def alF (z : List AV) (e s : Nat) (H : AH) : Option (AV × AH) := hNew (.cells z e s false false) (fun n H' => some (.ptr n 0, H')) H
theorem alF_eq (z : List AV) (e s : Nat) (H : AH) : alF z e s H = some (.ptr H.next 0, H.new (.cells z e s false false)) := by unfold alF; rw [hNew_eq]
def cvI (k : IntKind) (x : AV) : Option AV := avInt none (fun _ n => some (.int k (fw k n))) x
def lenS (x : AV) : Option AV :=
  @AV.rec (fun _ => Option AV) (fun _ => Unit) (fun _ => none) (fun _ _ => none) (fun _ => none) none (fun _ _ => none) (some (.int .i64 0)) (fun _ _ n _ _ => some (.int .i64 (.ofNat n))) none (fun _ => none) (fun _ _ _ _ _ => none) (fun _ => none) none (fun _ _ _ => none) none (fun _ _ => none) (fun _ _ => none) () (fun _ _ _ _ => ()) x
def exN (ix : Nat) (x : AV) : Option AV :=
  @AV.rec (fun _ => Option AV) (fun _ => Unit) (fun _ => none) (fun _ _ => none) (fun _ => none) none (fun _ _ => none) none (fun _ _ _ _ _ => none) none (fun _ => none) (fun _ _ _ _ _ => none) (fun _ => none) none (fun _ _ _ => none) none (fun _ _ => none) (fun vs _ => nthF vs ix) () (fun _ _ _ _ => ()) x
def notF (x : AV) : Option AV := avBool none (fun b => some (.bool (brec true false b))) x

/-! ### A region's operations, laid ready -/
inductive K2 where
  | done
  | fail
  | mv (x : O2) (d : Option S2) (k : K2)
  | p1 (f : AV → Option AV) (x : O2) (d : Option S2) (k : K2)
  | p2 (f : AV → AV → Option AV) (x y : O2) (d : Option S2) (k : K2)
  | r1 (f : AV → AH → Option AV) (x : O2) (d : Option S2) (k : K2)
  | al (w : Bool) (f : AH → Option (AV × AH)) (d : Option S2) (k : K2)
  | m1 (w : Bool) (f : AV → AH → Option (AV × AH)) (x : O2) (d : Option S2) (k : K2)
  | st (w : Bool) (f : AV → AV → AH → Option AH) (x y : O2) (d : Option S2) (k : K2)
  | cl (w : Bool) (f : FuncId) (xs : List O2) (d : Option S2) (k : K2)
  | gl (o : Oper) (d : Option S2) (k : K2)
  | gh (w : Bool) (o : Oper) (d : Option S2) (k : K2)
  | ge (o : Oper) (d : Option S2) (k : K2)
  | gw (x : Ent) (pre : List Ent) (d : Option S2) (k : K2)
  | sk (d : Option S2) (k : K2)
  | gd (s : S2) (want : Bool) (d : Option S2) (a b : K2)

def putS (d : Option S2) : AV → Tr AV → Tr AV := orec (β := AV → Tr AV → Tr AV) (fun _ T => T) (fun s v T => s.set v T) d
theorem putS_eq (d : Option Tmp) (v : AV) (T : Tr AV) : putS (match d with | some t => some (sOf t) | none => none) v T = putT T d v := by
  cases d with
  | none => rfl
  | some t => exact sOf_set t v T
def dOf (d : Option Tmp) : Option S2 := match d with | some t => some (sOf t) | none => none
theorem putS_dOf (d : Option Tmp) (v : AV) (T : Tr AV) : putS (dOf d) v T = putT T d v := putS_eq d v T
def evs (xs : List O2) : Tr AV → List AV := lrec (β := Tr AV → List AV) (fun _ => []) (fun x _ ih T => x.ev T :: ih T) xs
theorem opnds_opd (T : Tr AV) (l : List Operand) : opnds T l = (match mapO opd l with | some xs => some (evs xs T) | none => none) := by
  induction l with
  | nil => rfl
  | cons a l ih =>
    show obind (opnd T a) (fun b => obind (opnds T l) fun bs => some (b :: bs)) = match obind (opd a) (fun b => obind (mapO opd l) fun bs => some (b :: bs)) with | some xs => some (evs xs T) | none => none
    rw [opnd_opd, ih]
    cases opd a with
    | none => rfl
    | some x => cases mapO opd l <;> rfl
def hIn (w : Bool) (H : AH) : AH := brec H { H with lo := H.next } w
def hOut (w : Bool) (H H' : AH) : AH := brec H' { H' with lo := H.lo } w
theorem hOut_hIn (w : Bool) (H : AH) : hOut w H (hIn w H) = H := by cases w <;> cases H <;> rfl
def guardB (want : Bool) (o : Option AV) : Bool := orec false (fun v => avBool false (fun b => brec (brec true false want) want b) v) o

def runK (L : Lk) (rec : Rec) (kk : Tr AV → AH → Option Out) (c : K2) : Tr AV → AH → Option Out :=
  K2.rec (motive := fun _ => Tr AV → AH → Option Out)
    (fun T H => kk T H)
    (fun _ _ => none)
    (fun x d _ ih T H => ih (putS d (x.ev T) T) H)
    (fun f x d _ ih T H => orec none (fun v => ih (putS d v T) H) (f (x.ev T)))
    (fun f x y d _ ih T H => orec none (fun v => ih (putS d v T) H) (f (x.ev T) (y.ev T)))
    (fun f x d _ ih T H => orec none (fun v => ih (putS d v T) H) (f (x.ev T) H))
    (fun w f d _ ih T H => orec none (fun r => Prod.rec (motive := fun _ => Option Out) (fun v H' => ih (putS d v T) (hOut w H H')) r) (f (hIn w H)))
    (fun w f x d _ ih T H => orec none (fun r => Prod.rec (motive := fun _ => Option Out) (fun v H' => ih (putS d v T) (hOut w H H')) r) (f (x.ev T) (hIn w H)))
    (fun w f x y d _ ih T H => orec none (fun H' => ih (putS d .undef T) (hOut w H H')) (f (x.ev T) (y.ev T) (hIn w H)))
    (fun w f xs d _ ih T H => orec none (fun o => Out.rec (motive := fun _ => Option Out) (fun _ T' H' => ih (putS d (dflt (Tr.getLo .d0 .d0 T')) T) (hOut w H H')) o) (rec (.call f (evs xs T) (hIn w H))))
    (fun o d _ ih T H => orec none (fun r => Prod.rec (motive := fun _ => Option Out) (fun v _ => ih (putS d v T) H) r) (evOper L rec T o H))
    (fun w o d _ ih T H => orec none (fun r => Prod.rec (motive := fun _ => Option Out) (fun v H' => ih (putS d v T) (hOut w H H')) r) (evOper L rec T o (hIn w H)))
    (fun o d _ ih T H => orec none (fun r => Prod.rec (motive := fun _ => Option Out) (fun v H' => ih (putS d v T) H') r) (evOperS L rec T o H))
    (fun x pre d _ ih T H => brec
      (orec none (fun r => Prod.rec (motive := fun _ => Option Out) (fun v H' => ih (putS d v T) (hOut true H H')) r) (evOper L rec T x.2.2 (hIn true H)))
      (orec none (fun r => Prod.rec (motive := fun _ => Option Out) (fun v H' => ih (putS d v T) H') r) (evOper L rec T x.2.2 H)) (far L T x pre))
    (fun d _ ih T H => ih (putS d .undef T) H)
    (fun s want d _ _ iha ihb T H => brec (ihb (putS d .undef T) H) (iha T H) (guardB want (s.get T))) c

/-- An operation's node. -/
def node (L : Lk) (o : Oper) (w : Bool) (k : K2) : K2 :=
  match isHeavy L o with
  | false => (match o.op with
    | .move x => orec .fail (fun x => .mv x (dOf o.dst) k) (opd x)
    | .assign x => orec .fail (fun x => .mv x (dOf o.dst) k) (opd x)
    | .binOp op t x y _ => orec .fail (fun a => orec .fail (fun b => .p2 (binF op (evBin L op t x y)) a b (dOf o.dst) k) (opd y)) (opd x)
    | .unOp op _ x => (match op with
      | .not => orec .fail (fun x => .p1 notF x (dOf o.dst) k) (opd x)
      | _ => .gl o (dOf o.dst) k)
    | .load t a => (match L.isAgg t with
      | some true => (match L.size t with
        | some s => orec .fail (fun x => .r1 (ldN s) x (dOf o.dst) k) (opd a)
        | none => .fail)
      | some false => orec .fail (fun x => .r1 ld1 x (dOf o.dst) k) (opd a)
      | none => .fail)
    | .indexAddr t x ix => (match L.under t with
      | some (.slice e) => (match L.size e with
        | some z => orec .fail (fun a => orec .fail (fun b => .p2 (ixS z) a b (dOf o.dst) k) (opd ix)) (opd x)
        | none => .fail)
      | some (.array n e) => (match L.size e with
        | some z => orec .fail (fun a => orec .fail (fun b => .p2 (ixA n z) a b (dOf o.dst) k) (opd ix)) (opd x)
        | none => .fail)
      | _ => .fail)
    | .fieldAddr s x f => (match L.under s with
      | some (.struct fields) => (match nth fields.toList f with
        | some fd => (match L.size fd.type with
          | some z => brec (orec .fail (fun x => .p1 (fa fd.offset) x (dOf o.dst) k) (opd x)) .fail (Nat.beq z 0)
          | none => .fail)
        | none => .fail)
      | _ => .fail)
    | .extract x ix => orec .fail (fun x => .p1 (exN ix) x (dOf o.dst) k) (opd x)
    | _ => .gl o (dOf o.dst) k)
  | true => (match o.op with
    | .alloc e => (match L.zero e, L.size e with
      | some z, some s => .al w (alF z.cells e s) (dOf o.dst) k
      | _, _ => .fail)
    | .box e x => (match L.size e with
      | some s => orec .fail (fun x => .m1 w (fun v H => alF v.cells e s H) x (dOf o.dst) k) (opd x)
      | none => .fail)
    | .store t a x => (match L.size t with
      | some s => brec
          (orec .fail (fun a => orec .fail (fun b => .st w (evStore L t) a b (dOf o.dst) k) (opd x)) (opd a))
          (orec .fail (fun a => orec .fail (fun b => .st w (st1 L t) a b (dOf o.dst) k) (opd x)) (opd a)) (Nat.beq s 1)
      | none => .fail)
    | .convert s d x => (match L.under s, L.under d with
      | some _, some (.int ki) => orec .fail (fun x => .p1 (cvI ki) x (dOf o.dst) k) (opd x)
      | _, _ => .gh w o (dOf o.dst) k)
    | .call c => (match c.callee with
      | .value f => (match f with
        | .func g => orec .fail (fun xs => .cl w g xs (dOf o.dst) k) (mapO opd c.args.toList)
        | _ => .gh w o (dOf o.dst) k)
      | _ => .gh w o (dOf o.dst) k)
    | _ => .gh w o (dOf o.dst) k)

end
end Go.Ev
