import Derived.Test.YtmdkejaglfokaaaGreatWAAD
import Derived.KernelRfl
import Derived.Below
noncomputable section
set_option maxHeartbeats 8000000
set_option linter.unusedSimpArgs false
set_option linter.unusedVariables false
namespace Go.Ev
noncomputable section
def nodeS (L:Lk) (o:Oper) (k:K2):K2 :=
 match o.op with
 | .slice t x lo hi none=>orec (.ge o (dOf o.dst) k) (fun xs=>.ls (fun xs _=>zua L t lo.isSome hi.isSome false xs) xs o (dOf o.dst) k) (mapO opd (x::(lo.toList ++ (hi.toList ++ []))))
 |_=>node L o false k
def compG (all:List Oper) (o:Oper) (n:K2) (k:K2):K2 :=
 match o.guard with
 |none=>n
 |some g=>(match nth all g.1 with
  |some oj=>(match oj.dst with
   |some d=>.gd (sOf d) g.2 (dOf o.dst) n k
   |none=>.sk (dOf o.dst) k)
  |none=>.sk (dOf o.dst) k)
def zps (L:Lk) (all:List Oper) (ops:List Oper):K2:=lrec (β:=K2) .done (fun o _ ih=>compG all o (nodeS L o ih) ih) ops
def zok (o:Op):Bool:=match o with| .store _ _ _=>true|_=>false
def nodeW (L:Lk) (x:Ent) (pre:List Ent) (k:K2):K2 :=
 match x.2.2.op with
 | .call c=>(match c.callee with
  | .value f=>(match f with
   | .func g=>(match mapO opd c.args.toList with
    |some xs=>.cw (zoh x L pre []) g xs (dOf x.2.2.dst) k
    |none=>.gw x pre (dOf x.2.2.dst) k)
   |_=>.gw x pre (dOf x.2.2.dst) k)
  |_=>.gw x pre (dOf x.2.2.dst) k)
 |_=>.gw x pre (dOf x.2.2.dst) k
def nodeD (L:Lk) (x:Ent) (pre:List Ent) (k:K2):K2 :=
 match zeh L x pre with
 |false=>node L x.2.2 false k
 |true=>(match zok x.2.2.op || zrf x.2.2 with|true=>nodeW L x pre k|false=>node L x.2.2 true k)
def zhn (L:Lk) (all:List Oper) (pl:List Ent):List Ent->K2 :=
 lrec (β:=List Ent->K2) (fun _=>.done) (fun x _ ih pre=>compG all x.2.2 (nodeD L x pre (ih (x::pre))) (match loose L x pre with|true=>.fail|false=>ih (x::pre))) pl
def zqs (L:Lk) (ops:List Oper) (draw:Bool):K2 :=
 match draw with
 |false=>zps L ops ops
 |true=>(match plan L ops with|some pl=>zhn L ops pl []|none=>.fail)
section
variable {L:Lk}{rec:Rec}{kk:Tr AV->AH->Option Out}
theorem ztd1 (want:Bool) (o:Option AV):zfl want o=(match o with|some (.bool b)=>(match b,want with|true,true=>true|false,false=>true|_,_=>false)|_=>false):=by
 cases o with
 |none=>rfl
 |some v=>cases v<;>first|rfl|(next b=>cases b<;>cases want<;>rfl)
theorem run_gd (s:S2) (want:Bool) (d:Option S2) (a b:K2) (T:Tr AV) (H:AH) :
  runK L rec kk (.gd s want d a b) T H=brec (runK L rec kk b (putS d .undef T) H) (runK L rec kk a T H) (zfl want (s.get T)):=rfl
theorem run_sk (d:Option S2) (k:K2) (T:Tr AV) (H:AH):runK L rec kk (.sk d k) T H=runK L rec kk k (putS d .undef T) H:=rfl
theorem zrs (all:List Oper) (o:Oper) (n k:K2) (T:Tr AV) (H:AH) :
  runK L rec kk (compG all o n k) T H=(match zac all T o with|true=>runK L rec kk n T H|false=>runK L rec kk k (putT T o.dst .undef) H):=by
 unfold compG zac;cases hg:o.guard with
 |none=>rfl
 |some g =>
  obtain ⟨j,want⟩:=g;simp only;cases hn:nth all j with
  |none=>simp only;rw [run_sk,zfc]
  |some oj =>
   simp only;cases hd:oj.dst with
   |none=>simp only;rw [run_sk,zfc]
   |some d =>
    simp only;rw [run_gd,zvl,zfc,ztd1];cases T.get d with
    |none=>rfl
    |some v=>cases v<;>first|rfl|(next b=>cases b<;>cases want<;>rfl)
theorem zzv {T:Tr AV}{o:Oper}{H:AH}(h:∀t x lo hi,o.op≠ .slice t x lo hi none):evEnd L T o H=none:=by
 unfold evEnd;split
 ·next t x lo hi ho=>exact absurd ho (h t x lo hi)
 ·rfl
theorem zem1 (o:Oper) (k:K2) (T:Tr AV) (H:AH):runK L rec kk (node L o false k) T H=(match zwa L rec T o H with|some r=>runK L rec kk k (putT T o.dst r.1) r.2|none=>none):=by
 cases hl:zja L o with
 |false =>
  rw [zmk o false _ T H hl];unfold zgc;cases he:zwa L rec T o H with
  |none=>rfl
  |some r=>simp only;rw [zfp hl he]
 |true =>
  rw [znk o false _ T H hl];rfl
theorem zud1 (o:Oper) (k:K2) (T:Tr AV) (H:AH):runK L rec kk (nodeS L o k) T H=(match zwf L rec T o H with|some r=>runK L rec kk k (putT T o.dst r.1) r.2|none=>none):=by
 unfold nodeS;split
 ·next t x lo hi hop =>
  have he:=zcm1 (L:=L) (T:=T) (H:=H) hop;cases hx:mapO opd (x::(lo.toList ++ (hi.toList ++ []))) with
  |none =>
   show orec none (fun r=>Prod.rec (motive:=fun _=>Option Out) (fun v H'=>runK L rec kk k (putS (dOf o.dst) v T) H') r) (zwf L rec T o H)=_
   cases zwf L rec T o H with
   |none=>rfl
   |some r=>show runK L rec kk k (putS (dOf o.dst) r.1 T) r.2=_;rw [zfc]
  |some xs =>
   have hx':mapO opd (x::(lo.toList ++ (hi.toList ++ (none:Option Operand).toList)))=some xs:=hx;rw [hx'] at he;show orec (orec none (prodO (fun v H'=>runK L rec kk k (putS (dOf o.dst) v T) H')) (evEnd L T o H)) (fun v=>runK L rec kk k (putS (dOf o.dst) v T) H) (zua L t lo.isSome hi.isSome false (evs xs T))=_
   unfold zwf zwa;rw [he];have hf:(none:Option Operand).isSome=false:=rfl;simp only [hf];cases zua L t lo.isSome hi.isSome false (evs xs T) with
   |none =>
    show orec none (prodO (fun v H'=>runK L rec kk k (putS (dOf o.dst) v T) H')) (evEnd L T o H)=match (match evEnd L T o H with|some r=>some r|none=>none) with|some r=>runK L rec kk k (putT T o.dst r.1) r.2|none=>none
    cases evEnd L T o H with
    |none=>rfl
    |some r=>show runK L rec kk k (putS (dOf o.dst) r.1 T) r.2=_;rw [zfc]
   |some v=>show runK L rec kk k (putS (dOf o.dst) v T) H=runK L rec kk k (putT T o.dst v) H;rw [zfc]
 ·next hop =>
  rw [zem1];unfold zwf;cases zwa L rec T o H with
  |some r=>rfl
  |none=>simp only;rw [zzv (fun t x lo hi h=>hop t x lo hi h)]
theorem zaw (all:List Oper) (ops:List Oper):∀(T:Tr AV) (H:AH),runK L rec kk (zps L all ops) T H=(match evOps L rec all ops T H with|some r=>kk r.1 r.2|none=>none):=by
 induction ops with
 |nil=>intro T H;rfl
 |cons o ops ih =>
  intro T H;show runK L rec kk (compG all o (nodeS L o (zps L all ops)) (zps L all ops)) T H=match (match zac all T o with
   |true=>(match zwf L rec T o H with
    |some r=>evOps L rec all ops (putT T o.dst r.1) r.2
    |none=>none)
   |false=>evOps L rec all ops (putT T o.dst .undef) H) with|some r=>kk r.1 r.2|none=>none
  rw [zrs];cases zac all T o with
  |false=>simp only;exact ih _ _
  |true =>
   simp only;rw [zud1];cases zwf L rec T o H with
   |none=>rfl
   |some r=>simp only;rw [ih]
theorem zss {L:Lk}{T:Tr AV}{x:Ent}{pre:List Ent}(h:zok x.2.2.op=false):far L T x pre=false:=by
 unfold far;split
 ·next ho=>rw [ho] at h;cases h
 ·rfl
theorem zbw {L:Lk}{o:Oper}(h:zok o.op=true):zja L o=true:=by
 unfold zok at h;split at h
 ·next ho=>unfold zja zdh;rw [ho];rfl
 ·cases h
theorem zry {L:Lk}{o:Oper}(h:zrf o=true):zja L o=true:=by
 unfold zrf at h;split at h
 ·next c ho =>
  unfold zja zdh zal zsj;rw [ho];simp only;cases hc:c.callee with
  |builtin b=>rw [hc] at h;cases b<;>first|rfl|cases h
  |_=>rfl
 ·cases h
theorem zvd1 (x:Ent) (pre:List Ent) (k:K2) (T:Tr AV) (H:AH):runK L rec kk (.gw x pre (dOf x.2.2.dst) k) T H=(match far L T x pre with
      |true=>(match zwa L rec T x.2.2 H with
       |some r=>runK L rec kk k (putT T x.2.2.dst r.1) r.2
       |none=>none)
      |false=>(match zfd L rec T x pre H with
       |some r=>runK L rec kk k (putT T x.2.2.dst r.1) r.2
       |none=>none)):=by
 show brec
  (orec none (fun r=>Prod.rec (motive:=fun _=>Option Out) (fun v H'=>runK L rec kk k (putS (dOf x.2.2.dst) v T) H') r) (zfd L rec T x pre H))
  (orec none (fun r=>Prod.rec (motive:=fun _=>Option Out) (fun v H'=>runK L rec kk k (putS (dOf x.2.2.dst) v T) H') r) (zwa L rec T x.2.2 H)) (far L T x pre)=_
 cases far L T x pre with
 |true =>
  simp only [zhm];cases zwa L rec T x.2.2 H with
  |none=>rfl
  |some r=>show runK L rec kk k (putS (dOf x.2.2.dst) r.1 T) r.2=_;rw [zfc]
 |false =>
  simp only [zcc1];cases zfd L rec T x pre H with
  |none=>rfl
  |some r=>show runK L rec kk k (putS (dOf x.2.2.dst) r.1 T) r.2=_;rw [zfc]
theorem zxl {o:Oper}{c:Call}{g:FuncId}{xs:List O2}(ho:o.op= .call c) (hc:c.callee= .value (.func g)) (hx:mapO opd c.args.toList=some xs) (T:Tr AV) (H:AH) :
  zwa L rec T o H=(match rec (.call g (evs xs T) H) with|some out=>some (zrg out,out.H)|none=>none):=by
 have he:evOp L T o H=(match opnds T c.args.toList with|none=>none|some as=>some (.enter g ([] ++ as ++ []))):=by
  unfold evOp;rw [ho];simp only [hc];rfl
 rw [zqe,hx] at he;simp only [qm1,qw1] at he;unfold zwa;rw [he];simp only;cases rec (.call g (evs xs T) H)<;>rfl
theorem zwd1 (x:Ent) (pre:List Ent) (k:K2) (T:Tr AV) (H:AH):runK L rec kk (nodeW L x pre k) T H=(match far L T x pre with
      |true=>(match zwa L rec T x.2.2 H with
       |some r=>runK L rec kk k (putT T x.2.2.dst r.1) r.2
       |none=>none)
      |false=>(match zfd L rec T x pre H with
       |some r=>runK L rec kk k (putT T x.2.2.dst r.1) r.2
       |none=>none)):=by
 unfold nodeW;split
 ·next c ho =>
  split
  ·next f hc =>
   split
   ·next g =>
    split
    ·next xs hx =>
     have hs:zok x.2.2.op=false:=by rw [ho];rfl
     have hcall:zrf x.2.2=true:=by unfold zrf;rw [ho];simp only [hc]
     rw [zss hs];simp only;unfold zfd;rw [hcall];simp only;rw [zms];show orec
      (orec none (outO (fun v H'=>runK L rec kk k (putS (dOf x.2.2.dst) v T) (hOut true H H'))) (rec (.call g (evs xs T) (hIn true H))))
      (fun js=>orec none (outO (fun v H'=>brec none (runK L rec kk k (putS (dOf x.2.2.dst) v T) H') (zsg H H' js))) (rec (.call g (evs xs T) H)))
      (ptrsO (zoh x L pre []) T)=_
     cases ptrsO (zoh x L pre []) T with
     |none =>
      simp only;rw [show ({H with lo:=H.next}:AH)=hIn true H from rfl,zxl ho hc hx]
      show orec none _ (rec (.call g (evs xs T) (hIn true H)))=_
      cases rec (.call g (evs xs T) (hIn true H)) with
      |none=>rfl
      |some out =>
       show runK L rec kk k (putS (dOf x.2.2.dst) (dflt (Tr.getLo .d0 .d0 out.T)) T) (hOut true H out.H)=runK L rec kk k (putT T x.2.2.dst (zrg out)) (hOut true H out.H)
       rw [zph,zfc]
     |some js =>
      simp only;rw [zxl ho hc hx];show orec none _ (rec (.call g (evs xs T) H))=_
      cases rec (.call g (evs xs T) H) with
      |none=>rfl
      |some out =>
       show brec none (runK L rec kk k (putS (dOf x.2.2.dst) (dflt (Tr.getLo .d0 .d0 out.T)) T) out.H) (zsg H out.H js)=_
       simp only;cases zsg H out.H js with
       |false=>rfl
       |true=>show runK L rec kk k (putS (dOf x.2.2.dst) (dflt (Tr.getLo .d0 .d0 out.T)) T) out.H=runK L rec kk k (putT T x.2.2.dst (zrg out)) out.H;rw [zph,zfc]
    ·exact zvd1 x pre k T H
   ·exact zvd1 x pre k T H
  ·exact zvd1 x pre k T H
 ·exact zvd1 x pre k T H
theorem zgl (x:Ent) (pre:List Ent) (k:K2) (T:Tr AV) (H:AH) (hl:zja L x.2.2=false):runK L rec kk (nodeD L x pre k) T H=zgc L rec kk x.2.2 k T H:=by
 unfold nodeD;cases zeh L x pre with
 |false=>exact zmk _ _ _ T H hl
 |true =>
  simp only;cases hs:zok x.2.2.op with
  |true=>rw [zbw hs] at hl;cases hl
  |false =>
   cases hc:zrf x.2.2 with
   |true=>rw [zry hc] at hl;cases hl
   |false=>exact zmk _ _ _ T H hl
theorem zhl (x:Ent) (pre:List Ent) (k:K2) (T:Tr AV) (H:AH) (hl:zja L x.2.2=true):runK L rec kk (nodeD L x pre k) T H=(match zeh L x pre with
     |false=>(match zwa L rec T x.2.2 H with
      |some r=>runK L rec kk k (putT T x.2.2.dst r.1) r.2
      |none=>none)
     |true=>match far L T x pre with
      |true=>(match zwa L rec T x.2.2 H with
       |some r=>runK L rec kk k (putT T x.2.2.dst r.1) r.2
       |none=>none)
      |false=>(match zfd L rec T x pre H with
       |some r=>runK L rec kk k (putT T x.2.2.dst r.1) r.2
       |none=>none)):=by
 unfold nodeD;cases zeh L x pre with
 |false=>exact znk _ _ _ T H hl
 |true =>
  simp only;cases hs:zok x.2.2.op || zrf x.2.2 with
  |false =>
   obtain ⟨hs,hc⟩:=Bool.or_eq_false_iff.mp hs;rw [zss hs];refine (znk _ _ _ T H hl).trans ?_;unfold zlc zfd;rw [hc];show _=match (match zwa L rec T x.2.2 (hIn true H) with|some r=>some (r.1,hOut true H r.2)|none=>none) with|some r=>runK L rec kk k (putT T x.2.2.dst r.1) r.2|none=>none
   cases zwa L rec T x.2.2 (hIn true H)<;>rfl
  |true=>exact zwd1 x pre k T H
theorem zxq (all:List Oper) (pl:List Ent):∀(pre:List Ent) (T:Tr AV) (H:AH),runK L rec kk (zhn L all pl pre) T H=(match ztj L rec all pl pre T H with|some r=>kk r.1 r.2|none=>none):=by
 induction pl with
 |nil=>intro pre T H;rfl
 |cons x pl ih =>
  intro pre T H;show runK L rec kk (compG all x.2.2 (nodeD L x pre (zhn L all pl (x::pre))) (match loose L x pre with|true=>.fail|false=>zhn L all pl (x::pre))) T H=match (match zac all T x.2.2 with
   |false=>(match loose L x pre with
    |true=>none
    |false=>ztj L rec all pl (x::pre) (putT T x.2.2.dst .undef) H)
   |true=>match zja L x.2.2 with
    |false=>(match zwa L rec T x.2.2 H with
     |some r=>ztj L rec all pl (x::pre) (putT T x.2.2.dst r.1) H
     |none=>none)
    |true=>match zeh L x pre with
     |false=>(match zwa L rec T x.2.2 H with
      |some r=>ztj L rec all pl (x::pre) (putT T x.2.2.dst r.1) r.2
      |none=>none)
     |true=>match far L T x pre with
      |true=>(match zwa L rec T x.2.2 H with
       |some r=>ztj L rec all pl (x::pre) (putT T x.2.2.dst r.1) r.2
       |none=>none)
      |false=>(match zfd L rec T x pre H with
       |some r=>ztj L rec all pl (x::pre) (putT T x.2.2.dst r.1) r.2
       |none=>none)) with|some r=>kk r.1 r.2|none=>none
  rw [zrs];cases zac all T x.2.2 with
  |false =>
   simp only;cases loose L x pre with
   |true=>rfl
   |false=>exact ih _ _ _
  |true =>
   simp only;cases hl:zja L x.2.2 with
   |false =>
    rw [zgl _ _ _ T H hl];unfold zgc;cases he:zwa L rec T x.2.2 H with
    |none=>rfl
    |some r=>simp only;rw [ih]
   |true =>
    rw [zhl _ _ _ T H hl];cases zeh L x pre with
    |false =>
     simp only;cases he:zwa L rec T x.2.2 H with
     |none=>rfl
     |some r=>simp only;rw [ih]
    |true =>
     simp only;cases far L T x pre with
     |true =>
      simp only;cases he:zwa L rec T x.2.2 H with
      |none=>rfl
      |some r=>simp only;rw [ih]
     |false =>
      simp only;cases he:zfd L rec T x pre H with
      |none=>rfl
      |some r=>simp only;rw [ih]
theorem zcw (ops:List Oper) (draw:Bool) (T:Tr AV) (H:AH):runK L rec kk (zqs L ops draw) T H=(match zdf L rec ops draw T H with|some r=>kk r.1 r.2|none=>none):=by
 unfold zqs zdf;cases draw with
 |false=>exact zaw ops ops T H
 |true =>
  simp only;cases plan L ops with
  |none=>rfl
  |some pl=>exact zxq ops pl [] T H
end
inductive C2 where
 |skip
 |reg (k:K2)
 |seq (a b:C2)
 |cond (x:O2) (a b:C2)
 |block (id:Nat) (a:C2)
 |loop (body:Code)
 |rng (f:O2) (ps:List Tmp) (assign body:Code)
 |exit (id:Nat)
 |scope (a:C2)
 |goto (l:Nat)
 |ret
 |bad
def comp (L:Lk) (c:Code):C2 :=
 crec (β:=C2) .skip (fun _ ops draw=>.reg (zqs L ops.toList draw)) (fun _ _ a b=>.seq a b)
  (fun x _ _ a b=>orec .bad (fun x=>.cond x a b) (opd x)) (fun id _ a=>.block id a) (fun body _=>.loop body)
  (fun f ps assign body _ _=>orec .bad (fun x=>.rng x ps.toList assign body) (opd f)) (fun id=>.exit id) (fun _ a=>.scope a) (fun _=>.skip) (fun l=>.goto l) .ret (fun _=>.bad) c
def exRec {β:Type}(n:β) (x:Nat->β) (r:β) (g:Nat->β) (e:Ex):β:=Ex.rec (motive:=fun _=>β) n x r g e
def zdw {β:Type}(f:Ex->Tr AV->AH->β) (o:Out):β:=Out.rec (motive:=fun _=>β) (fun e T H=>f e T H) o
abbrev Kont:=Ex->Tr AV->AH->Option Out
def exSeq (n:Option Out) (K:Kont) (T:Tr AV) (H:AH) (e:Ex):Option Out:=Ex.rec (motive:=fun _=>Option Out->Kont->Tr AV->AH->Option Out) (fun n _ _ _=>n) (fun id _ K T H=>K (.exit id) T H) (fun _ K T H=>K .ret T H) (fun l _ K T H=>K (.goto l) T H) e n K T H
def exBlk (id:Nat) (K:Kont) (T:Tr AV) (H:AH) (e:Ex):Option Out:=Ex.rec (motive:=fun _=>Nat->Kont->Tr AV->AH->Option Out) (fun _ K T H=>K .normal T H) (fun i id K T H=>brec (K (.exit i) T H) (K .normal T H) (Nat.beq i id)) (fun _ K T H=>K .ret T H) (fun l _ K T H=>K (.goto l) T H) e id K T H
abbrev RunC:=Lk->Rec->Kont->Tr AV->AH->Option Out
def evC' (c:C2):RunC :=
 C2.rec (motive:=fun _=>RunC)
  (fun _ _ K T H=>K .normal T H)
  (fun k L rec K T H=>runK' k L rec (K .normal) T H)
  (fun _ _ iha ihb L rec K T H=>iha L rec (fun ex T H=>exSeq (ihb L rec K T H) K T H ex) T H)
  (fun x _ _ iha ihb L rec K T H=>zul none (fun b=>brec (ihb L rec K T H) (iha L rec K T H) b) (x.ev T))
  (fun id _ ih L rec K T H=>ih L rec (fun ex T H=>exBlk id K T H ex) T H)
  (fun body _ rec K T H=>orec none (fun o=>zdw K o) (rec (.loop body T H)))
  (fun f ps assign body _ rec K T H=>orec none (fun o=>zdw K o) (rec (.range (f.ev T) ps assign body T H)))
  (fun id _ _ K T H=>K (.exit id) T H)
  (fun _ ih L rec K T H=>ih L rec (fun ex T H=>exRec (K .normal T H) (fun i=>K (.exit i) T H) (K .ret T H) (fun _=>none) ex) T H)
  (fun l _ _ K T H=>K (.goto l) T H)
  (fun _ _ K T H=>K .ret T H)
  (fun _ _ _ _ _=>none) c
def evC (L:Lk) (rec:Rec) (c:C2) (K:Kont) (T:Tr AV) (H:AH):Option Out:=evC' c L rec K T H
theorem zyq (L:Lk) (rec:Rec) (c:Code):∀(K:Kont) (T:Tr AV) (H:AH),evC L rec (comp L c) K T H=(match zzb L rec c T H with|some o=>K o.ex o.T o.H|none=>none):=by
 induction c with
 |skip=>intro K T H;rfl
 |region i ops d =>
  intro K T H;show runK L rec (fun T H=>K .normal T H) (zqs L ops.toList d) T H=match (match zdf L rec ops.toList d T H with|some r=>some (⟨.normal,r.1,r.2⟩:Out)|none=>none) with|some o=>K o.ex o.T o.H|none=>none
  rw [zcw];cases zdf L rec ops.toList d T H<;>rfl
 |seq a b iha ihb =>
  intro K T H;show evC L rec (comp L a) (fun ex T H=>exSeq (evC L rec (comp L b) K T H) K T H ex) T H=match (match zzb L rec a T H with
   |some o=>(match o.ex with| .normal=>zzb L rec b o.T o.H|_=>some o)
   |none=>none) with|some o=>K o.ex o.T o.H|none=>none
  rw [iha];cases zzb L rec a T H with
  |none=>rfl
  |some o =>
   obtain ⟨ex,T1,H1⟩:=o;cases ex with
   |normal=>exact ihb K T1 H1
   |_=>rfl
 |cond x a b iha ihb =>
  intro K T H;show evC L rec (orec C2.bad (fun x=>.cond x (comp L a) (comp L b)) (opd x)) K T H=match (match opnd T x with
   |some (.bool true)=>zzb L rec a T H
   |some (.bool false)=>zzb L rec b T H
   |_=>none) with|some o=>K o.ex o.T o.H|none=>none
  rw [zoa];cases opd x with
  |none=>rfl
  |some y =>
   show zul none (fun c=>brec (evC L rec (comp L b) K T H) (evC L rec (comp L a) K T H) c) (y.ev T)=_
   simp only;cases y.ev T<;>first
    |rfl
    |(next c=>cases c<;>first|exact iha K T H|exact ihb K T H)
 |block id a ih =>
  intro K T H;show evC L rec (comp L a) (fun ex T H=>exBlk id K T H ex) T H=match (match zzb L rec a T H with
   |some o=>(match o.ex with
    | .exit i=>(match Nat.beq i id with|true=>some (⟨.normal,o.T,o.H⟩:Out)|false=>some o)
    |_=>some o)
   |none=>none) with|some o=>K o.ex o.T o.H|none=>none
  rw [ih];cases zzb L rec a T H with
  |none=>rfl
  |some o =>
   obtain ⟨ex,T1,H1⟩:=o;cases ex with
   |exit i =>
    show brec (K (.exit i) T1 H1) (K .normal T1 H1) (Nat.beq i id)=_
    simp only;cases Nat.beq i id<;>rfl
   |_=>rfl
 |loop body ih =>
  intro K T H;show orec none (fun o=>zdw K o) (rec (.loop body T H))=match rec (.loop body T H) with|some o=>K o.ex o.T o.H|none=>none
  cases rec (.loop body T H)<;>rfl
 |rangeFunc f ps assign body _ _ =>
  intro K T H;show evC L rec (orec C2.bad (fun x=>.rng x ps.toList assign body) (opd f)) K T H=match (match opnd T f with|some g=>rec (.range g ps.toList assign body T H)|none=>none) with|some o=>K o.ex o.T o.H|none=>none
  rw [zoa];cases opd f with
  |none=>rfl
  |some y =>
   show orec none (fun o=>zdw K o) (rec (.range (y.ev T) ps.toList assign body T H))=_
   simp only;cases rec (.range (y.ev T) ps.toList assign body T H)<;>rfl
 |exit id=>intro K T H;rfl
 |scope a ih =>
  intro K T H;show evC L rec (comp L a) (fun ex T H=>exRec (K .normal T H) (fun i=>K (.exit i) T H) (K .ret T H) (fun _=>none) ex) T H=match (match zzb L rec a T H with
   |some o=>(match o.ex with| .goto _=>none|_=>some o)
   |none=>none) with|some o=>K o.ex o.T o.H|none=>none
  rw [ih];cases zzb L rec a T H with
  |none=>rfl
  |some o =>
   obtain ⟨ex,T1,H1⟩:=o;cases ex<;>rfl
 |label l=>intro K T H;rfl
 |goto l=>intro K T H;rfl
 |ret=>intro K T H;rfl
 |refuse w=>intro K T H;rfl
structure F2 where
 nt:Nat
 code:C2
 res:List ResultVar
def fnF (L:Lk) (f:FuncId):Option F2 :=
 match L.func f with
 |none=>none
 |some fn=>match fn.body with
  |none=>none
  |some c=>some ⟨fn.ntmps,comp L c,fn.results.toList⟩
def runC (L:Lk) (rec:Rec) (c:Code) (T:Tr AV) (H:AH):Option Out:=evC L rec (comp L c) (fun ex T H=>some ⟨ex,T,H⟩) T H
theorem znh1 (L:Lk) (rec:Rec) (c:Code) (T:Tr AV) (H:AH):runC L rec c T H=zzb L rec c T H:=by
 unfold runC;rw [zyq];cases zzb L rec c T H<;>rfl
def fin2 (L:Lk) (res:List ResultVar) (T:Tr AV) (H:AH):Option Out :=
 match znb L T H res with
 |some vs=>(match vs with| [v]=>some (out1 v H)|vs=>some (out1 (.tup vs) H))
 |none=>none
def callF (L:Lk) (rec:Rec) (f:FuncId) (args:List AV) (H:AH):Option Out :=
 orec none (fun F=>F2.rec (motive:=fun _=>Option Out) (fun nt code res =>
  brec none (evC L rec code (fun ex T H=>exRec (fin2 L res T H) (fun _=>none) (fin2 L res T H) (fun _=>none) ex) (zwb args 0 .nil) H) (Nat.ble (len args) nt)) F) (fnF L f)
def bodyS (L:Lk) (rec:Rec) (f:FuncId) (args:List AV) (H:AH):Option Out:=brec (callF L rec f args H) none (L.dfn f)
def extS (L:Lk) (f:FuncId) (args:List AV) (H:AH):Option (AV×AH):=orec none (fun g=>g args H) (L.ext f)
def callS (L:Lk) (rec:Rec) (f:FuncId) (args:List AV) (H:AH):Option Out:=orec (bodyS L rec f args H) (fun p=>some (out1 p.1 p.2)) (extS L f args H)
def zxd1 (rec:Rec) (body:Code) (ex:Ex) (T:Tr AV) (H:AH):Option Out :=
 Ex.rec (motive:=fun _=>Rec->Code->Tr AV->AH->Option Out) (fun rec body T H=>rec (.loop body T H)) (fun id _ _ T H=>some ⟨.exit id,T,H⟩) (fun _ _ T H=>some ⟨.ret,T,H⟩) (fun l _ _ T H=>some ⟨.goto l,T,H⟩) ex rec body T H
def loopS (L:Lk) (rec:Rec) (body:Code) (T:Tr AV) (H:AH):Option Out:=evC' (comp L body) L rec (zxd1 rec body) T H
def zsy (L:Lk) (rec:Rec) (l:Nat) (args:List AV) (H:AH):Option Out:=(match Nat.ble H.lo l,H.get l with
  |true,some (.loop .ready none T n ps assign body)=>(match Nat.beq (len args) (len ps) with
   |false=>none
   |true=>match runC L rec assign (zic (ps.zip args) T) H with
    |none=>none
    |some o1=>match o1.ex with
     | .normal=>(match o1.H.get l with
      |some (.loop .ready none T2 n2 ps2 as2 bd2)=>(match runC L rec body o1.T (o1.H.put l (.loop .busy none T2 n2 ps2 as2 bd2)) with
       |none=>none
       |some o2=>match o2.H.get l with
        |some (.loop .busy _ T n ps assign body)=>(match o2.ex with
         | .normal=>some (out1 (.bool true) (o2.H.put l (.loop .ready none T n ps assign body)))
         | .exit id=>some (out1 (.bool false) (o2.H.put l (.loop .done (some (.exit id)) T n ps assign body)))
         | .ret=>some (out1 (.bool false) (o2.H.put l (.loop .done (some .ret) T n ps assign body)))
         | .goto _=>none)
        |_=>none)
      |_=>none)
     |_=>none)
  |_,_=>none)
def zfm1 (L:Lk) (rec:Rec) (g:AV) (ps:List Tmp) (assign body:Code) (T:Tr AV) (H:AH):Option Out :=
  (match zec g [.yld H.next] with
  |some (.enter f args)=>(match L.func f with
   |none=>none
   |some fn=>match fn.body with
    |none=>none
    |some _=>match rec (.call f args (H.new (.loop .ready none T 0 ps assign body))) with
     |none=>none
     |some o=>match Nat.ble o.H.lo H.next,o.H.get H.next with
      |true,some (.loop st pend _ _ _ _ _)=>(match st with
       | .busy=>none
       |_=>match pend with
        |none=>some ⟨.normal,T,o.H.put H.next .defd⟩
        |some (.exit id)=>some ⟨.exit id,T,o.H.put H.next .defd⟩
        |some .ret=>some ⟨.ret,T,o.H.put H.next .defd⟩
        |_=>none)
      |_,_=>none)
  |_=>none)
def stepF (L:Lk) (rec:Rec) (r:Req):Option Out :=
 Req.rec (motive:=fun _=>Lk->Rec->Option Out) (fun f args H L rec=>callS L rec f args H) (fun body T H L rec=>loopS L rec body T H) (fun l args H L rec=>zsy L rec l args H)
  (fun g ps assign body T H L rec=>zfm1 L rec g ps assign body T H) r L rec
def evF (L:Lk) (fuel:Nat):Rec:=nrecF (α:=Req) (β:=Option Out) (fun _=>none) (fun _ rec r=>stepF L rec r) fuel
theorem zgm1 (L:Lk) (rec:Rec) (f:FuncId) (args:List AV) (H:AH):callF L rec f args H=(match L.func f with
     |none=>none
     |some fn=>match fn.body with
      |none=>none
      |some c=>match Nat.ble (len args) fn.ntmps with
       |false=>none
       |true=>match zzb L rec c (zwb args 0 .nil) H with
        |none=>none
        |some o=>match o.ex with
         | .ret| .normal=>(match znb L o.T o.H fn.results.toList with
          |some vs=>(match vs with| [v]=>some (out1 v o.H)|vs=>some (out1 (.tup vs) o.H))
          |none=>none)
         |_=>none):=by
 unfold callF fnF;cases L.func f with
 |none=>rfl
 |some fn =>
  simp only;cases fn.body with
  |none=>rfl
  |some c =>
   show brec none (evC L rec (comp L c) (fun ex T H=>exRec (fin2 L fn.results.toList T H) (fun _=>none) (fin2 L fn.results.toList T H) (fun _=>none) ex) (zwb args 0 .nil) H) (Nat.ble (len args) fn.ntmps)=_
   simp only;cases Nat.ble (len args) fn.ntmps with
   |false=>rfl
   |true =>
    simp only [zhm];rw [zyq];cases zzb L rec c (zwb args 0 .nil) H with
    |none=>rfl
    |some o =>
     obtain ⟨ex,T1,H1⟩:=o;cases ex<;>rfl
theorem zhm1 (L:Lk) (n:Nat):evF L n=evReq L n:=by
 induction n with
 |zero=>rfl
 |succ n ih =>
  funext r
  show stepF L (evF L n) r=evReq L (n+1) r
  rw [ih];cases r with
  |call f args H =>
   have he:extS L f args H=zyp L f args H:=by unfold extS zyp;cases L.ext f<;>rfl
   show orec (bodyS L (evReq L n) f args H) (fun p=>some (out1 p.1 p.2)) (extS L f args H)=(match zyp L f args H with
    |some p=>some (out1 p.1 p.2)
    |none=>match L.dfn f with
    |true=>none
    |false=>match L.func f with
     |none=>none
     |some fn=>match fn.body with
      |none=>none
      |some c=>match Nat.ble (len args) fn.ntmps with
       |false=>none
       |true=>match zzb L (evReq L n) c (zwb args 0 .nil) H with
        |none=>none
        |some o=>match o.ex with
         | .ret| .normal=>(match znb L o.T o.H fn.results.toList with
          |some vs=>(match vs with| [v]=>some (out1 v o.H)|vs=>some (out1 (.tup vs) o.H))
          |none=>none)
         |_=>none)
   rw [he];cases zyp L f args H with
   |some p=>rfl
   |none =>
    show bodyS L (evReq L n) f args H=_
    unfold bodyS;cases L.dfn f with
    |true=>rfl
    |false=>exact zgm1 L _ f args H
  |loop body T H =>
   show evC L (evReq L n) (comp L body) (zxd1 (evReq L n) body) T H=evReq L (n+1) (.loop body T H)
   rw [zyq];show _=(match zzb L (evReq L n) body T H with
    |none=>none
    |some o=>match o.ex with
     | .normal=>evReq L n (.loop body o.T o.H)
     |_=>some o)
   cases zzb L (evReq L n) body T H with
   |none=>rfl
   |some o=>obtain ⟨ex,T1,H1⟩:=o;cases ex<;>rfl
  |round l args H =>
   show zsy L (evReq L n) l args H=_
   simp only [zsy,znh1];rfl
  |range g ps assign body T H=>rfl
end
open Go.RowKit
abbrev XFn:=List AV->AH->Option (AV×AH)
def XOk (P:Program) (B:Nat) (f:FuncId) (g:XFn):Prop :=
 ∀args H p,g args H=some p-> ∀E w us,H.Wf->St B E H w->StL E H.next args us->CallOk P B E H w f us p.1 p.2
def xLook (tab:List (Nat×XFn)) (f:Nat):Option XFn:=lrec (β:=Option XFn) none (fun p _ ih=>brec ih (some p.2) (Nat.beq p.1 f)) tab
theorem zyd1 {tab:List (Nat×XFn)}{f:Nat}{g:XFn}(h:xLook tab f=some g):(f,g)∈tab:=by
 induction tab with
 |nil=>cases h
 |cons p tab ih =>
  have h:brec (xLook tab f) (some p.2) (Nat.beq p.1 f)=some g:=h;cases hb:Nat.beq p.1 f with
  |true =>
   rw [hb] at h;cases h;have:=qf hb;subst this;exact qq1
  |false=>rw [hb] at h;exact qj1 _ (ih h)
def zLook (tab:List (Nat×Nat)) (t:Nat):Option AV:=lrec (β:=Option AV) none (fun p _ ih=>brec ih (some (.bag p.2 0)) (Nat.beq p.1 t)) tab
theorem zzd1 {tab:List (Nat×Nat)}{t:Nat}{z:AV}(h:zLook tab t=some z):∃n,(t,n)∈tab/\z= .bag n 0:=by
 induction tab with
 |nil=>cases h
 |cons p tab ih =>
  have h:brec (zLook tab t) (some (.bag p.2 0)) (Nat.beq p.1 t)=some z:=h;cases hb:Nat.beq p.1 t with
  |true =>
   rw [hb] at h;cases h;have:=qf hb;subst this;exact ⟨_,qq1,rfl⟩
  |false =>
   rw [hb] at h;obtain ⟨n,h1,h2⟩:=ih h;exact ⟨n,qj1 _ h1,h2⟩
def zFit (v:Value) (n:Nat):Bool:=match ofValue v with|some (.agg l)=>(match Ce.pack l with|some m=>Nat.beq m 0 && Nat.beq (len l) n|none=>false)|_=>false
theorem zFit_ok {v:Value}{n:Nat}(h:zFit v n=true) (E:Env):conc E (.bag n 0)=v:=by
 unfold zFit at h;split at h
 ·next l hl =>
  split at h
  ·next m hm =>
   rw [qm] at h;have h1:=qf h.1;have h2:=qf h.2;subst h1;have:(Ce.of l).l=l:=Ce.of_l l;unfold Ce.of at this;rw [hm,h2] at this;have h3:bytesL n 0=l:=this;rw [zzf,h3,← zag hl];rfl
  ·cases h
 ·cases h
def zFits (ts:List TypeInfo) (p:Nat×Nat):Bool:=match ts[p.1]? with|some i=>(match i.zero with|some v=>zFit v p.2|none=>false)|none=>false
def lkZ (P:Program) (fs:Tr Func) (ts:Tr TypeInfo) (tab:List (Nat×XFn)) (zl:List (Nat×Nat)):Lk :=
 {func:=fun f=>fs.get f,info:=fun t=>ts.get t,plainEq:=fun t=> !P.stoodInHeld t && !P.eqGuardType P.depth t,ext:=fun f=>xLook tab f,zt:=fun t=>zLook zl t}
theorem zae1 {P:Program}{tab:List (Nat×XFn)}{zl:List (Nat×Nat)}(hm:P.follows .mixedOrders=true) (hf:P.funcs.toList.all fitFn=true) (hz:zl.all (zFits P.types.toList)=true) (hn:(lkOf P (Tr.ofList P.funcs.toList) (Tr.ofList P.types.toList)).zero 5=some (.int .u8 0)/\(lkOf P (Tr.ofList P.funcs.toList) (Tr.ofList P.types.toList)).zero 9=some (.str ⟨#[]⟩):=by exact ⟨kR,kR⟩) (hz5:zLook zl 5=none/\zLook zl 9=none:=by exact ⟨kR,kR⟩):LOk (lkZ P (Tr.ofList P.funcs.toList) (Tr.ofList P.types.toList) tab zl) P :=
 let h:=lkOf_ok hm hf hn
 ⟨⟨h.info,h.plainEq,fun t z ht=>by
  obtain ⟨n,h1,rfl⟩:=zzd1 ht;have h2:=qb1.1 hz _ h1;unfold zFits at h2;split at h2
  ·next i hi =>
   split at h2
   ·next v hv=>exact ⟨i,v,by show (Tr.ofList P.types.toList).get t=some i;rw [Tr.get_ofList];exact hi,hv,zFit_ok h2⟩
   ·cases h2
  ·(cases h2),by
   have hn:=hn;unfold Lk.zero at hn ⊢
   show (match zLook zl 5 with|some z=>some z|none=>_)=_/\(match zLook zl 9 with|some z=>some z|none=>_)=_
   rw [hz5.1,hz5.2];exact hn⟩,h.func,h.mixed⟩
theorem zin {P:Program}{fs:Tr Func}{ts:Tr TypeInfo}{tab:List (Nat×XFn)}{zl:List (Nat×Nat)}{B:Nat}(h:∀p∈tab,XOk P B p.1 p.2):ExtOk (lkZ P fs ts tab zl) P B :=
 fun f g hg=>h (f,g) (zyd1 hg)
structure Bare (P:Program) (f:FuncId) (e:Array Value->Sem Value):Prop where
 ok : ∃ fn, P.funcs[f]? = some fn ∧ (fn.name == "runtime.NumGoroutine") = false ∧ fn.body.isNone = true ∧ Extern.findNext fn = none ∧ Extern.find fn = some e
theorem Bare.run {P:Program}{f:FuncId}{e:Array Value->Sem Value}(h:Bare P f e){us:Array Value}{w w1:World}{u:Value}(he:(e us).run P w= .ok u w1):(callFunc f us).run P w= .ok (.value u) w1:=by
 obtain ⟨fn,h1,h2,h3,h4,h5⟩:=h.ok;unfold callFunc;simp only [qj,program,Sem.run,qb,h1,h2,h3,h4,h5,ql1,qu3,qc5];rw [show (Go.mark (Mark.extern f)).run P w= .ok () w from rfl]
 simp only [qb,he];rfl
def zrh:XFn:=fun args H=>match args with
 | [.str s,.int .u8 c]=>some (.int .i64 (match (List.range s.size).find? fun i=>s[i]! == c.toNat.toUInt8 with|some i=>(i:Int)|none=> -1),H)
 |_=>none
def zjn:XFn:=fun args H=>match args with
 | [.str a,.str b]=>some (.int .i64 (Extern.BytealgCompare.cmp a b),H)
 |_=>none
theorem zjp {P:Program}{B:Nat}{f:FuncId}(hf:Bare P f Extern.BytealgIndexByte.indexByte):XOk P B f zrh:=by
 intro args H p hp E w us hw hS hus;unfold zrh at hp;split at hp
 ·next s c =>
  cases hp
  have hu:=hus E (Agree.refl _ _);subst hu;unfold CallOk;have:(callFunc f (concL E [.str s,.int .u8 c]).toArray).run P w= .ok (.value (.int .i64 (match (List.range s.size).find? fun i=>s[i]! == c.toNat.toUInt8 with|some i=>(i:Int)|none=> -1))) w:=by
   refine hf.run ?_;have hi:Extern.BytealgIndexByte.indexByte #[Value.string s,Value.int .u8 c]=(do
     let b ← Extern.Bytes.bytesOf (.string s)
     let c ← Extern.Bytes.asByte (.int .u8 c)
     match (List.range b.size).find? fun i=>b[i]! == c with
     |some i=>pure (goInt i)
     |none=>pure (goInt (-1))):=rfl
   show (Extern.BytealgIndexByte.indexByte #[Value.string s,Value.int .u8 c]).run P w=_
   rw [hi];simp only [Extern.Bytes.bytesOf,Extern.Bytes.asByte,qj,qt,qb];split<;>rfl
  rw [this];exact Done.same hw hS (fun _ _=>rfl)
 ·cases hp
theorem zew {P:Program}{B:Nat}{f:FuncId}(hf:Bare P f Extern.BytealgCompare.compare):XOk P B f zjn:=by
 intro args H p hp E w us hw hS hus;unfold zjn at hp;split at hp
 ·next a b =>
  cases hp
  have hu:=hus E (Agree.refl _ _);subst hu;unfold CallOk;have:(callFunc f (concL E [.str a,.str b]).toArray).run P w= .ok (.value (.int .i64 (Extern.BytealgCompare.cmp a b))) w:=by
   refine hf.run ?_;have hi:Extern.BytealgCompare.compare #[Value.string a,Value.string b]=(do pure (goInt (Extern.BytealgCompare.cmp (← Extern.Bytes.bytesOf (.string a)) (← Extern.Bytes.bytesOf (.string b))))):=rfl
   show (Extern.BytealgCompare.compare #[Value.string a,Value.string b]).run P w=_
   rw [hi];simp only [Extern.Bytes.bytesOf,qj,qt,qb];rfl
  rw [this];exact Done.same hw hS (fun _ _=>rfl)
 ·cases hp
def tO (k:Nat):O2:=brec (.hi k) (.lo (dg (Nat.div k 8)) (dg (Nat.mod k 8))) (Nat.blt k 64)
def gT (T:Tr AV) (k:Nat):AV:=dflt (T.get k)
theorem ev_tO (k:Nat) (T:Tr AV):(tO k).ev T=gT T k:=by
 have:=zoa T (.tmp k);have h2:opnd T (.tmp k)=some (gT T k):=by
  show (match T.get k with|some v=>some v|none=>some AV.undef)=some (dflt (T.get k))
  cases T.get k<;>rfl
 rw [h2] at this;exact (ql3 this).symm
theorem zbe1 (v:AV) (T:Tr AV):(O2.con v).ev T=v:=rfl
theorem zfw (T:Tr AV) (j:Nat) (v:AV) (k:Nat):gT (T.set j v) k=if k=j then v else gT T k:=by
 unfold gT;rw [Tr.get_set];split<;>rfl
theorem zim1 (T:Tr AV) (j:Nat) (v:AV) (k:Nat):gT (putS (some (sOf j)) v T) k=if k=j then v else gT T k:=by
 show gT ((sOf j).set v T) k=_
 rw [zny,zfw]
theorem zoh1 (T:Tr AV) (v:AV) (k:Nat):gT (putS none v T) k=gT T k:=rfl
theorem zce1 (k:Nat):gT .nil k= .undef:=by
 unfold gT;rw [Tr.get_nil];rfl
theorem zde1 (j:Nat) (T:Tr AV):zwb [] j T=T:=rfl
theorem zph1 (v:AV) (l:List AV) (j:Nat) (T:Tr AV):zwb (v::l) j T=zwb l (j+1) (T.set j v):=rfl
theorem zts (T:Tr AV):evs [] T= []:=rfl
theorem zkn (x:O2) (xs:List O2) (T:Tr AV):evs (x::xs) T=x.ev T::evs xs T:=rfl
theorem zus (a:AV) (l:List AV):hd (a::l)=a:=rfl
theorem zvs (a:AV) (l:List AV):tl (a::l)=l:=rfl
inductive Kf where
 |seq (b:C2)
 |blk (id:Nat)
 |scp
def kOf (L:Lk) (rec:Rec):List Kf->Kont
 | []=>fun ex T H=>some ⟨ex,T,H⟩
 | .seq b::s=>fun ex T H=>exSeq (evC' b L rec (kOf L rec s) T H) (kOf L rec s) T H ex
 | .blk id::s=>fun ex T H=>exBlk id (kOf L rec s) T H ex
 | .scp::s=>fun ex T H=>exRec (kOf L rec s .normal T H) (fun i=>kOf L rec s (.exit i) T H) (kOf L rec s .ret T H) (fun _=>none) ex
abbrev PostC:=Ex->Tr AV->AH->Prop
def Comes (Q:PostC) (F:Rec->Option Out) (L:Lk):Prop:= ∃o:Out,Q o.ex o.T o.H/\ ∃n,∀m,n<=m->F (evF L m)=some o
structure RC (L:Lk) (c:C2) (s:List Kf) (T:Tr AV) (H:AH) (Q:PostC):Prop where
 h:Comes Q (fun rec=>evC' c L rec (kOf L rec s) T H) L
structure RK (L:Lk) (k:K2) (s:List Kf) (T:Tr AV) (H:AH) (Q:PostC):Prop where
 h:Comes Q (fun rec=>runK' k L rec (kOf L rec s .normal) T H) L
structure RN (L:Lk) (s:List Kf) (ex:Ex) (T:Tr AV) (H:AH) (Q:PostC):Prop where
 h:Comes Q (fun rec=>kOf L rec s ex T H) L
structure FnE (L:Lk) (f:FuncId) (args:List AV) (H:AH) (R:AV->AH->Prop):Prop where
 h:∃v H',R v H'/\ ∃n,∀m,n<=m->evF L m (.call f args H)=some (out1 v H')
structure LpE (L:Lk) (body:Code) (T:Tr AV) (H:AH) (R:PostC):Prop where
 h:Comes R (fun rec=>rec (.loop body T H)) L
section
variable {L:Lk}{s:List Kf}{T:Tr AV}{H:AH}{Q:PostC}{k:K2}{d:Option S2}
theorem Comes.mono {Q Q':PostC}{F:Rec->Option Out}(h:Comes Q F L) (hq:∀ex T H,Q ex T H->Q' ex T H):Comes Q' F L:=by
 obtain ⟨o,h1,h2⟩:=h;exact ⟨o,hq _ _ _ h1,h2⟩
theorem FnE.mono {f:FuncId}{args:List AV}{R R':AV->AH->Prop}(h:FnE L f args H R) (hq:∀v H,R v H->R' v H):FnE L f args H R':=by
 obtain ⟨v,H',h1,h2⟩:=h.h;exact ⟨v,H',hq _ _ h1,h2⟩
theorem zjm1 {ex:Ex}(h:Q ex T H):RN L [] ex T H Q:=⟨⟨ex,T,H⟩,h,0,fun _ _=>rfl⟩
theorem rn_seq_n {b:C2}(h:RC L b s T H Q):RN L (.seq b::s) .normal T H Q:=⟨h.h⟩
theorem rn_seq_r {b:C2}(h:RN L s .ret T H Q):RN L (.seq b::s) .ret T H Q:=⟨h.h⟩
theorem rc_skip (h:RN L s .normal T H Q):RC L .skip s T H Q:=⟨h.h⟩
theorem rc_reg (h:RK L k s T H Q):RC L (.reg k) s T H Q:=⟨h.h⟩
theorem rc_seq {a b:C2}(h:RC L a (.seq b::s) T H Q):RC L (.seq a b) s T H Q:=⟨h.h⟩
theorem rc_ret (h:RN L s .ret T H Q):RC L .ret s T H Q:=⟨h.h⟩
theorem rc_cond {x:O2}{a b:C2}{c:Bool}(hx:x.ev T= .bool c) (ha:c=true->RC L a s T H Q) (hb:c=false->RC L b s T H Q):RC L (.cond x a b) s T H Q:=by
 refine ⟨?_⟩;show Comes Q (fun rec=>zul none (fun y=>brec (evC' b L rec (kOf L rec s) T H) (evC' a L rec (kOf L rec s) T H) y) (x.ev T)) L
 rw [hx];cases c with
 |true=>exact (ha rfl).h
 |false=>exact (hb rfl).h
theorem rc_loop {body:Code}{R:PostC}(h:LpE L body T H R) (hk:∀ex T' H',R ex T' H'->RN L s ex T' H' Q):RC L (.loop body) s T H Q:=by
 obtain ⟨o,hR,n,hn⟩:=h.h;obtain ⟨o2,hQ,n2,h2⟩:=(hk _ _ _ hR).h;refine ⟨o2,hQ,max n n2,fun m hm=> ?_⟩
 show orec none (fun o=>zdw (kOf L (evF L m) s) o) (evF L m (.loop body T H))=some o2
 have hn:evF L m (.loop body T H)=some o:=hn m oM
 rw [hn];exact h2 m oM
theorem rk_done (h:RN L s .normal T H Q):RK L .done s T H Q:=⟨h.h⟩
theorem rk_p1 {f:AV->Option AV}{x:O2}{v:AV}(hv:f (x.ev T)=some v) (h:RK L k s (putS d v T) H Q):RK L (.p1 f x d k) s T H Q:=by
 refine ⟨?_⟩;show Comes Q (fun rec=>orec none (fun v=>runK' k L rec (kOf L rec s .normal) (putS d v T) H) (f (x.ev T))) L
 rw [hv];exact h.h
theorem rk_p2 {f:AV->AV->Option AV}{x y:O2}{v:AV}(hv:f (x.ev T) (y.ev T)=some v) (h:RK L k s (putS d v T) H Q):RK L (.p2 f x y d k) s T H Q:=by
 refine ⟨?_⟩;show Comes Q (fun rec=>orec none (fun v=>runK' k L rec (kOf L rec s .normal) (putS d v T) H) (f (x.ev T) (y.ev T))) L
 rw [hv];exact h.h
theorem rk_ln {f:List AV->AH->Option AV}{xs:List O2}{v:AV}(hv:f (evs xs T) H=some v) (h:RK L k s (putS d v T) H Q):RK L (.ln f xs d k) s T H Q:=by
 refine ⟨?_⟩;show Comes Q (fun rec=>orec none (fun v=>runK' k L rec (kOf L rec s .normal) (putS d v T) H) (f (evs xs T) H)) L
 rw [hv];exact h.h
theorem rk_ls {f:List AV->AH->Option AV}{xs:List O2}{o:Oper}{v:AV}(hv:f (evs xs T) H=some v) (h:RK L k s (putS d v T) H Q):RK L (.ls f xs o d k) s T H Q:=by
 refine ⟨?_⟩;show Comes Q (fun rec=>orec (orec none (prodO (fun v H'=>runK' k L rec (kOf L rec s .normal) (putS d v T) H')) (evEnd L T o H)) (fun v=>runK' k L rec (kOf L rec s .normal) (putS d v T) H) (f (evs xs T) H)) L
 rw [hv];exact h.h
theorem rk_hn {w:Bool}{f:List AV->AH->Option (AV×AH)}{xs:List O2}{v:AV}{H':AH}(hv:f (evs xs T) (hIn w H)=some (v,H')) (h:RK L k s (putS d v T) (hOut w H H') Q):RK L (.hn w f xs d k) s T H Q:=by
 refine ⟨?_⟩;show Comes Q (fun rec=>orec none (prodO (fun v H'=>runK' k L rec (kOf L rec s .normal) (putS d v T) (hOut w H H'))) (f (evs xs T) (hIn w H))) L
 rw [hv];exact h.h
theorem rk_cl {w:Bool}{f:FuncId}{xs:List O2}{R:AV->AH->Prop}(hc:FnE L f (evs xs T) (hIn w H) R) (h:∀v H',R v H'->RK L k s (putS d v T) (hOut w H H') Q):RK L (.cl w f xs d k) s T H Q:=by
 obtain ⟨v,H',hR,n,hn⟩:=hc.h;obtain ⟨o,hQ,n2,h2⟩:=(h v H' hR).h;refine ⟨o,hQ,max n n2,fun m hm=> ?_⟩
 show orec none (outO (fun v H'=>runK' k L (evF L m) (kOf L (evF L m) s .normal) (putS d v T) (hOut w H H'))) (evF L m (.call f (evs xs T) (hIn w H)))=some o
 rw [hn m oM]
 exact h2 m oM
theorem rk_cw {rd:Option (List S2)}{f:FuncId}{xs:List O2}{js:List Nat}{R:AV->AH->Prop}(hp:ptrsO rd T=some js) (hc:FnE L f (evs xs T) H R) (h:∀v H',R v H'->zsg H H' js=true/\RK L k s (putS d v T) H' Q):RK L (.cw rd f xs d k) s T H Q:=by
 obtain ⟨v,H',hR,n,hn⟩:=hc.h;obtain ⟨hs,hk⟩:=h v H' hR;obtain ⟨o,hQ,n2,h2⟩:=hk.h;refine ⟨o,hQ,max n n2,fun m hm=> ?_⟩
 show orec
  (orec none (outO (fun v H'=>runK' k L (evF L m) (kOf L (evF L m) s .normal) (putS d v T) (hOut true H H'))) (evF L m (.call f (evs xs T) (hIn true H))))
  (fun js=>orec none (outO (fun v H'=>brec none (runK' k L (evF L m) (kOf L (evF L m) s .normal) (putS d v T) H') (zsg H H' js))) (evF L m (.call f (evs xs T) H)))
  (ptrsO rd T)=some o
 rw [hp];show orec none _ (evF L m (.call f (evs xs T) H))=some o
 rw [hn m oM]
 show brec none (runK' k L (evF L m) (kOf L (evF L m) s .normal) (putS d (dflt (Tr.getLo .d0 .d0 (out1 v H').T)) T) H') (zsg H H' js)=some o
 rw [hs];exact h2 m oM
def resV (L:Lk) (rs:List ResultVar) (T:Tr AV) (H:AH):Option AV:=match znb L T H rs with|some vs=>(match vs with| [v]=>some v|vs=>some (.tup vs))|none=>none
def FnQ (L:Lk) (rs:List ResultVar) (R:AV->AH->Prop):PostC:=fun ex T H=>(ex= .normal\/ex= .ret)/\ ∃v,resV L rs T H=some v/\R v H
theorem zgw (L:Lk) (t:Tmp):resV L [.tmp t] T H=some (gT T t):=by
 unfold resV znb gT;show (match obind (match T.get t with|some v=>some v|none=>some AV.undef) (fun b=>obind (some []) fun bs=>some (b::bs)) with|some vs=>(match vs with| [v]=>some v|vs=>some (AV.tup vs))|none=>none)=_
 cases T.get t<;>rfl
theorem zee1 (L:Lk) (t u:Tmp):resV L [.tmp t,.tmp u] T H=some (.tup [gT T t,gT T u]):=by
 unfold resV znb gT;show (match obind (match T.get t with|some v=>some v|none=>some AV.undef) (fun b=>obind (obind (match T.get u with|some v=>some v|none=>some AV.undef) (fun b=>obind (some []) fun bs=>some (b::bs))) fun bs=>some (b::bs)) with|some vs=>(match vs with| [v]=>some v|vs=>some (AV.tup vs))|none=>none)=_
 cases T.get t<;>cases T.get u<;>rfl
theorem zfe1 (L:Lk):resV L [] T H=some (.tup []):=rfl
theorem zhw {rs:List ResultVar}{R:AV->AH->Prop}{v:AV}(hv:resV L rs T H=some v) (h:R v H):FnQ L rs R .ret T H:=⟨.inr rfl,v,hv,h⟩
theorem zge1 {rs:List ResultVar}{R:AV->AH->Prop}{v:AV}(hv:resV L rs T H=some v) (h:R v H):FnQ L rs R .normal T H:=⟨.inl rfl,v,hv,h⟩
theorem zuc {f:FuncId}{args:List AV}{nt:Nat}{c:C2}{rs:List ResultVar}{R:AV->AH->Prop}
  (hf:fnF L f=some ⟨nt,c,rs⟩) (hx:L.ext f=none) (hn:Nat.ble (len args) nt=true) (h:RC L c [] (zwb args 0 .nil) H (FnQ L rs R)) (hd:L.dfn f=false:=by rfl):FnE L f args H R:=by
 obtain ⟨o,⟨hex,v,hv,hR⟩,n,hm⟩:=h.h;obtain ⟨ex,T1,H1⟩:=o;simp only at hex hv hR;refine ⟨v,H1,hR,n+1,fun m hmn=> ?_⟩
 obtain ⟨m,rfl⟩:∃m',m=m'+1:=⟨m - 1,oM⟩
 have hm:=hm m oM
 show callS L (evF L m) f args H=_
 unfold callS extS;rw [hx];show bodyS L (evF L m) f args H=_
 unfold bodyS;rw [hd];show callF L (evF L m) f args H=_
 have hcode:∃fn body,L.func f=some fn/\fn.body=some body/\c=comp L body:=by
  unfold fnF at hf;cases h1:L.func f with
  |none=>rw [h1] at hf;cases hf
  |some fn =>
   rw [h1] at hf;simp only at hf;cases h2:fn.body with
   |none=>rw [h2] at hf;cases hf
   |some b=>rw [h2] at hf;cases hf;exact ⟨fn,b,rfl,h2,rfl⟩
 obtain ⟨fn,body,_,_,rfl⟩:=hcode;unfold callF;rw [hf];show brec none (evC L (evF L m) (comp L body) (fun ex T H=>exRec (fin2 L rs T H) (fun _=>none) (fin2 L rs T H) (fun _=>none) ex) (zwb args 0 .nil) H) (Nat.ble (len args) nt)=_
 rw [hn];simp only [zhm];have h0:evC L (evF L m) (comp L body) (fun ex T H=>some ⟨ex,T,H⟩) (zwb args 0 .nil) H=some ⟨ex,T1,H1⟩:=hm
 rw [zyq] at h0 ⊢
 cases he:zzb L (evF L m) body (zwb args 0 .nil) H with
 |none=>rw [he] at h0;cases h0
 |some o =>
  rw [he] at h0;obtain ⟨ex',T',H'⟩:=o;simp only [qe2,Out.mk.injEq] at h0;obtain ⟨rfl,rfl,rfl⟩:=h0;have hfin:fin2 L rs T' H'=some (out1 v H'):=by
   unfold fin2;unfold resV at hv;cases hr:znb L T' H' rs with
   |none=>rw [hr] at hv;cases hv
   |some vs =>
    rw [hr] at hv;rcases vs with _|⟨a,_|⟨b,l⟩⟩<;>(cases hv;rfl)
  rcases hex with rfl|rfl<;>exact hfin
def LpQ (I:Nat->Tr AV->AH->Prop) (R:PostC) (k:Nat):PostC:=fun ex T H=>match ex with| .normal=> ∃k',k'<k/\I k' T H|ex=>R ex T H
theorem lp_ind {body:Code}{c:C2}(hc:comp L body=c) (I:Nat->Tr AV->AH->Prop) (R:PostC) (h:∀k T H,I k T H->RC L c [] T H (LpQ I R k)) :
  ∀k T H,I k T H->LpE L body T H R:=by
 intro k
 induction k using Nat.strongRecOn with
 |_ k ih =>
  intro T H hI;obtain ⟨o,hq,n,hn⟩:=(h k T H hI).h;obtain ⟨ex,T1,H1⟩:=o;subst hc;have step:∀m,n<=m->evF L (m+1) (.loop body T H)=zxd1 (evF L m) body ex T1 H1:=fun m hm=>by
   have h0:evC L (evF L m) (comp L body) (fun ex T H=>some ⟨ex,T,H⟩) T H=some ⟨ex,T1,H1⟩:=hn m hm
   show evC L (evF L m) (comp L body) (zxd1 (evF L m) body) T H=_
   rw [zyq] at h0 ⊢
   cases he:zzb L (evF L m) body T H with
   |none=>rw [he] at h0;cases h0
   |some o =>
    rw [he] at h0;obtain ⟨ex',T',H'⟩:=o;simp only [qe2,Out.mk.injEq] at h0;obtain ⟨rfl,rfl,rfl⟩:=h0;rfl
  cases ex with
  |normal =>
   obtain ⟨k',hk',hI'⟩:=hq;obtain ⟨o2,hR,n2,h2⟩:=(ih k' hk' T1 H1 hI').h;refine ⟨o2,hR,max n n2+1,fun m hm=> ?_⟩
   obtain ⟨m,rfl⟩:∃m',m=m'+1:=⟨m - 1,oM⟩
   show evF L (m+1) (.loop body T H)=_
   rw [step m oM]
   exact h2 m oM
  |_ =>
   refine ⟨_,hq,n+1,fun m hm=> ?_⟩
   obtain ⟨m,rfl⟩:∃m',m=m'+1:=⟨m - 1,oM⟩
   show evF L (m+1) (.loop body T H)=_
   rw [step m oM]
   rfl
end
def bodyN (L:Lk) (f:FuncId):Code:=match L.func f with|some fn=>(match fn.body with|some c=>c|none=>.skip)|none=>.skip
def loopsC (c:Code):List Code :=
 crec (β:=List Code) [] (fun _ _ _=> []) (fun _ _ a b=>a ++ b) (fun _ _ _ a b=>a ++ b) (fun _ _ a=>a) (fun body a=>body::a) (fun _ _ x y a b=>x::y::(a ++ b)) (fun _=> []) (fun _ a=>a) (fun _=> []) (fun _=> []) [] (fun _=> []) c
def regsC (c:Code):List (List Oper) :=
 crec (β:=List (List Oper)) [] (fun _ ops _=> [ops.toList]) (fun _ _ a b=>a ++ b) (fun _ _ _ a b=>a ++ b) (fun _ _ a=>a) (fun _ a=>a) (fun _ _ _ _ a b=>a ++ b) (fun _=> []) (fun _ a=>a) (fun _=> []) (fun _=> []) [] (fun _=> []) c
def lpN (c:Code) (k:Nat):Code:=match nth (loopsC c) k with|some b=>b|none=>.skip
def opN (c:Code) (r i:Nat):Oper:=match nth (regsC c) r with|some l=>(match nth l i with|some o=>o|none=>default)|none=>default
theorem zbd (g:IntKind->Int->Int->Option AV) (s:AV->AV->Option AV) (k:IntKind) (a b:Int):int2 g s (.int k a) (.int k b)=g k a b:=by
 show brec (s (.int k a) (.int k b)) (g k a b) (kEq k k)=_
 rw [kEq_eq];simp [brec]
section
variable {s:AV->AV->Option AV}{k:IntKind}{a b:Int}
theorem zws:binF .add s (.int k a) (.int k b)=some (.int k (fw k (a+b))):=by rw [← FI.add_eq];exact zbd _ _ _ _ _
theorem zxs:binF .sub s (.int k a) (.int k b)=some (.int k (fw k (a - b))):=by rw [← FI.sub_eq];exact zbd _ _ _ _ _
theorem zys:binF .mul s (.int k a) (.int k b)=some (.int k (fw k (a*b))):=by rw [← FI.mul_eq];exact zbd _ _ _ _ _
theorem zzs:binF .eql s (.int k a) (.int k b)=some (.bool (decide (a=b))):=by
 refine (zbd _ _ _ _ _).trans ?_;show some (AV.bool (FI.beq a b))=_;rw [FI.beq_eq];congr 2
theorem zat:binF .neq s (.int k a) (.int k b)=some (.bool (decide (a≠b))):=by
 refine (zbd _ _ _ _ _).trans ?_;show some (AV.bool (brec true false (FI.beq a b)))=_
 rw [FI.beq_eq,zmy];congr 2;by_cases h:a=b<;>simp [h]
theorem zbt:binF .lss s (.int k a) (.int k b)=some (.bool (decide (a<b))):=by
 refine (zbd _ _ _ _ _).trans ?_;show some (AV.bool (FI.blt a b))=_;rw [FI.blt_eq]
theorem zct:binF .leq s (.int k a) (.int k b)=some (.bool (decide (a<=b))):=by
 refine (zbd _ _ _ _ _).trans ?_;show some (AV.bool (FI.ble a b))=_;rw [FI.ble_eq]
theorem zdt:binF .gtr s (.int k a) (.int k b)=some (.bool (decide (b<a))):=by
 refine (zbd _ _ _ _ _).trans ?_;show some (AV.bool (FI.blt b a))=_;rw [FI.blt_eq]
theorem zet:binF .geq s (.int k a) (.int k b)=some (.bool (decide (b<=a))):=by
 refine (zbd _ _ _ _ _).trans ?_;show some (AV.bool (FI.ble b a))=_;rw [FI.ble_eq]
theorem zft (h:b≠0):binF .quo s (.int k a) (.int k b)=some (.int k (fw k (a.tdiv b))):=by
 refine (zbd _ _ _ _ _).trans ?_;show brec (some (AV.int k (fw k (FI.quo a b)))) none (FI.is0 b)=_
 rw [FI.is0_eq,FI.quo_eq,show (b == 0)=false from by simp [h]];rfl
theorem zgt (h:b≠0):binF .rem s (.int k a) (.int k b)=some (.int k (a.tmod b)):=by
 refine (zbd _ _ _ _ _).trans ?_;show brec (some (AV.int k (FI.rem a b))) none (FI.is0 b)=_
 rw [FI.is0_eq,FI.rem_eq,show (b == 0)=false from by simp [h]];rfl
end
theorem fw64 {n:Int}(h1 : -9223372036854775808<=n) (h2:n<=9223372036854775807):fw .i64 n=n:=by
 show wrapS 9223372036854775808 .i64 n=n
 cases n with
 |ofNat m =>
  show brec _ (Int.ofNat m) (Nat.blt m 9223372036854775808)=_
  rw [show Nat.blt m 9223372036854775808=true from by rw [qt4];simp only [qg2] at h2;omega]
  rfl
 |negSucc m =>
  show brec _ (Int.negSucc m) (Nat.blt m 9223372036854775808)=_
  rw [show Nat.blt m 9223372036854775808=true from by rw [qt4];rw [qh2] at h1;omega]
  rfl
theorem zhe1 (b:Bool):notF (.bool b)=some (.bool (!b)):=by cases b<;>rfl
theorem zht (a b:AV):pickF [.bool true,a,b]=some a:=rfl
theorem zit (a b:AV):pickF [.bool false,a,b]=some b:=rfl
theorem exN0 (a:AV) (l:List AV):exN 0 (.tup (a::l))=some a:=rfl
theorem exN1 (a b:AV) (l:List AV):exN 1 (.tup (a::b::l))=some b:=rfl
theorem exN2 (a b c:AV) (l:List AV):exN 2 (.tup (a::b::c::l))=some c:=rfl
theorem zln (i o:Nat):nilF (.ptr i o)=some (.ptr i o):=rfl
theorem zie1 (off i o:Nat):fa off (.ptr i o)=some (.ptr i (o+off)):=rfl
theorem min2 (t:List TypeId) (L:Lk) (k k':IntKind) (a b:Int) (H:AH):fstO (zda .min L t [.int k a,.int k' b] H)=some (.int k (if b<a then b else a)):=rfl
theorem max2 (t:List TypeId) (L:Lk) (k k':IntKind) (a b:Int) (H:AH):fstO (zda .max L t [.int k a,.int k' b] H)=some (.int k (if a<b then b else a)):=rfl
theorem hIn_f (H:AH):hIn false H=H:=rfl
theorem zil (H H':AH):hOut false H H'=H':=rfl
def elA (z:Nat):AV->Nat->AV
 | .sl i o _ _ _,k=>.ptr i (o+k*z)
 |_,_=>.undef
def IsSl (H:AH) (v:AV) (n:Nat):Prop:=(v= .nilSl/\n=0)\/ ∃i o c op,v= .sl i o n c op/\(i<H.next/\ ∃cc e z op' ro,H.get i=some (.cells cc e z op' ro)/\o<=cc.l.length)
theorem ix_el {H:AH}{v:AV}{n:Nat}(h:IsSl H v n){k:IntKind}{e:Int}{z:Nat}(h0:0<=e) (h1:e<n):ixS z v (.int k e)=some (elA z v e.toNat):=by
 rcases h with ⟨rfl,rfl⟩|⟨i,o,c,op,rfl,_⟩
 ·exact absurd h1 oM
 ·obtain ⟨m,rfl⟩:=qf7 h0
  show brec none (some (AV.ptr i (o+m*z))) (Nat.blt m n)=_
  rw [show Nat.blt m n=true from by rw [qt4];omega]
  simp only [qc2];rfl
theorem ztc {L:Lk}{t e:TypeId}(ht:L.under t=some (.slice e)){H H':AH}{v:AV}{n:Nat}(h:IsSl H v n):fstO (zda .len L [t] [v] H')=some (.int .i64 n):=by
 show fstO (match evLen L t v H' with|some v=>some (v,H')|none=>none)=_
 unfold evLen;rw [ht];rcases h with ⟨rfl,rfl⟩|⟨i,o,c,op,rfl,_⟩<;>rfl
theorem IsSl.lenOf {H:AH}{v:AV}{n:Nat}(h:IsSl H v n):lenOf v=some n:=by
 rcases h with ⟨rfl,rfl⟩|⟨i,o,c,op,rfl,_⟩<;>rfl
structure HX (H H':AH):Prop where
 next:H.next<=H'.next
 lo:H'.lo=H.lo
 hide:H'.hide=H.hide
 fz:H'.fz=H.fz
 old:∀i,i<H.next->H'.tree.get i=H.tree.get i
theorem HX.refl (H:AH):HX H H:=⟨qn _,rfl,rfl,rfl,fun _ _=>rfl⟩
theorem HX.trans {H H1 H2:AH}(h:HX H H1) (h':HX H1 H2):HX H H2 :=
 ⟨qx2 h.next h'.next,h'.lo.trans h.lo,h'.hide.trans h.hide,h'.fz.trans h.fz,fun i hi=>(h'.old i (qz hi h.next)).trans (h.old i hi)⟩
theorem HX.new (H:AH) (b:ABlk):HX H (H.new b) :=
 ⟨qy3 _,rfl,rfl,rfl,fun i hi=>by show (H.tree.set H.next b).get i=_;rw [Tr.get_set,qd oM]⟩
theorem HX.vis {H H':AH}(h:HX H H') (i:Nat):H'.vis i=H.vis i:=by unfold AH.vis;rw [h.hide]
theorem HX.get {H H':AH}(h:HX H H'){i:Nat}(hi:i<H.next):H'.get i=H.get i:=by unfold AH.get;rw [h.vis,h.old i hi]
theorem IsSl.hx {H H':AH}{v:AV}{n:Nat}(h:IsSl H v n) (hx:HX H H'):IsSl H' v n:=by
 rcases h with h|⟨i,o,c,op,hv,hi,cc,e,z,op',ro,hg,ho⟩
 ·exact .inl h
 ·exact .inr ⟨i,o,c,op,hv,qz hi hx.next,cc,e,z,op',ro,(hx.get hi).trans hg,ho⟩
theorem zkp {i o:Nat}{H:AH}:ld1 (.ptr i o) H=H.read1 i o:=zjs H i o
structure SlR (H:AH) (v:AV) (n:Nat) (g:Nat->AV):Prop where
 is:IsSl H v n
 el:∀k,k<n->ld1 (elA 1 v k) H=some (g k)
theorem SlR.hx {H H':AH}{v:AV}{n:Nat}{g:Nat->AV}(h:SlR H v n g) (hx:HX H H'):SlR H' v n g:=by
 refine ⟨h.is.hx hx,fun k hk=> ?_⟩
 have:=h.el k hk;rcases h.is with ⟨rfl,rfl⟩|⟨i,o,c,op,rfl,hi,_⟩
 ·omega
 ·show ld1 (.ptr i (o+k*1)) H'=_
  have h2:ld1 (.ptr i (o+k*1)) H=some (g k):=this;rw [zkp] at h2 ⊢
  unfold AH.read1 AH.row at h2 ⊢
  rw [hx.get hi];exact h2
abbrev ints (l:List Int) (k:Nat):AV:=.int .i64 (l.getD k 0)
abbrev SlI (H:AH) (v:AV) (l:List Int):Prop:=SlR H v l.length (ints l)
theorem rk_mv' {L:Lk}{s:List Kf}{T:Tr AV}{H:AH}{Q:PostC}{k:K2}{d:Option S2}{x:O2}{v:AV}(hv:x.ev T=v) (h:RK L k s (putS d v T) H Q):RK L (.mv x d k) s T H Q:=by subst hv;exact ⟨h.h⟩
def xTrue:XFn:=fun args H=>match args with| []=>some (.bool true,H)|_=>none
theorem zjt {B:Nat}{E0 E:Env}{H H1:AH}{w w1:World}{v:AV}{u:Value}(hS:St B E H w) (hw:H.Wf) (hv:v= .bool true) (hz:H1.fz=false) (h:Done w.heap.size E0 H0 w v H1 u w1):Done B E H w (.bool true) H u w1:=by
 obtain ⟨E1,h1,_,h3,_⟩:=h;subst hv;have hu:u= .bool true:=h1.self;subst hu;have hfr:∀c,c<w.heap.size->w1.heap[c]? =w.heap[c]? :=fun c hc=>h3.frame c hc fun ⟨j,b,hg,_⟩=>by rw [zmd1] at hg;cases hg
 refine ⟨E,fun _ _=>rfl,fun E' hE=> ?_,⟨Agree.refl _ _,qn _,rfl,rfl,h3.tape,h3.os,h3.output,h3.size,fun c hc _=>hfr c hc,fun c hc=>.inl hc,fun _ _=>rfl,h3.loops,fun hf=>⟨hf,(h3.froz hz).2⟩,fun _ h=>.inl h,h3.dr⟩,hw⟩
 have r:=hS E' hE;exact ⟨fun i b hg=>(r.blk i b hg).congr fun hl=>hfr _ ((r.blk i b hg).obj hl),r.inj,r.base,qx2 r.size h3.size⟩
theorem zkm1 {L:Lk}{P:Program}{B:Nat}(hL:LOk L P) (hX:∀B,ExtOk L P B){n:Nat}{f:FuncId}(h:zcn (evReq L n (.call f [] H0))=true):XOk P B f xTrue:=by
 obtain ⟨out,ho,hv,hz⟩:=zvv h;intro args H p hp E w us hw hS hus;unfold xTrue at hp;split at hp
 ·cases hp
  have hu:=hus E (Agree.refl _ _);subst hu;have E0:Env:=fun _=>⟨0,0,0⟩
  have hc:=(zvq hL (hX w.heap.size) n).call f [] H0 out ho E0 w [] H0_wf (H0_st E0 w) (fun _ _=>rfl)
  unfold CallOk at hc ⊢
  show match (callFunc f (concL E []).toArray).run P w with| .ok (.value u) w1=>_| .ok (.enter g vs) w'=>_|_=>_
  have e0:(concL E []).toArray=([]:List Value).toArray:=rfl;rw [e0]
  revert hc
  cases (callFunc f ([]:List Value).toArray).run P w with
  |ok nx w1 =>
   cases nx with
   |value u=>exact fun hc=>zjt hS hw hv hz hc
   |enter g vs=>exact fun hc=>CallsIn.mono hc fun e w1 ⟨u,he,hd⟩=>⟨u,he,zjt hS hw hv hz hd⟩
   |_=>exact fun hc=>hc
  |_=>exact fun hc=>hc
 ·cases hp
theorem zaj {L:Lk}{f:FuncId}{g:XFn}{args:List AV}{H H':AH}{v:AV}(hx:L.ext f=some g) (hg:g args H=some (v,H')):FnE L f args H fun r H1=>r=v/\H1=H':=by
 refine ⟨v,H',⟨rfl,rfl⟩,1,fun m hm=> ?_⟩
 obtain ⟨m,rfl⟩:∃m',m=m'+1:=⟨m - 1,oM⟩
 show callS L (evF L m) f args H=_
 unfold callS extS;rw [hx];show orec _ (fun p=>some (out1 p.1 p.2)) (g args H)=_
 rw [hg];rfl
theorem Ce.sub_ex {c:Ce}{o n:Nat}(h:o+n<=c.l.length):∃c',c.sub o n=some c'/\c'.l=(c.l.drop o).take n:=by
 have key:∃c',c.sub o n=some c':=by
  cases c with
  |lst l =>
   have:zej l o n=some ((l.drop o).take n):=(zbe l o n _).2 ⟨by have:(Ce.lst l).l.length=l.length:=rfl;omega,rfl⟩
   exact ⟨_,by show (match zej l o n with|some l'=>some (Ce.lst l')|none=>none)=_;rw [this]⟩
  |byt m N =>
   refine ⟨_,by show brec none _ (Nat.ble n (m - o))=_;rw [show Nat.ble n (m - o)=true from by rw [Nat.ble_eq];have:(Ce.byt m N).l.length=m:=bytesL_length m N;omega];rfl⟩
 obtain ⟨c',hc⟩:=key;exact ⟨c',hc,((zbe _ _ _ _).1 (Ce.sub_l hc)).2⟩
theorem Ce.over_ex {x c:Ce}{o:Nat}(h:o+x.l.length<=c.l.length):∃c',Ce.over x c o=some c'/\c'.l=c.l.take o ++ x.l ++ c.l.drop (o+x.l.length):=by
 have ho:zod x.l c.l o=some (c.l.take o ++ x.l ++ c.l.drop (o+x.l.length)):=(zcc _ _ _ _).2 ⟨h,rfl⟩;have key:∃c',Ce.over x c o=some c':=by
  cases c with
  |lst l=>exact ⟨_,by show (match zod x.l l o with|some l'=>some (Ce.lst l')|none=>none)=_;rw [show zod x.l l o=_ from ho]⟩
  |byt m N =>
   cases x with
   |lst xs=>exact ⟨_,by show (match zod xs (bytesL m N) o with|some l'=>some (Ce.lst l')|none=>none)=_;rw [show zod xs (bytesL m N) o=_ from ho]⟩
   |byt k X =>
    have h1:(Ce.byt k X).l.length=k:=bytesL_length k X;have h2:(Ce.byt m N).l.length=m:=bytesL_length m N;exact ⟨_,by show brec none _ (Nat.ble (o+k) m)=_;rw [show Nat.ble (o+k) m=true from by rw [Nat.ble_eq];omega];rfl⟩
 obtain ⟨c',hc⟩:=key;refine ⟨c',hc,?_⟩;have:=Ce.over_l hc;rw [ho] at this;exact (ql3 this).symm
structure HP (p:Nat->Prop) (H H':AH):Prop where
 next:H.next<=H'.next
 lo:H'.lo=H.lo
 hide:H'.hide=H.hide
 fz:H'.fz=H.fz
 old:∀i,i<H.next->p i->H'.tree.get i=H.tree.get i
theorem HX.hp {H H':AH}(h:HX H H') (p:Nat->Prop):HP p H H':=⟨h.next,h.lo,h.hide,h.fz,fun i hi _=>h.old i hi⟩
theorem HP.hx {p:Nat->Prop}{H H':AH}(h:HP p H H') (hp:∀i,i<H.next->p i):HX H H':=⟨h.next,h.lo,h.hide,h.fz,fun i hi=>h.old i hi (hp i hi)⟩
theorem HP.refl (p:Nat->Prop) (H:AH):HP p H H:=⟨qn _,rfl,rfl,rfl,fun _ _ _=>rfl⟩
theorem HP.trans {p q r:Nat->Prop}{H H1 H2:AH}(h:HP p H H1) (h':HP q H1 H2) (hr:∀i,i<H.next->r i->p i/\q i):HP r H H2 :=
 ⟨qx2 h.next h'.next,h'.lo.trans h.lo,h'.hide.trans h.hide,h'.fz.trans h.fz,fun i hi hri=>(h'.old i (qz hi h.next) (hr i hi hri).2).trans (h.old i hi (hr i hi hri).1)⟩
theorem HP.mono {p q:Nat->Prop}{H H':AH}(h:HP p H H') (hq:∀i,i<H.next->q i->p i):HP q H H':=⟨h.next,h.lo,h.hide,h.fz,fun i hi hqi=>h.old i hi (hq i hi hqi)⟩
theorem HP.vis {p:Nat->Prop}{H H':AH}(h:HP p H H') (i:Nat):H'.vis i=H.vis i:=by unfold AH.vis;rw [h.hide]
theorem HP.get {p:Nat->Prop}{H H':AH}(h:HP p H H'){i:Nat}(hi:i<H.next) (hp:p i):H'.get i=H.get i:=by unfold AH.get;rw [h.vis,h.old i hi hp]
theorem HP.put (H:AH) (i:Nat) (b:ABlk):HP (·≠ i) H (H.put i b) :=
 ⟨qn _,rfl,rfl,rfl,fun j hj hp=>by show (H.tree.set i b).get j=_;rw [Tr.get_set,qd hp]⟩
theorem HX.put {H H':AH}(h:HX H H'){i:Nat}(hi:H.next<=i) (b:ABlk):HX H (H'.put i b) :=
 ((h.hp (fun _=>True)).trans (HP.put H' i b) (r:=fun _=>True) (fun j hj _=>⟨trivial,oM⟩)).hx (fun _ _=>trivial)
def Row (H:AH) (i:Nat) (ro op:Bool) (e z:Nat) (l:List AV):Prop:= ∃c,H.get i=some (.cells c e z op ro)/\c.l=l
theorem Row.hp {p:Nat->Prop}{H H':AH}{i e z:Nat}{ro op:Bool}{l:List AV}(h:Row H i ro op e z l) (hx:HP p H H') (hi:i<H.next) (hp:p i):Row H' i ro op e z l:=by
 obtain ⟨c,h1,h2⟩:=h;exact ⟨c,(hx.get hi hp).trans h1,h2⟩
theorem Row.hx {H H':AH}{i e z:Nat}{ro op:Bool}{l:List AV}(h:Row H i ro op e z l) (hx:HX H H') (hi:i<H.next):Row H' i ro op e z l:=h.hp (hx.hp fun _=>True) hi trivial
theorem Row.rd {H:AH}{i e z k:Nat}{ro op:Bool}{l:List AV}{v:AV}(h:Row H i ro op e z l) (hv:l[k]? =some v):ld1 (.ptr i k) H=some v:=by
 obtain ⟨c,h1,rfl⟩:=h;rw [zkp];unfold AH.read1 AH.row;rw [h1];simp only [zug];exact hv
theorem Row.rdN {H:AH}{i e z o s:Nat}{ro op:Bool}{l:List AV}(h:Row H i ro op e z l) (hs:o+s<=l.length):∃c:Ce,ldN s (.ptr i o) H=some c.toV/\c.l=(l.drop o).take s:=by
 obtain ⟨c,h1,rfl⟩:=h;obtain ⟨c',h2,h3⟩:=Ce.sub_ex hs;refine ⟨c',?_,h3⟩;show orec none (fun c=>some (ceV c)) (subCF H i o s)=_
 rw [zif];unfold AH.subC;rw [h1];simp only [h2];show some (ceV c')=_
 rw [zxl1]
theorem AH.get_new {H:AH}(hh:H.hide= []) (b:ABlk):(H.new b).get H.next=some b:=by
 unfold AH.get;have:(H.new b).vis H.next=true:=by unfold AH.vis;show H.hide.all _=true;rw [hh];rfl
 rw [this];show (H.tree.set H.next b).get H.next=_
 rw [Tr.get_set_self]
theorem AH.get_put {H:AH}(hh:H.hide= []) (i:Nat) (b:ABlk):(H.put i b).get i=some b:=by
 unfold AH.get;have:(H.put i b).vis i=true:=by unfold AH.vis;show H.hide.all _=true;rw [hh];rfl
 rw [this];show (H.tree.set i b).get i=_
 rw [Tr.get_set_self]
theorem Row.new {H:AH}(hh:H.hide= []) (c:Ce) (e z:Nat) (op ro:Bool):Row (H.new (.cells c e z op ro)) H.next ro op e z c.l:=⟨c,AH.get_new hh _,rfl⟩
theorem zkt {v:AV}(h:v.oneCell=true):v.cells= [v]:=by cases v<;>first|rfl|cases h
theorem zqh1 {v:AV}(h:v.oneCell=true):v.toC.one=true:=by
 cases v<;>first
  |(have:=zep;exact (this _).trans h)
  |cases h
theorem zrh1 {v:AV}:v.toC.len=v.cells.length:=by rw [Ce.len_l,toC_l]
theorem Row.st {L:Lk}{t s:Nat}{H:AH}{i e z k:Nat}{op:Bool}{l:List AV}{v:AV}(h:Row H i false op e z l) (hh:H.hide= []) (hlo:H.lo<=i) (hs:L.size t=some s) (hv:v.cells.length=s) (h1:v.toC.one=true) (hk:k+s<=l.length) :
  ∃H',zed L t (.ptr i k) v H=some H'/\Row H' i false op e z (l.take k ++ v.cells ++ l.drop (k+s))/\HP (·≠ i) H H'/\H'.next=H.next:=by
 obtain ⟨c,h2,rfl⟩:=h;obtain ⟨c',h3,h4⟩:=Ce.over_ex (x:=v.toC) (c:=c) (o:=k) (by rw [toC_l];omega)
 refine ⟨H.put i (.cells c' e z op false),?_,⟨c',AH.get_put hh _ _,?_⟩,HP.put _ _ _,rfl⟩
 ·unfold zed
  rw [hs];simp only;rw [show Nat.beq v.toC.len s=true from by rw [zrh1,hv];exact qt2 s]
  simp only;unfold AH.writeC;rw [show Nat.ble H.lo i=true from qe hlo,h2]
  simp only [h1,h3]
 ·rw [h4,toC_l,hv]
theorem Row.st1 {L:Lk}{t:Nat}{H:AH}{i e z k:Nat}{op:Bool}{l:List AV}{v:AV}(h:Row H i false op e z l) (hh:H.hide= []) (hlo:H.lo<=i) (hs:L.size t=some 1) (hv:v.oneCell=true) (hk:k<l.length) :
  ∃H',st1 L t (.ptr i k) v H=some H'/\Row H' i false op e z (l.set k v)/\HP (·≠ i) H H'/\H'.next=H.next:=by
 obtain ⟨H',h1,h2,h3,h4⟩:=h.st (k:=k) hh hlo hs (by rw [zkt hv];rfl) (zqh1 hv) oM
 refine ⟨H',(zyl1 hs _ _ _).trans h1,?_,h3,h4⟩;rw [zkt hv] at h2;rw [qr4,qi hk]
 simpa using h2
theorem Row.stN {L:Lk}{t s:Nat}{H:AH}{i e z k:Nat}{op:Bool}{l:List AV}{v:AV}(h:Row H i false op e z l) (hh:H.hide= []) (hlo:H.lo<=i) (hv:v.cells.length=s) (h1:v.toC.one=true) (hk:k+s<=l.length) :
  ∃H',stN s (.ptr i k) v H=some H'/\Row H' i false op e z (l.take k ++ v.cells ++ l.drop (k+s))/\HP (·≠ i) H H'/\H'.next=H.next:=by
 obtain ⟨c,h2,rfl⟩:=h;obtain ⟨c',h3,h4⟩:=Ce.over_ex (x:=v.toC) (c:=c) (o:=k) (by rw [toC_l];omega)
 refine ⟨H.put i (.cells c' e z op false),?_,⟨c',AH.get_put hh _ _,?_⟩,HP.put _ _ _,rfl⟩
 ·show brec none (zpe H i k v.toC) (Nat.beq v.toC.len s)=_
  rw [show Nat.beq v.toC.len s=true from by rw [zrh1,hv];exact qt2 s]
  show zpe H i k v.toC=_
  rw [zad];unfold AH.writeC;rw [show Nat.ble H.lo i=true from qe hlo,h2]
  simp only [h1,h3]
 ·rw [h4,toC_l,hv]
theorem Row.slR {H:AH}{i e z o n c:Nat}{ro op op':Bool}{l:List AV}{g:Nat->AV}(h:Row H i ro op e z l) (hi:i<H.next) (ho:o<=l.length) (hg:∀k,k<n->l[o+k]? =some (g k)):SlR H (.sl i o n c op') n g:=by
 refine ⟨.inr ⟨i,o,c,op',rfl,hi,by obtain ⟨cc,h1,rfl⟩:=h;exact ⟨cc,e,z,op,ro,h1,ho⟩⟩,fun k hk=> ?_⟩
 show ld1 (.ptr i (o+k*1)) H=_
 rw [qs3];exact h.rd (hg k hk)
theorem zje1 {L:Lk}{ts:List Nat}{t t' e:Nat}{H:AH}{i o n c:Nat}{op op':Bool}{e' z:Nat}{l:List AV}{x:AV}{m:Nat}{new:Ce}(ht:L.under t=some (.slice e)) (hz:L.size e=some z) (hx:lenOf x=some m)
  (hnew:zib z x (minN m n) H=some new) (h:Row H i false op' e' z l) (hh:H.hide= []) (hlo:H.lo<=i) (h1:new.one=true) (hk:o+new.l.length<=l.length) :
  ∃H',zda .copy L (t::t'::ts) [.sl i o n c op,x] H=some (.int .i64 (minN m n:Nat),H')/\Row H' i false op' e' z (l.take o ++ new.l ++ l.drop (o+new.l.length))/\HP (·≠ i) H H'/\H'.next=H.next:=by
 obtain ⟨cc,h2,rfl⟩:=h;obtain ⟨c',h3,h4⟩:=Ce.over_ex (x:=new) (c:=cc) (o:=o) hk;refine ⟨H.put i (.cells c' e' z op' false),?_,⟨c',AH.get_put hh _ _,h4⟩,HP.put _ _ _,rfl⟩;show zgo L t (.sl i o n c op) x H=_
 unfold zgo;rw [ht];simp only [hz,hx,hnew];unfold AH.writeC;rw [show Nat.ble H.lo i=true from qe hlo,h2]
 simp only [h1,h3]
theorem zzq {z:Nat}{H:AH}{i o n m c:Nat}{op:Bool}{ro op':Bool}{e z':Nat}{l:List AV}(h:Row H i ro op' e z' l) (hk:o+n*z<=l.length):∃new,zib z (.sl i o m c op) n H=some new/\new.l=(l.drop o).take (n*z):=by
 obtain ⟨cc,h2,rfl⟩:=h;obtain ⟨c',h3,h4⟩:=Ce.sub_ex (c:=cc) (o:=o) (n:=n*z) hk;refine ⟨c',?_,h4⟩;show AH.subC H i o (n*z)=_
 unfold AH.subC;rw [h2];exact h3
theorem sl_hi {L:Lk}{t e z:Nat}{i o n c:Nat}{k:IntKind}{m:Int}(ht:L.under t=some (.slice e)) (hz:L.size e=some z) (h0:0<=m) (h1:m<=c) :
  zua L t false true false [.sl i o n c false,.int k m]=some (.sl i o m.toNat c false):=by
 obtain ⟨a,rfl⟩:=qf7 h0;show zgb L t (.sl i o n c false) none (some (.int k a)) none=_
 unfold zgb;rw [ht];show (match bndOf none 0 with|none=>none|some l=>_)=_
 show (match L.size e with|none=>none|some z=>(match some a with
    |none=>none
    |some h=>match Nat.ble 0 h && Nat.ble h c with
      |true=>some (AV.sl i (offOf c 0 o z) (h - 0) (c - 0) false)
      |false=>none))=_
 rw [hz];simp only;rw [show Nat.ble 0 a=true from qe (qo2 _),show Nat.ble a c=true from qe oM]
 simp only [qr2,Nat.sub_zero,qc2];have:offOf c 0 o z=o:=by unfold offOf;cases Nat.beq c 0<;>simp
 rw [this]
theorem cap_sl {L:Lk}{t e:Nat}{H:AH}{i o n c:Nat}(ht:L.under t=some (.slice e)):fstO (zda .cap L [t] [.sl i o n c false] H)=some (.int .i64 c):=by
 show fstO (match evCap L t (.sl i o n c false) with|some v=>some (v,H)|none=>none)=_
 unfold evCap;rw [ht];rfl
theorem zdg {c:Ce}(h:c.l.all AV.oneCell=true):c.one=true:=by cases c with|lst l=>exact h|byt n N=>rfl
theorem ziw (z i o n c k:Nat) (op:Bool):elA z (.sl i o n c op) k= .ptr i (o+k*z):=rfl
theorem Row.isSl {H:AH}{i e z o n c:Nat}{ro op op':Bool}{l:List AV}(h:Row H i ro op e z l) (hi:i<H.next) (ho:o<=l.length):IsSl H (.sl i o n c op') n:=by
 obtain ⟨cc,h1,rfl⟩:=h;exact .inr ⟨i,o,c,op',rfl,hi,cc,e,z,op,ro,h1,ho⟩
theorem zlt {L:Lk}{t:Nat}(ht:L.under t=some .bool) (n:Nat) (a b:Bool):evEq L (n+1) t (.bool a) (.bool b)=some (a == b):=by
 unfold evEq;rw [zxf];simp only [ht]
theorem zlm1 {L:Lk}{t:Nat}(ht:L.under t=some .bool) (xo yo:Operand) (a b:Bool):binF .neq (evBin L .neq t xo yo) (.bool a) (.bool b)=some (.bool (decide (a≠b))):=by
 rw [zcg];unfold evBin;simp only [zlt ht];cases a<;>cases b<;>rfl
theorem zmm1 {L:Lk}{t:Nat}(ht:L.under t=some .bool) (xo yo:Operand) (a b:Bool):binF .eql (evBin L .eql t xo yo) (.bool a) (.bool b)=some (.bool (decide (a=b))):=by
 rw [zcg];unfold evBin;simp only [zlt ht];cases a<;>cases b<;>rfl
def blkNe (s:AV) (j:Nat):Prop:= ∀o n c op,s≠ .sl j o n c op
theorem zfa (j:Nat):blkNe .nilSl j:=fun _ _ _ _ h=>by cases h
theorem zga {i o n c:Nat}{op:Bool}{j:Nat}(h:j≠i):blkNe (.sl i o n c op) j:=fun _ _ _ _ h'=>by cases h';exact h rfl
def Ap (H:AH) (s:AV) (n:Nat) (l:List AV) (e z N:Nat):Prop:=l.length=n*z/\((s= .nilSl/\n=0)\/ ∃i,s= .sl i 0 n n true/\Row H i false true e z l/\N<=i/\i<H.next)
theorem zmt {e z b:Nat}{i o l c n:Nat}{H:AH}{x:AV}{new:Ce}{ro op':Bool}{e' z':Nat}{row:List AV}(hx:lenOf x=some n) (hsrc:zib z x n H=some new) (h1:new.one=true) (hr:Row H i ro op' e' z' row) (hl:o+l*z<=row.length) (hc:c<l+n) (hb:(l+n)*b<=140737488355328) (hm:l+n<=9223372036854775807) (hh:H.hide= []) :
  ∃H',appX e z b [.sl i o l c false,x] H=some (.sl H.next 0 (l+n) (l+n) true,H')/\HX H H'/\H'.next=H.next+1/\Row H' H.next false true e z ((row.drop o).take (l*z) ++ new.l):=by
 obtain ⟨cc,h2,rfl⟩:=hr;obtain ⟨old,h3,h4⟩:=Ce.sub_ex (c:=cc) (o:=o) (n:=l*z) hl;refine ⟨H.new (.cells (Ce.app old new) e z true false),?_,HX.new _ _,rfl,?_⟩
 ·show orec none (fun n=>orec none (fun new=>brec none (appS e z b n new (.sl i o l c false) H) new.one) (srcF z x n H)) (lenOf x)=_
  rw [hx];show orec none (fun new=>brec none (appS e z b n new (.sl i o l c false) H) new.one) (srcF z x n H)=_
  rw [zls,hsrc];show brec none (appS e z b n new (.sl i o l c false) H) new.one=_
  rw [h1];show brec (appG e z b i o l c false n new H) _ (Nat.ble (l+n) c)=_
  rw [show Nat.ble (l+n) c=false from by cases h:Nat.ble (l+n) c with|false=>rfl|true=>have:=qe1 h;omega]
  show (match Nat.ble (Nat.mul (Nat.add l n) b) 140737488355328 && Nat.ble (Nat.add l n) 9223372036854775807 with
   |false=>none
   |true=>orec none (fun old=>brec (slNew (Nat.add l n) (.cells (Ce.app old new) e z true false) H) (appO e z i o l c n old new H) false) (subCF H i o (Nat.mul l z)))=_
  rw [show Nat.ble (Nat.mul (Nat.add l n) b) 140737488355328=true from qe hb,show Nat.ble (Nat.add l n) 9223372036854775807=true from qe hm,zif]
  have:H.subC i o (Nat.mul l z)=some old:=by unfold AH.subC;rw [h2];exact h3
  rw [this];exact zjf _ _ _
 ·have:=Row.new hh (Ce.app old new) e z true false
  rwa [Ce.app_l,h4] at this
theorem Ap.app {e z b:Nat}{H:AH}{s x:AV}{n m N:Nat}{l:List AV}{new:Ce}(h:Ap H s n l e z N) (hx:lenOf x=some m) (hsrc:zib z x m H=some new) (h1:new.one=true) (hnl:new.l.length=m*z) (hm0:1<=m)
  (hb:(n+m)*b<=140737488355328) (hm:n+m<=9223372036854775807) (hh:H.hide= []) (hlo:H.lo<=N) (hN:N<=H.next) :
  ∃s' H',appX e z b [s,x] H=some (s',H')/\Ap H' s' (n+m) (l ++ new.l) e z N/\HP (blkNe s) H H'/\H'.next=H.next+1/\(∀j,j<H.next->blkNe s' j):=by
 have start:∀s:AV,appX e z b [s,x] H=appS e z b m new s H:=fun s=>by
  show orec none (fun n=>orec none (fun new=>brec none (appS e z b n new s H) new.one) (srcF z x n H)) (lenOf x)=_
  rw [hx];show orec none (fun new=>brec none (appS e z b m new s H) new.one) (srcF z x m H)=_
  rw [zls,hsrc];show brec none (appS e z b m new s H) new.one=_
  rw [h1];rfl
 obtain ⟨h0,⟨rfl,rfl⟩|⟨i,rfl,⟨cc,h2,rfl⟩,hNi,hi⟩⟩:=h
 ·have hl0:l= []:=qk1 oM
  subst hl0;refine ⟨.sl H.next 0 m m true,H.new (.cells new e z true false),?_,⟨by simpa using hnl,.inr ⟨H.next,by simp,?_,hN,qd1 _⟩⟩,(HX.new _ _).hp _,rfl,fun j hj=>zga oM⟩
  ·rw [start]
   show brec (match Nat.ble (Nat.mul m b) 140737488355328 && Nat.ble m 9223372036854775807 with
    |false=>none
    |true=>slNew m (.cells new e z true false) H) (some (.nilSl,H)) (Nat.beq m 0)=_
   rw [show Nat.beq m 0=false from by cases m with|zero=>omega|succ m=>rfl]
   rw [show Nat.ble (Nat.mul m b) 140737488355328=true from qe (by rw [qy1] at hb;exact hb),show Nat.ble m 9223372036854775807=true from qe oM]
   exact zjf _ _ _
  ·have:=Row.new hh new e z true false
   simpa using this
 ·have hsub:∃old,H.subC i 0 (n*z)=some old/\old.l=cc.l:=by
   obtain ⟨old,h3,h4⟩:=Ce.sub_ex (c:=cc) (o:=0) (n:=n*z) oM
   refine ⟨old,by unfold AH.subC;rw [h2];exact h3,?_⟩
   rw [h4,qd3,qx oM]
  obtain ⟨old,h3,h4⟩:=hsub;refine ⟨.sl H.next 0 (n+m) (n+m) true,(H.put i .defd).new (.cells (Ce.app old new) e z true false),?_,⟨by rw [qr,h0,hnl,qj4],.inr ⟨H.next,rfl,?_,hN,qd1 _⟩⟩,?_,rfl,fun j hj=>zga oM⟩
  ·rw [start]
   show brec (appG e z b i 0 n n true m new H) _ (Nat.ble (n+m) n)=_
   rw [show Nat.ble (n+m) n=false from by cases h:Nat.ble (n+m) n with|false=>rfl|true=>have:=qe1 h;omega]
   show (match Nat.ble (Nat.mul (Nat.add n m) b) 140737488355328 && Nat.ble (Nat.add n m) 9223372036854775807 with
    |false=>none
    |true=>orec none (fun old=>brec (slNew (Nat.add n m) (.cells (Ce.app old new) e z true false) H) (appO e z i 0 n n m old new H) true) (subCF H i 0 (Nat.mul n z)))=_
   rw [show Nat.ble (Nat.mul (Nat.add n m) b) 140737488355328=true from qe hb,show Nat.ble (Nat.add n m) 9223372036854775807=true from qe hm,zif]
   rw [show H.subC i 0 (Nat.mul n z)=some old from h3]
   show appO e z i 0 n n m old new H=_
   unfold appO;rw [show Nat.ble H.lo i=true from qe oM,zlk,h2]
   show appD e z i 0 n n m old new H cc e z true false=_
   unfold appD;rw [show (Nat.beq e e && Nat.beq z z && true && !false && Nat.beq cc.len (Nat.add 0 (Nat.mul n z)))=true from by
    rw [show Nat.beq e e=true from qt2 e,show Nat.beq z z=true from qt2 z,Ce.len_l,h0,show Nat.add 0 (Nat.mul n z)=n*z from qy1 _]
    simp]
   simp only [zjf,zdp];rfl
  ·have:=Row.new (H:=H.put i .defd) hh (Ce.app old new) e z true false
   rw [Ce.app_l,h4] at this;exact this
  ·refine (HP.put H i .defd).trans ((HX.new (H.put i .defd) (.cells (Ce.app old new) e z true false)).hp fun _=>True) fun j hj hb=>⟨fun h=> ?_,trivial⟩
   subst h;exact hb _ _ _ _ rfl
theorem nil_eq {L:Lk}{t e:Nat}(ht:L.under t=some (.slice e)) (xo yo:Operand){v:AV}{H:AH}{n:Nat}(h:IsSl H v n):(v= .nilSl/\n=0/\binF .eql (evBin L .eql t xo yo) v .nilSl=some (.bool true))\/(∃i o c op,v= .sl i o n c op/\binF .eql (evBin L .eql t xo yo) v .nilSl=some (.bool false)):=by
 rcases h with ⟨rfl,rfl⟩|⟨i,o,c,op,rfl,_⟩
 ·left
  refine ⟨rfl,rfl,?_⟩;rw [zcg];unfold evBin evEq;rw [zxf];simp only [ht]
 ·right
  refine ⟨i,o,c,op,rfl,?_⟩;rw [zcg];unfold evBin evEq;rw [zxf];simp only [ht]
theorem zbj {L:Lk}{s:List Kf}{T:Tr AV}{H:AH}{Q:PostC}{d:Option S2}{sl:Nat}{want:Bool}{a b:K2}(hx:gT T sl= .undef) (hb:RK L b s (putS d .undef T) H Q):RK L (.gd (sOf sl) want d a b) s T H Q:=by
 refine ⟨?_⟩;show Comes Q (fun rec=>brec (runK' b L rec (kOf L rec s .normal) (putS d .undef T) H) (runK' a L rec (kOf L rec s .normal) T H) (zfl want ((sOf sl).get T))) L
 rw [zvl];have:zfl want (T.get sl)=false:=by
  unfold gT at hx;cases hg:T.get sl with
  |none=>rfl
  |some v =>
   rw [hg] at hx;have:v= .undef:=hx;subst this;rfl
 rw [this];exact hb.h
theorem znt (l:List AV):zfn 0 l= []:=rfl
theorem zke1 (l:List AV):restN 0 l=l:=rfl
abbrev evl:=qa @ev_tO (qa @zbe1 (qa @zim1 (qa @zoh1 (qa @zfw (qa @zce1 (qa @zph1 (qa @zde1 (qa @zkn (qa @zts (qa @zus (qa @zvs (qa @hIn_f (qa @zil (qa @Nat.zero_ne_one (qa @Nat.one_ne_zero (qa @zws (qa @zxs (qa @zys (qa @zgt (qa @zft (qa @zzs (qa @zat (qa @zbt (qa @zct (qa @zdt (qa @zet (qa @fw64 (qa @zhe1 (qa @zht (qa @zit (qa @exN0 (qa @exN1 (qa @exN2 (qa @zln (qa @zie1 (qa @min2 (qa @max2 (qa @qc2 (qa @qy1 (qa @qs3 (qa @qx4 (qa @ziw (qa @qk (qa @qq (qa @qj5 (qa @qn5 (qa @znt (@zke1))))))))))))))))))))))))))))))))))))))))))))))))
abbrev bvl:=qa @AV.bool.injEq (qa @AV.int.injEq (qa @qs (qa @qd4 (qa @qm4 (qa @qr5 (@qf6))))))
def hA (bs:List ABlk):AH:= {tree:=Tr.ofList bs,next:=bs.length,lo:=0,hide:= []}
theorem zty (bs:List ABlk) (i:Nat):(hA bs).get i=bs[i]? :=by
 unfold AH.get;have:(hA bs).vis i=true:=rfl;rw [this];exact Tr.get_ofList bs i
theorem hA_wf (bs:List ABlk):(hA bs).Wf:=⟨fun i b h=>by
  have:bs[i]? =some b:=by rw [← Tr.get_ofList];exact h
  exact (qp.1 this).1,qo2 _,fun r hr=>by cases hr⟩
theorem zle1 {L:Lk}{P:Program}(hL:LOk L P) (hX:∀B,ExtOk L P B){f:FuncId}{fn:Func}{c:Code}(hf:L.func f=some fn) (hb:fn.body=some c){w:World}(bs:List (ABlk×EB)){args:List AV}{us:List Value}{n:Nat}{out:Out}
  (ho:evF L n (.call f args (hA (bs.map Prod.fst)))=some out) (hov:zrg out= .bool true) (hown:∀b∈bs,b.1.own=false) (hbr:∀k b,bs[k]? =some b-> ∀E:Env,(∀k b,bs[k]? =some b->E k=b.2)->BRel E k b.1 w)
  (hargs:∀E:Env,(∀k b,bs[k]? =some b->E k=b.2)->concL E args=us) :
  Calls P f us.toArray w fun e w'=>e= .returned (.bool true)/\Below w.heap.size w w':=by
 rw [zhm1] at ho;obtain ⟨E,hE⟩:∃E:Env,∀k b,bs[k]? =some b->E k=b.2:=⟨fun k=>match bs[k]? with|some b=>b.2|none=>⟨0,0,0⟩,fun k b hk=>by simp only [hk]⟩
 have hown':∀i b,(hA (bs.map Prod.fst)).get i=some b->b.own=false:=fun i b hg=>by
  rw [zty,qh1] at hg;cases hbi:bs[i]? with
  |none=>rw [hbi] at hg;cases hg
  |some p=>rw [hbi] at hg;cases hg;exact hown p (qj6 hbi)
 have hagree:∀E',Agree (hA (bs.map Prod.fst)).next E E'-> ∀k b,bs[k]? =some b->E' k=b.2:=fun E' hA' k b hk=>by
  rw [hA' k (by show k<(bs.map Prod.fst).length;rw [qm3];exact (qp.1 hk).1)]
  exact hE k b hk
 have hS:St w.heap.size E (hA (bs.map Prod.fst)) w:=fun E' hA'=>by
  refine ⟨fun i b hg=> ?_,fun i j b c hg _ _ ho=>(by rw [hown' i b hg] at ho;cases ho),fun i b hg ho=>(by rw [hown' i b hg] at ho;cases ho),qn _⟩
  rw [zty,qh1] at hg;cases hbi:bs[i]? with
  |none=>rw [hbi] at hg;cases hg
  |some p=>rw [hbi] at hg;cases hg;exact hbr i p hbi E' (hagree E' hA')
 have hc:=(zvq hL (hX w.heap.size) n).call f args _ _ ho E w us (hA_wf _) hS (fun E' hA'=>(hargs E' (hagree E' hA')).symm)
 unfold CallOk at hc;rw [zhf hL hf hb] at hc;refine (CallsIn.calls hc fun k=>zzm zgf k).mono fun e w1 ⟨u,he,E1,h1,_,h3,_⟩=> ?_
 subst he;rw [hov] at h1;refine ⟨by rw [h1.self];rfl,⟨h3.os,h3.tape,h3.output,h3.size,fun i hi=> ?_⟩⟩
 exact h3.frame i hi fun ⟨j,b,hg,ho,_⟩=>by rw [hown' j b hg] at ho;cases ho
theorem arg_sl (k:Nat){w:World}{x:Addr}{len cap e z:Nat}{l:List AV}(hsp:x.spot=none) (hblk:∃cs e fz,w.heap[x.block]? =some (.cells cs e fz)) (hcell:∀(E:Env) j v,l[j]? =some v->w.cell? ⟨x.block,x.off+j,none⟩=some (conc E v)) :
  (∀E:Env,E k=⟨x.block,x.off,0⟩->conc E (.sl k 0 len cap false)= .slice (some x) len cap)/\(∀E:Env,E k=⟨x.block,x.off,0⟩->BRel E k (.cells (.lst l) e z false true) w):=by
 obtain ⟨xb,xo,xs⟩:=x;simp only at hsp;subst hsp;refine ⟨fun E hE=> ?_,fun E hE=> ?_⟩
 ·show Value.slice (some ⟨(E k).blk,(E k).off+0,none⟩) len (cap+0)=_
  rw [hE];rfl
 ·obtain ⟨cs,e',fz,hb⟩:=hblk
  refine ⟨cs,e',fz,by rw [hE];exact hb,fun j v hj=> ?_,fun h=>by cases h⟩
  have:=hcell E j v hj;rw [hE];unfold World.cell? at this;simp only [hb,qf4,ql1,qu3] at this;exact this
theorem zar {x:Addr}(h:x.spot=none) (i:Nat):x.add i=⟨x.block,x.off+i,none⟩:=by
 obtain ⟨b,o,s⟩:=x;simp only at h;subst h;unfold Addr.add;split
 ·next h=>subst h;rfl
 ·rfl
theorem zme1 {P:Program}{w:World}{base:Nat}{t e:TypeId}{x:Addr}{len cap:Nat}(ht:P.underlying t=some (.slice e)) (h:Value.okWide P w .any base t (.slice (some x) len cap)) :
  x.spot=none/\ ∃cs e fz,w.heap[x.block]? =some (.cells cs e fz):=by
 unfold Value.okWide at h;rw [ht] at h;simp only at h;unfold Cell.okWide at h;rw [ht] at h;simp only at h;unfold Cell.ok at h;rw [ht] at h;simp only at h;obtain ⟨_,_,_,hs,row,cells,hsh,_⟩:=h;refine ⟨hs,?_⟩;unfold World.shape? at hsh;split at hsh
 ·next c el fz hx=>exact ⟨_,_,_,hx⟩
 ·cases hsh
structure Arg (w:World) (k:Nat) (u:Value) (R:AH->AV->Prop) (b:ABlk×EB) (v:AV):Prop where
 own:b.1.own=false
 br:∀E:Env,E k=b.2->BRel E k b.1 w
 val:∀E:Env,E k=b.2->conc E v=u
 rd:∀bs:List ABlk,bs[k]? =some b.1->R (hA bs) v
theorem zsh1 (w:World) (k:Nat){R:AH->AV->Prop}(h:∀H,R H .nilSl):Arg w k (.slice none 0 0) R (.defd,⟨0,0,0⟩) .nilSl :=
 ⟨rfl,fun _ _=>trivial,fun _ _=>rfl,fun _ _=>h _⟩
theorem arg_row (k:Nat){w:World}{x:Addr}{len cap e z:Nat}{l:List AV}{R:AH->AV->Prop}(hsp:x.spot=none) (hblk:∃cs e fz,w.heap[x.block]? =some (.cells cs e fz)) (hcell:∀(E:Env) j v,l[j]? =some v->w.cell? ⟨x.block,x.off+j,none⟩=some (conc E v))
  (hR:∀H,k<H.next->Row H k true false e z l->R H (.sl k 0 len cap false)):Arg w k (.slice (some x) len cap) R (.cells (.lst l) e z false true,⟨x.block,x.off,0⟩) (.sl k 0 len cap false):=by
 obtain ⟨h1,h2⟩:=arg_sl k (len:=len) (cap:=cap) (e:=e) (z:=z) (l:=l) hsp hblk hcell;exact ⟨rfl,h2,h1,fun bs hb=>hR _ (qp.1 hb).1 ⟨.lst l,by rw [zty];exact hb,rfl⟩⟩
def zC (L:Lk) (t:TypeId):Ce:=match L.zero t with|some z=>AV.toC z|none=>.lst []
def elB (z:Nat):AV->Nat->Nat->AV
 | .sl i o _ _ _,k,j=>.ptr i (o+k*z+j)
 |_,_,_=>.undef
theorem fa_el {H:AH}{v:AV}{n:Nat}(h:IsSl H v n){k:Nat}(hk:k<n) (z j:Nat):fa j (elA z v k)=some (elB z v k j):=by
 rcases h with ⟨rfl,rfl⟩|⟨i,o,c,op,rfl,_⟩
 ·omega
 ·rfl
structure SlZ (H:AH) (v:AV) (n z:Nat) (cs:List AV):Prop where
 len:cs.length=n*z
 hv:(v= .nilSl/\n=0)\/ ∃i o c op ro op' e z' l,v= .sl i o n c op/\i<H.next/\Row H i ro op' e z' l/\o+n*z<=l.length/\(l.drop o).take (n*z)=cs
theorem SlZ.is {H:AH}{v:AV}{n z:Nat}{cs:List AV}(h:SlZ H v n z cs):IsSl H v n:=by
 rcases h.hv with h|⟨i,o,c,op,ro,op',e,z',l,rfl,hi,hr,hl,_⟩
 ·exact .inl h
 ·exact hr.isSl hi oM
theorem SlZ.hp {H H':AH}{v:AV}{n z:Nat}{cs:List AV}(h:SlZ H v n z cs){p:Nat->Prop}(hp:HP p H H') (hb:∀i o c op,v= .sl i o n c op->p i):SlZ H' v n z cs:=by
 refine ⟨h.len,?_⟩;rcases h.hv with h|⟨i,o,c,op,ro,op',e,z',l,rfl,hi,hr,hl,hc⟩
 ·exact .inl h
 ·exact .inr ⟨i,o,c,op,ro,op',e,z',l,rfl,qz hi hp.next,hr.hp hp hi (hb _ _ _ _ rfl),hl,hc⟩
theorem SlZ.hx {H H':AH}{v:AV}{n z:Nat}{cs:List AV}(h:SlZ H v n z cs) (hx:HX H H'):SlZ H' v n z cs:=h.hp (hx.hp fun _=>True) fun _ _ _ _ _=>trivial
theorem SlZ.get {n z k j:Nat}{cs l:List AV}{o:Nat}(hc:(l.drop o).take (n*z)=cs) (hk:k<n) (hj:j<z):cs[k*z+j]? =l[o+k*z+j]? :=by
 subst hc;have:k*z+j<n*z:=by
  have:(k+1)*z<=n*z:=qd2 z hk;rw [qj4] at this;omega
 rw [qf2 this,qu2,qb6]
theorem SlZ.rd {H:AH}{v:AV}{n z:Nat}{cs:List AV}(h:SlZ H v n z cs){k j:Nat}(hk:k<n) (hj:j<z){x:AV}(hx:cs[k*z+j]? =some x):ld1 (elB z v k j) H=some x:=by
 rcases h.hv with ⟨rfl,rfl⟩|⟨i,o,c,op,ro,op',e,z',l,rfl,hi,hr,hl,hc⟩
 ·omega
 ·exact hr.rd ((SlZ.get hc hk hj).symm.trans hx)
theorem SlZ.rdN {H:AH}{v:AV}{n z:Nat}{cs:List AV}(h:SlZ H v n z cs){k:Nat}(hk:k<n):∃c:Ce,ldN z (elA z v k) H=some c.toV/\c.l=(cs.drop (k*z)).take z:=by
 rcases h.hv with ⟨rfl,rfl⟩|⟨i,o,c,op,ro,op',e,z',l,rfl,hi,hr,hl,hc⟩
 ·omega
 ·have h1:(k+1)*z<=n*z:=qd2 z hk
  rw [qj4] at h1;obtain ⟨c,h2,h3⟩:=hr.rdN (o:=o+k*z) (s:=z) oM
  refine ⟨c,h2,?_⟩;rw [h3,← hc,qd7,qh5,qq3,qv3 oM]
theorem SlZ.src {H:AH}{v:AV}{n z:Nat}{cs:List AV}(h:SlZ H v n z cs):∃new,zib z v n H=some new/\new.l=cs:=by
 have hlen:=h.len;rcases h.hv with ⟨rfl,rfl⟩|⟨i,o,c,op,ro,op',e,z',l,rfl,hi,hr,hl,hc⟩
 ·refine ⟨.lst [],rfl,?_⟩
  exact (qk1 oM).symm
 ·obtain ⟨new,h1,h2⟩:=zzq (z:=z) (m:=n) (c:=c) (op:=op) hr (o:=o) (n:=n) hl
  exact ⟨new,h1,by rw [h2,hc]⟩
theorem Row.slZ {H:AH}{i e z z' n c:Nat}{ro op op':Bool}{l:List AV}(h:Row H i ro op e z' l) (hi:i<H.next) (hl:l.length=n*z):SlZ H (.sl i 0 n c op') n z l :=
 ⟨hl,.inr ⟨i,0,c,op',ro,op,e,z',l,rfl,hi,h,oM,by rw [qd3,qx oM]⟩⟩
theorem zuy {c:Ce}{x:AV}{l:List AV}(h:c.l=x::l) (hx:∀n,x≠ .int .u8 n):c.toV= .agg (x::l):=by
 cases c with
 |lst k=>show AV.agg k=_;rw [show k=x::l from h]
 |byt n N =>
  cases n with
  |zero=>cases h
  |succ n =>
   have:(AV.int .u8 (.ofNat (Nat.mod N 256))::bytesL n (Nat.div N 256))=x::l:=h
   injection this with h1 h2
   exact absurd h1.symm (hx _)
end Go.Ev
abbrev Go.Ev.Ra.Z:=@Go.Ev.rc_reg
abbrev Go.Ev.Rb.Z:=@Go.Ev.rc_seq
abbrev Go.Ev.Rc.Z:=@Go.Ev.rk_done
abbrev Go.Ev.Rd.Zq:=@Go.Ev.rn_seq_n
abbrev Go.Ev.Rf.Z:=@Go.Ev.rc_skip
abbrev Go.Ev.Rh.Z:=@Go.Ev.rc_ret
abbrev Go.Ev.Rk.Z:=@Go.Ev.rn_seq_r
abbrev Go.Ev.Ra.Y:=@Go.Ev.rk_mv'
abbrev Go.Ev.Rb.Y:=@Go.Ev.rk_p1
abbrev Go.Ev.Rc.Y:=@Go.Ev.rk_p2
abbrev Go.Ev.Re.Y:=@Go.Ev.rk_ln
abbrev Go.Ev.Rf.Y:=@Go.Ev.rk_ls
abbrev Go.Ev.Ra.X:=@Go.Ev.rc_cond
abbrev Go.Ev.Zu:=qa @Go.Ev.bvl (qa @qj5 (qa @qn5 @qc1))
namespace Go.Ev
structure RdE (L:Lk) (l:Nat) (args:List AV) (H:AH) (R:AV->AH->Prop):Prop where
 h:∃v H',R v H'/\ ∃n,∀m,n<=m->evF L m (.round l args H)=some (out1 v H')
section
variable {L:Lk}{s:List Kf}{T:Tr AV}{H:AH}{Q:PostC}{k:K2}{d:Option S2}
theorem run_rc {c:Code}{Q:PostC}(h:RC L (comp L c) [] T H Q):∃o:Out,Q o.ex o.T o.H/\ ∃n,∀m,n<=m->zzb L (evF L m) c T H=some o:=by
 obtain ⟨o,hq,n,hn⟩:=h.h;refine ⟨o,hq,n,fun m hm=> ?_⟩
 have h0:evC L (evF L m) (comp L c) (fun ex T H=>some ⟨ex,T,H⟩) T H=some o:=hn m hm
 rw [zyq] at h0;cases he:zzb L (evF L m) c T H with
 |none=>rw [he] at h0;cases h0
 |some o'=>rw [he] at h0;obtain ⟨ex',T',H'⟩:=o';exact h0
theorem rd_n {l n:Nat}{args:List AV}{ps:List Tmp}{asg bd:Code}{ca cb:C2}{T0:Tr AV}{R:AV->AH->Prop}(hlo:H.lo<=l) (hg:H.get l=some (.loop .ready none T0 n ps asg bd)) (hlen:Nat.beq (len args) (len ps)=true) (hca:comp L asg=ca) (hcb:comp L bd=cb)
  (h:RC L ca [] (zic (ps.zip args) T0) H fun ex T1 H1=>ex= .normal/\ ∃T2 n2 ps2 as2 bd2,H1.get l=some (.loop .ready none T2 n2 ps2 as2 bd2) /\
   RC L cb [] T1 (H1.put l (.loop .busy none T2 n2 ps2 as2 bd2)) fun ex T3 H3=>ex= .normal/\ ∃p T4 n4 ps4 as4 bd4,H3.get l=some (.loop .busy p T4 n4 ps4 as4 bd4)/\R (.bool true) (H3.put l (.loop .ready none T4 n4 ps4 as4 bd4))):RdE L l args H R:=by
 subst hca hcb;obtain ⟨⟨ex1,T1,H1⟩,⟨hex,T2,n2,ps2,as2,bd2,hg2,h2⟩,m1,hm1⟩:=run_rc h;simp only at hex hg2 h2;subst hex;obtain ⟨⟨ex3,T3,H3⟩,⟨hex,p,T4,n4,ps4,as4,bd4,hg4,hR⟩,m2,hm2⟩:=run_rc h2;simp only at hex hg4 hR;subst hex;refine ⟨_,_,hR,max m1 m2+1,fun m hm=> ?_⟩
 obtain ⟨m,rfl⟩:∃m',m=m'+1:=⟨m - 1,oM⟩
 show zsy L (evF L m) l args H=_
 unfold zsy;rw [show Nat.ble H.lo l=true from qe hlo,hg]
 simp only [hlen,znh1,hm1 m oM,hg2,hm2 m oM,hg4]
theorem rk_cr {w:Bool}{f:List AV->AH->Option Next1}{xs:List O2}{l:Nat}{args:List AV}{R:AV->AH->Prop}(hf:f (evs xs T) (hIn w H)=some (.round l args)) (hc:RdE L l args (hIn w H) R)
  (h:∀v H',R v H'->RK L k s (putS d v T) (hOut w H H') Q):RK L (.cn w f xs d k) s T H Q:=by
 obtain ⟨v,H',hR,n,hn⟩:=hc.h;obtain ⟨o,hQ,n2,h2⟩:=(h v H' hR).h;refine ⟨o,hQ,max n n2,fun m hm=> ?_⟩
 show orec none (nextO (evF L m) (hIn w H) (fun v H'=>runK' k L (evF L m) (kOf L (evF L m) s .normal) (putS d v T) (hOut w H H'))) (f (evs xs T) (hIn w H))=some o
 rw [hf];show orec none (outO (fun v H'=>runK' k L (evF L m) (kOf L (evF L m) s .normal) (putS d v T) (hOut w H H'))) (evF L m (.round l args (hIn w H)))=some o
 rw [hn m oM]
 exact h2 m oM
theorem rc_rng {f:O2}{ps:List Tmp}{asg bd:Code}{g:AV}{fid:FuncId}{args:List AV}{R:AV->AH->Prop}(hg:f.ev T=g) (he:zec g [.yld H.next]=some (.enter fid args)) (hb:(match L.func fid with|some fn=>fn.body.isSome|none=>false)=true)
  (hc:FnE L fid args (H.new (.loop .ready none T 0 ps asg bd)) R) (h:∀v H',R v H'->H'.lo<=H.next/\(∃T2 n2 ps2 as2 bd2,H'.get H.next=some (.loop .ready none T2 n2 ps2 as2 bd2))/\RN L s .normal T (H'.put H.next .defd) Q):RC L (.rng f ps asg bd) s T H Q:=by
 obtain ⟨v,H',hR,n,hn⟩:=hc.h;obtain ⟨hlo,⟨T2,n2,ps2,as2,bd2,hgt⟩,hk⟩:=h v H' hR;obtain ⟨o,hQ,n3,h3⟩:=hk.h;refine ⟨o,hQ,max n n3+1,fun m hm=> ?_⟩
 show orec none (fun o=>zdw (kOf L (evF L m) s) o) (evF L m (.range (f.ev T) ps asg bd T H))=some o
 obtain ⟨m',rfl⟩:∃m',m=m'+1:=⟨m - 1,oM⟩
 have:evF L (m'+1) (.range (f.ev T) ps asg bd T H)=some ⟨.normal,T,H'.put H.next .defd⟩:=by
  show zfm1 L (evF L m') (f.ev T) ps asg bd T H=_
  unfold zfm1;rw [hg,he];cases hf:L.func fid with
  |none=>rw [hf] at hb;cases hb
  |some fn =>
   rw [hf] at hb;simp only at hb;cases hbd:fn.body with
   |none=>rw [hbd] at hb;cases hb
   |some c =>
    simp only [hf,hbd,hn m' oM,show (out1 v H').H=H' from rfl,show Nat.ble H'.lo H.next=true from qe hlo,hgt]
 rw [this];exact h3 (m'+1) oM
end
noncomputable section
def pS (d:Nat) (v:AV) (T:Tr AV):Tr AV:=putS (some (sOf d)) v T
def o2 (x:Operand):O2:=orec (.con .undef) (fun y=>y) (opd x)
def m_ (x:O2) (d:Nat) (k:K2):K2:=.mv x (some (sOf d)) k
def sk_ (d:Nat) (k:K2):K2:=.sk (some (sOf d)) k
def p_ (f:AV->Option AV) (x:O2) (d:Nat) (k:K2):K2:=.p1 f x (some (sOf d)) k
def fa_ (o:Nat) (x:O2) (d:Nat) (k:K2):K2:=.p1 (fa o) x (some (sOf d)) k
def ex_ (i:Nat) (x:O2) (d:Nat) (k:K2):K2:=.p1 (exN i) x (some (sOf d)) k
def nt_ (x:O2) (d:Nat) (k:K2):K2:=.p1 notF x (some (sOf d)) k
def nl_ (x:O2) (d:Nat) (k:K2):K2:=.p1 nilF x (some (sOf d)) k
def nz_ (x:O2) (k:K2):K2:=.p1 nilF x none k
def q_ (f:AV->AV->Option AV) (x y:O2) (d:Nat) (k:K2):K2:=.p2 f x y (some (sOf d)) k
def ix_ (z:Nat) (x y:O2) (d:Nat) (k:K2):K2:=.p2 (ixS z) x y (some (sOf d)) k
def b_ (L:Lk) (op:BinOp) (t:Nat) (x y:Operand) (d:Nat) (k:K2):K2:=.p2 (binF op (evBin L op t x y)) (o2 x) (o2 y) (some (sOf d)) k
def l_ (x:O2) (d:Nat) (k:K2):K2:=.r1 ld1 x (some (sOf d)) k
def lN_ (n:Nat) (x:O2) (d:Nat) (k:K2):K2:=.r1 (ldN n) x (some (sOf d)) k
def n_ (f:List AV->AH->Option AV) (xs:List O2) (d:Nat) (k:K2):K2:=.ln f xs (some (sOf d)) k
def le_ (L:Lk) (t:Nat) (x:O2) (d:Nat) (k:K2):K2:=.ln (fun xs H=>fstO (zda .len L [t] xs H)) [x] (some (sOf d)) k
def pk_ (a b c:O2) (d:Nat) (k:K2):K2:=.ln (fun xs _=>pickF xs) [a,b,c] (some (sOf d)) k
def bu_ (L:Lk) (t:Nat) (is:List Nat) (xs:List O2) (d:Nat) (k:K2):K2:=.ln (fun xs _=>zsa L t (zipF is xs)) xs (some (sOf d)) k
def ls_ (f:List AV->AH->Option AV) (xs:List O2) (o:Oper) (d:Nat) (k:K2):K2:=.ls f xs o (some (sOf d)) k
def al_ (w:Bool) (c:Ce) (e s d:Nat) (k:K2):K2:=.al w (alF c e s) (some (sOf d)) k
def bx_ (w:Bool) (e s:Nat) (x:O2) (d:Nat) (k:K2):K2:=.m1 w (fun v H=>alF v.toC e s H) x (some (sOf d)) k
def a_ (w:Bool) (f:AH->Option (AV×AH)) (d:Nat) (k:K2):K2:=.al w f (some (sOf d)) k
def h1_ (w:Bool) (f:AV->AH->Option (AV×AH)) (x:O2) (d:Nat) (k:K2):K2:=.m1 w f x (some (sOf d)) k
def hn_ (w:Bool) (f:List AV->AH->Option (AV×AH)) (xs:List O2) (d:Nat) (k:K2):K2:=.hn w f xs (some (sOf d)) k
def hz_ (w:Bool) (f:List AV->AH->Option (AV×AH)) (xs:List O2) (k:K2):K2:=.hn w f xs none k
def s1_ (w:Bool) (L:Lk) (t:Nat) (x y:O2) (k:K2):K2:=.st w (st1 L t) x y none k
def sN_ (w:Bool) (n:Nat) (x y:O2) (k:K2):K2:=.st w (stN n) x y none k
def cl_ (w:Bool) (f:Nat) (xs:List O2) (d:Nat) (k:K2):K2:=.cl w f xs (some (sOf d)) k
def cz_ (w:Bool) (f:Nat) (xs:List O2) (k:K2):K2:=.cl w f xs none k
def cf_ (w:Bool) (xs:List O2) (d:Nat) (k:K2):K2:=.cn w (fun xs _=>zec (hd xs) (tl xs)) xs (some (sOf d)) k
def cy_ (w:Bool) (xs:List O2) (k:K2):K2:=.cn w (fun xs _=>zec (hd xs) (tl xs)) xs none k
def o_ (c:Nat) (w:Bool) (d:Nat) (A:K2->K2) (k:K2):K2:=.gd (sOf c) w (some (sOf d)) (A k) k
def oz_ (c:Nat) (w:Bool) (A:K2->K2) (k:K2):K2:=.gd (sOf c) w none (A k) k
def oR (x:Option AV) (L:Lk) (d:Nat) (k:K2) (s:List Kf) (T:Tr AV) (H:AH) (Q:PostC):Prop:= ∃v,x=some v/\RK L k s (pS d v T) H Q
def oZ (x:Option AV) (L:Lk) (k:K2) (s:List Kf) (T:Tr AV) (H:AH) (Q:PostC):Prop:= ∃v,x=some v/\RK L k s T H Q
def oH (w:Bool) (x:Option (AV×AH)) (L:Lk) (d:Nat) (k:K2) (s:List Kf) (T:Tr AV) (H:AH) (Q:PostC):Prop:= ∃p:AV×AH,x=some p/\RK L k s (pS d p.1 T) (hOut w H p.2) Q
def oY (w:Bool) (x:Option (AV×AH)) (L:Lk) (k:K2) (s:List Kf) (T:Tr AV) (H:AH) (Q:PostC):Prop:= ∃p:AV×AH,x=some p/\RK L k s T (hOut w H p.2) Q
def oS (w:Bool) (x:Option AH) (L:Lk) (k:K2) (s:List Kf) (T:Tr AV) (H:AH) (Q:PostC):Prop:= ∃H',x=some H'/\RK L k s T (hOut w H H') Q
def cR (w:Bool) (L:Lk) (f:Nat) (args:List AV) (H:AH) (d:Nat) (k:K2) (s:List Kf) (T:Tr AV) (Q:PostC):Prop:=RK L (.cl w f (args.map O2.con) (some (sOf d)) k) s T H Q
def cZ (w:Bool) (L:Lk) (f:Nat) (args:List AV) (H:AH) (k:K2) (s:List Kf) (T:Tr AV) (Q:PostC):Prop:=RK L (.cl w f (args.map O2.con) none k) s T H Q
def cF (w:Bool) (x:Option Next1) (L:Lk) (H:AH) (d:Nat) (k:K2) (s:List Kf) (T:Tr AV) (Q:PostC):Prop:=RK L (.cn w (fun _ _=>x) [] (some (sOf d)) k) s T H Q
def cY (w:Bool) (x:Option Next1) (L:Lk) (H:AH) (k:K2) (s:List Kf) (T:Tr AV) (Q:PostC):Prop:=RK L (.cn w (fun _ _=>x) [] none k) s T H Q
def bR (x:AV) (L:Lk) (a b:C2) (s:List Kf) (T:Tr AV) (H:AH) (Q:PostC):Prop:= ∃c,x= .bool c/\(c=true->RC L a s T H Q)/\(c=false->RC L b s T H Q)
def gR (x:AV) (w:Bool) (L:Lk) (d:Nat) (a b:K2) (s:List Kf) (T:Tr AV) (H:AH) (Q:PostC):Prop:=(x= .bool w->RK L a s T H Q)/\(x≠ .bool w->RK L b s (pS d .undef T) H Q)
def gZ (x:AV) (w:Bool) (L:Lk) (a b:K2) (s:List Kf) (T:Tr AV) (H:AH) (Q:PostC):Prop:=(x= .bool w->RK L a s T H Q)/\(x≠ .bool w->RK L b s T H Q)
end
section
variable {L M:Lk}{s:List Kf}{T:Tr AV}{H H':AH}{Q:PostC}{k a b:K2}{x y z:O2}{d:Nat}{v:AV}{w:Bool}{xs:List O2}
theorem comes_orec {α:Type}{u:Option α}{G:Rec->α->Option Out}:Comes Q (fun rec=>orec none (G rec) u) L↔ ∃v,u=some v/\Comes Q (fun rec=>G rec v) L:=by
 cases u with
 |none=>exact ⟨fun ⟨o,_,n,hn⟩=>(by have:=hn n (qn _);cases this),fun ⟨_,h,_⟩=>(by cases h)⟩
 |some v=>exact ⟨fun h=>⟨v,rfl,h⟩,fun ⟨v',h,hc⟩=>(by cases h;exact hc)⟩
theorem zmi {k k':K2}{s':List Kf}{T':Tr AV}(h:Comes Q (fun rec=>runK' k L rec (kOf L rec s .normal) T H) L↔Comes Q (fun rec=>runK' k' L rec (kOf L rec s' .normal) T' H') L):RK L k s T H Q=RK L k' s' T' H' Q :=
 propext ⟨fun h'=>⟨h.1 h'.h⟩,fun h'=>⟨h.2 h'.h⟩⟩
theorem RK_m:RK L (m_ x d k) s T H Q=RK L k s (pS d (x.ev T) T) H Q:=zmi qe7
theorem RK_sk:RK L (sk_ d k) s T H Q=RK L k s (pS d .undef T) H Q:=zmi qe7
theorem zsh {k':K2}{u:Option AV}(h:∀rec,runK' k' L rec (kOf L rec s .normal) T H=orec none (fun v=>runK' k L rec (kOf L rec s .normal) (pS d v T) H) u):RK L k' s T H Q=oR u L d k s T H Q:=by
 refine propext ⟨fun h'=> ?_,fun ⟨v,hv,h'⟩=>⟨?_⟩⟩
 ·have h1:=h'.h
  simp only [h] at h1;obtain ⟨v,hv,hc⟩:=comes_orec.1 h1;exact ⟨v,hv,⟨hc⟩⟩
 ·simp only [h]
  exact comes_orec.2 ⟨v,hv,h'.h⟩
theorem oz_iff {k':K2}{u:Option AV}(h:∀rec,runK' k' L rec (kOf L rec s .normal) T H=orec none (fun _=>runK' k L rec (kOf L rec s .normal) T H) u):RK L k' s T H Q=oZ u L k s T H Q:=by
 refine propext ⟨fun h'=> ?_,fun ⟨v,hv,h'⟩=>⟨?_⟩⟩
 ·have h1:=h'.h
  simp only [h] at h1;obtain ⟨v,hv,hc⟩:=comes_orec.1 h1;exact ⟨v,hv,⟨hc⟩⟩
 ·simp only [h]
  exact comes_orec.2 ⟨v,hv,h'.h⟩
theorem znm1 {k':K2}{u:Option (AV×AH)}(h:∀rec,runK' k' L rec (kOf L rec s .normal) T H=orec none (prodO (fun v H'=>runK' k L rec (kOf L rec s .normal) (pS d v T) (hOut w H H'))) u):RK L k' s T H Q=oH w u L d k s T H Q:=by
 refine propext ⟨fun h'=> ?_,fun ⟨p,hv,h'⟩=>⟨?_⟩⟩
 ·have h1:=h'.h
  simp only [h] at h1;obtain ⟨p,hv,hc⟩:=comes_orec.1 h1;exact ⟨p,hv,⟨hc⟩⟩
 ·simp only [h]
  exact comes_orec.2 ⟨p,hv,h'.h⟩
theorem oy_iff {k':K2}{u:Option (AV×AH)}(h:∀rec,runK' k' L rec (kOf L rec s .normal) T H=orec none (prodO (fun _ H'=>runK' k L rec (kOf L rec s .normal) T (hOut w H H'))) u):RK L k' s T H Q=oY w u L k s T H Q:=by
 refine propext ⟨fun h'=> ?_,fun ⟨p,hv,h'⟩=>⟨?_⟩⟩
 ·have h1:=h'.h
  simp only [h] at h1;obtain ⟨p,hv,hc⟩:=comes_orec.1 h1;exact ⟨p,hv,⟨hc⟩⟩
 ·simp only [h]
  exact comes_orec.2 ⟨p,hv,h'.h⟩
theorem os_iff {k':K2}{u:Option AH}(h:∀rec,runK' k' L rec (kOf L rec s .normal) T H=orec none (fun H'=>runK' k L rec (kOf L rec s .normal) T (hOut w H H')) u):RK L k' s T H Q=oS w u L k s T H Q:=by
 refine propext ⟨fun h'=> ?_,fun ⟨p,hv,h'⟩=>⟨?_⟩⟩
 ·have h1:=h'.h
  simp only [h] at h1;obtain ⟨p,hv,hc⟩:=comes_orec.1 h1;exact ⟨p,hv,⟨hc⟩⟩
 ·simp only [h]
  exact comes_orec.2 ⟨p,hv,h'.h⟩
theorem RK_p {f:AV->Option AV}:RK L (p_ f x d k) s T H Q=oR (f (x.ev T)) L d k s T H Q:=zsh fun _=>rfl
theorem RK_fa {o:Nat}:RK L (fa_ o x d k) s T H Q=oR (fa o (x.ev T)) L d k s T H Q:=zsh fun _=>rfl
theorem RK_ex {i:Nat}:RK L (ex_ i x d k) s T H Q=oR (exN i (x.ev T)) L d k s T H Q:=zsh fun _=>rfl
theorem RK_nt:RK L (nt_ x d k) s T H Q=oR (notF (x.ev T)) L d k s T H Q:=zsh fun _=>rfl
theorem RK_nl:RK L (nl_ x d k) s T H Q=oR (nilF (x.ev T)) L d k s T H Q:=zsh fun _=>rfl
theorem RK_nz:RK L (nz_ x k) s T H Q=oZ (nilF (x.ev T)) L k s T H Q:=oz_iff fun _=>rfl
theorem RK_q {f:AV->AV->Option AV}:RK L (q_ f x y d k) s T H Q=oR (f (x.ev T) (y.ev T)) L d k s T H Q:=zsh fun _=>rfl
theorem RK_ix {n:Nat}:RK L (ix_ n x y d k) s T H Q=oR (ixS n (x.ev T) (y.ev T)) L d k s T H Q:=zsh fun _=>rfl
theorem RK_b {op:BinOp}{t:Nat}{p q:Operand}:RK L (b_ M op t p q d k) s T H Q=oR (binF op (evBin M op t p q) ((o2 p).ev T) ((o2 q).ev T)) L d k s T H Q:=zsh fun _=>rfl
theorem RK_l:RK L (l_ x d k) s T H Q=oR (ld1 (x.ev T) H) L d k s T H Q:=zsh fun _=>rfl
theorem RK_lN {n:Nat}:RK L (lN_ n x d k) s T H Q=oR (ldN n (x.ev T) H) L d k s T H Q:=zsh fun _=>rfl
theorem RK_n {f:List AV->AH->Option AV}:RK L (n_ f xs d k) s T H Q=oR (f (evs xs T) H) L d k s T H Q:=zsh fun _=>rfl
theorem RK_le {t:Nat}:RK L (le_ M t x d k) s T H Q=oR (fstO (zda .len M [t] [x.ev T] H)) L d k s T H Q:=zsh fun _=>rfl
theorem RK_pk:RK L (pk_ x y z d k) s T H Q=oR (pickF [x.ev T,y.ev T,z.ev T]) L d k s T H Q:=zsh fun _=>rfl
theorem RK_bu {t:Nat}{is:List Nat}:RK L (bu_ M t is xs d k) s T H Q=oR (zsa M t (zipF is (evs xs T))) L d k s T H Q:=zsh fun _=>rfl
theorem RK_ls {f:List AV->AH->Option AV}{o:Oper}(h:f (evs xs T) H=some v):RK L (ls_ f xs o d k) s T H Q=RK L k s (pS d v T) H Q:=by
 refine zmi ?_;show Comes Q (fun rec=>orec (orec none (prodO (fun v H'=>runK' k L rec (kOf L rec s .normal) (putS (some (sOf d)) v T) H')) (evEnd L T o H)) (fun v=>runK' k L rec (kOf L rec s .normal) (putS (some (sOf d)) v T) H) (f (evs xs T) H)) L↔_
 rw [h];exact qe7
theorem RK_al {c:Ce}{e n:Nat}:RK L (al_ w c e n d k) s T H Q=RK L k s (pS d (.ptr H.next 0) T) (H.new (.cells c e n false false)) Q:=by
 refine zmi ?_;show Comes Q (fun rec=>orec none (prodO (fun v H'=>runK' k L rec (kOf L rec s .normal) (putS (some (sOf d)) v T) (hOut w H H'))) (alF c e n (hIn w H))) L↔_
 rw [zqd1];cases w<;>exact qe7
theorem RK_bx {e n:Nat}:RK L (bx_ w e n x d k) s T H Q=RK L k s (pS d (.ptr H.next 0) T) (H.new (.cells (x.ev T).toC e n false false)) Q:=by
 refine zmi ?_;show Comes Q (fun rec=>orec none (prodO (fun v H'=>runK' k L rec (kOf L rec s .normal) (putS (some (sOf d)) v T) (hOut w H H'))) (alF (x.ev T).toC e n (hIn w H))) L↔_
 rw [zqd1];cases w<;>exact qe7
theorem RK_a {f:AH->Option (AV×AH)}:RK L (a_ w f d k) s T H Q=oH w (f (hIn w H)) L d k s T H Q:=znm1 fun _=>rfl
theorem RK_h1 {f:AV->AH->Option (AV×AH)}:RK L (h1_ w f x d k) s T H Q=oH w (f (x.ev T) (hIn w H)) L d k s T H Q:=znm1 fun _=>rfl
theorem RK_hn {f:List AV->AH->Option (AV×AH)}:RK L (hn_ w f xs d k) s T H Q=oH w (f (evs xs T) (hIn w H)) L d k s T H Q:=znm1 fun _=>rfl
theorem RK_hz {f:List AV->AH->Option (AV×AH)}:RK L (hz_ w f xs k) s T H Q=oY w (f (evs xs T) (hIn w H)) L k s T H Q:=oy_iff fun _=>rfl
theorem RK_s1 {t:Nat}:RK L (s1_ w M t x y k) s T H Q=oS w (st1 M t (x.ev T) (y.ev T) (hIn w H)) L k s T H Q:=os_iff fun _=>rfl
theorem RK_sN {n:Nat}:RK L (sN_ w n x y k) s T H Q=oS w (stN n (x.ev T) (y.ev T) (hIn w H)) L k s T H Q:=os_iff fun _=>rfl
theorem zyl (l:List AV):evs (l.map O2.con) T=l:=by
 induction l with
 |nil=>rfl
 |cons a l ih=>show a::evs (l.map O2.con) T=_;rw [ih]
theorem RK_cl {f:Nat}:RK L (cl_ w f xs d k) s T H Q=cR w L f (evs xs T) H d k s T Q:=by
 refine zmi ?_;show Comes Q (fun rec=>orec none (outO (fun v H'=>runK' k L rec (kOf L rec s .normal) (putS (some (sOf d)) v T) (hOut w H H'))) (rec (.call f (evs xs T) (hIn w H)))) L↔Comes Q (fun rec=>orec none (outO (fun v H'=>runK' k L rec (kOf L rec s .normal) (putS (some (sOf d)) v T) (hOut w H H'))) (rec (.call f (evs ((evs xs T).map O2.con) T) (hIn w H)))) L
 rw [zyl]
theorem RK_cz {f:Nat}:RK L (cz_ w f xs k) s T H Q=cZ w L f (evs xs T) H k s T Q:=by
 refine zmi ?_;show Comes Q (fun rec=>orec none (outO (fun v H'=>runK' k L rec (kOf L rec s .normal) T (hOut w H H'))) (rec (.call f (evs xs T) (hIn w H)))) L↔Comes Q (fun rec=>orec none (outO (fun v H'=>runK' k L rec (kOf L rec s .normal) T (hOut w H H'))) (rec (.call f (evs ((evs xs T).map O2.con) T) (hIn w H)))) L
 rw [zyl]
theorem RK_cf:RK L (cf_ w xs d k) s T H Q=cF w (zec (hd (evs xs T)) (tl (evs xs T))) L H d k s T Q:=zmi qe7
theorem RK_cy:RK L (cy_ w xs k) s T H Q=cY w (zec (hd (evs xs T)) (tl (evs xs T))) L H k s T Q:=zmi qe7
theorem cF_in {g:Nat}{args:List AV}:cF w (some (.enter g args)) L H d k s T Q=cR w L g args H d k s T Q:=by
 refine zmi ?_;show Comes Q (fun rec=>orec none (outO (fun v H'=>runK' k L rec (kOf L rec s .normal) (putS (some (sOf d)) v T) (hOut w H H'))) (rec (.call g args (hIn w H)))) L↔Comes Q (fun rec=>orec none (outO (fun v H'=>runK' k L rec (kOf L rec s .normal) (putS (some (sOf d)) v T) (hOut w H H'))) (rec (.call g (evs (args.map O2.con) T) (hIn w H)))) L
 rw [zyl]
theorem cY_in {g:Nat}{args:List AV}:cY w (some (.enter g args)) L H k s T Q=cZ w L g args H k s T Q:=by
 refine zmi ?_;show Comes Q (fun rec=>orec none (outO (fun v H'=>runK' k L rec (kOf L rec s .normal) T (hOut w H H'))) (rec (.call g args (hIn w H)))) L↔Comes Q (fun rec=>orec none (outO (fun v H'=>runK' k L rec (kOf L rec s .normal) T (hOut w H H'))) (rec (.call g (evs (args.map O2.con) T) (hIn w H)))) L
 rw [zyl]
theorem zpg (g:Nat) (a c l:List AV):zec (.fn (.func g) a c) l=some (.enter g (a ++ l ++ c)):=rfl
theorem guardB_iff {c:Nat}:zfl w ((sOf c).get T)=true↔gT T c= .bool w:=by
 rw [zvl];unfold gT;cases T.get c with
 |none=>exact ⟨fun h=>(by cases h),fun h=>(by cases h)⟩
 |some v=>cases v<;>first
  |(refine ⟨fun h=>(by cases h),fun h=>(by cases h)⟩;done)
  |(next b=>cases b<;>cases w<;>first|(exact ⟨fun _=>rfl,fun _=>rfl⟩)|exact ⟨fun h=>(by cases h),fun h=>(by cases h)⟩)
theorem RK_o {c:Nat}{A:K2->K2}:RK L (o_ c w d A k) s T H Q=gR (gT T c) w L d (A k) k s T H Q:=by
 have key:RK L (o_ c w d A k) s T H Q↔gR (gT T c) w L d (A k) k s T H Q:=by
  have e:RK L (o_ c w d A k) s T H Q↔Comes Q (fun rec=>brec (runK' k L rec (kOf L rec s .normal) (pS d .undef T) H) (runK' (A k) L rec (kOf L rec s .normal) T H) (zfl w ((sOf c).get T))) L:=⟨fun h=>h.h,fun h=>⟨h⟩⟩
  rw [e];cases hg:zfl w ((sOf c).get T) with
  |true =>
   have:=guardB_iff.1 hg;exact ⟨fun h=>⟨fun _=>⟨h⟩,fun h'=>absurd this h'⟩,fun h=>(h.1 this).h⟩
  |false =>
   have:gT T c≠ .bool w:=fun h=>by rw [guardB_iff.2 h] at hg;cases hg
   exact ⟨fun h=>⟨fun h'=>absurd h' this,fun _=>⟨h⟩⟩,fun h=>(h.2 this).h⟩
 exact propext key
theorem RK_oz {c:Nat}{A:K2->K2}:RK L (oz_ c w A k) s T H Q=gZ (gT T c) w L (A k) k s T H Q:=by
 have key:RK L (oz_ c w A k) s T H Q↔gZ (gT T c) w L (A k) k s T H Q:=by
  have e:RK L (oz_ c w A k) s T H Q↔Comes Q (fun rec=>brec (runK' k L rec (kOf L rec s .normal) T H) (runK' (A k) L rec (kOf L rec s .normal) T H) (zfl w ((sOf c).get T))) L:=⟨fun h=>h.h,fun h=>⟨h⟩⟩
  rw [e];cases hg:zfl w ((sOf c).get T) with
  |true =>
   have:=guardB_iff.1 hg;exact ⟨fun h=>⟨fun _=>⟨h⟩,fun h'=>absurd this h'⟩,fun h=>(h.1 this).h⟩
  |false =>
   have:gT T c≠ .bool w:=fun h=>by rw [guardB_iff.2 h] at hg;cases hg
   exact ⟨fun h=>⟨fun h'=>absurd h' this,fun _=>⟨h⟩⟩,fun h=>(h.2 this).h⟩
 exact propext key
theorem gR_t:gR (.bool w) w L d a b s T H Q=RK L a s T H Q:=propext ⟨fun h=>h.1 rfl,fun h=>⟨fun _=>h,fun h'=>absurd rfl h'⟩⟩
theorem gR_tf:gR (.bool true) false L d a b s T H Q=RK L b s (pS d .undef T) H Q:=propext ⟨fun h=>h.2 (fun h=>by cases h),fun h=>⟨fun h'=>(by cases h'),fun _=>h⟩⟩
theorem gR_ft:gR (.bool false) true L d a b s T H Q=RK L b s (pS d .undef T) H Q:=propext ⟨fun h=>h.2 (fun h=>by cases h),fun h=>⟨fun h'=>(by cases h'),fun _=>h⟩⟩
theorem gR_u:gR (.tup []) w L d a b s T H Q=RK L b s (pS d .undef T) H Q:=propext ⟨fun h=>h.2 (fun h=>by cases h),fun h=>⟨fun h'=>(by cases h'),fun _=>h⟩⟩
theorem gZ_t:gZ (.bool w) w L a b s T H Q=RK L a s T H Q:=propext ⟨fun h=>h.1 rfl,fun h=>⟨fun _=>h,fun h'=>absurd rfl h'⟩⟩
theorem gZ_tf:gZ (.bool true) false L a b s T H Q=RK L b s T H Q:=propext ⟨fun h=>h.2 (fun h=>by cases h),fun h=>⟨fun h'=>(by cases h'),fun _=>h⟩⟩
theorem gZ_ft:gZ (.bool false) true L a b s T H Q=RK L b s T H Q:=propext ⟨fun h=>h.2 (fun h=>by cases h),fun h=>⟨fun h'=>(by cases h'),fun _=>h⟩⟩
theorem gZ_u:gZ (.tup []) w L a b s T H Q=RK L b s T H Q:=propext ⟨fun h=>h.2 (fun h=>by cases h),fun h=>⟨fun h'=>(by cases h'),fun _=>h⟩⟩
theorem gR_if {c:Bool}(ht:c=true->gR (.bool true) w L d a b s T H Q) (hf:c=false->gR (.bool false) w L d a b s T H Q):gR (.bool c) w L d a b s T H Q:=by cases c<;>first|exact hf rfl|exact ht rfl
theorem zth1:oR (some v) L d k s T H Q=RK L k s (pS d v T) H Q:=propext ⟨fun ⟨_,h,hk⟩=>(by cases h;exact hk),fun h=>⟨v,rfl,h⟩⟩
theorem zuh1:oZ (some v) L k s T H Q=RK L k s T H Q:=propext ⟨fun ⟨_,h,hk⟩=>(by cases h;exact hk),fun h=>⟨v,rfl,h⟩⟩
theorem zvh1:oH w (some (v,H')) L d k s T H Q=RK L k s (pS d v T) (hOut w H H') Q:=propext ⟨fun ⟨_,h,hk⟩=>(by cases h;exact hk),fun h=>⟨(v,H'),rfl,h⟩⟩
theorem zwh1:oY w (some (v,H')) L k s T H Q=RK L k s T (hOut w H H') Q:=propext ⟨fun ⟨_,h,hk⟩=>(by cases h;exact hk),fun h=>⟨(v,H'),rfl,h⟩⟩
theorem zxh1:oS w (some H') L k s T H Q=RK L k s T (hOut w H H') Q:=propext ⟨fun ⟨_,h,hk⟩=>(by cases h;exact hk),fun h=>⟨H',rfl,h⟩⟩
theorem zyh1:RK L .done s T H Q=RN L s .normal T H Q:=propext ⟨fun h=>⟨h.h⟩,fun h=>⟨h.h⟩⟩
variable {A B:C2}{id j:Nat}{ex:Ex}
theorem zzh1:RC L .skip s T H Q=RN L s .normal T H Q:=propext ⟨fun h=>⟨h.h⟩,fun h=>⟨h.h⟩⟩
theorem RC_reg:RC L (.reg k) s T H Q=RK L k s T H Q:=propext ⟨fun h=>⟨h.h⟩,fun h=>⟨h.h⟩⟩
theorem RC_seq:RC L (.seq A B) s T H Q=RC L A (.seq B::s) T H Q:=propext ⟨fun h=>⟨h.h⟩,fun h=>⟨h.h⟩⟩
theorem RC_blk:RC L (.block id A) s T H Q=RC L A (.blk id::s) T H Q:=propext ⟨fun h=>⟨h.h⟩,fun h=>⟨h.h⟩⟩
theorem RC_scp:RC L (.scope A) s T H Q=RC L A (.scp::s) T H Q:=propext ⟨fun h=>⟨h.h⟩,fun h=>⟨h.h⟩⟩
theorem zai1:RC L (.exit id) s T H Q=RN L s (.exit id) T H Q:=propext ⟨fun h=>⟨h.h⟩,fun h=>⟨h.h⟩⟩
theorem RC_ret:RC L .ret s T H Q=RN L s .ret T H Q:=propext ⟨fun h=>⟨h.h⟩,fun h=>⟨h.h⟩⟩
theorem RN_nil:RN L [] ex T H Q=Q ex T H:=propext ⟨fun ⟨⟨o,hq,n,hn⟩⟩=>(by have:=hn n (qn _);cases this;exact hq),fun h=>zjm1 h⟩
theorem RN_sn:RN L (.seq B::s) .normal T H Q=RC L B s T H Q:=propext ⟨fun h=>⟨h.h⟩,fun h=>⟨h.h⟩⟩
theorem RN_se:RN L (.seq B::s) (.exit id) T H Q=RN L s (.exit id) T H Q:=propext ⟨fun h=>⟨h.h⟩,fun h=>⟨h.h⟩⟩
theorem RN_sr:RN L (.seq B::s) .ret T H Q=RN L s .ret T H Q:=propext ⟨fun h=>⟨h.h⟩,fun h=>⟨h.h⟩⟩
theorem RN_bn:RN L (.blk id::s) .normal T H Q=RN L s .normal T H Q:=propext ⟨fun h=>⟨h.h⟩,fun h=>⟨h.h⟩⟩
theorem RN_br:RN L (.blk id::s) .ret T H Q=RN L s .ret T H Q:=propext ⟨fun h=>⟨h.h⟩,fun h=>⟨h.h⟩⟩
theorem RN_be:RN L (.blk id::s) (.exit j) T H Q=if j=id then RN L s .normal T H Q else RN L s (.exit j) T H Q:=by
 have e:RN L (.blk id::s) (.exit j) T H Q↔Comes Q (fun rec=>brec (kOf L rec s (.exit j) T H) (kOf L rec s .normal T H) (Nat.beq j id)) L:=⟨fun h=>h.h,fun h=>⟨h⟩⟩
 rw [propext e];by_cases h:j=id
 ·subst h
  rw [qi rfl,show Nat.beq j j=true from qt2 j]
  exact propext ⟨fun h=>⟨h⟩,fun h=>h.h⟩
 ·rw [qd h,show Nat.beq j id=false from by cases hb:Nat.beq j id with|false=>rfl|true=>exact absurd (qf hb) h]
  exact propext ⟨fun h=>⟨h⟩,fun h=>h.h⟩
theorem RN_pn:RN L (.scp::s) .normal T H Q=RN L s .normal T H Q:=propext ⟨fun h=>⟨h.h⟩,fun h=>⟨h.h⟩⟩
theorem RN_pe:RN L (.scp::s) (.exit id) T H Q=RN L s (.exit id) T H Q:=propext ⟨fun h=>⟨h.h⟩,fun h=>⟨h.h⟩⟩
theorem RN_pr:RN L (.scp::s) .ret T H Q=RN L s .ret T H Q:=propext ⟨fun h=>⟨h.h⟩,fun h=>⟨h.h⟩⟩
theorem zbi1:RC L (.cond x A B) s T H Q=bR (x.ev T) L A B s T H Q:=by
 have e:RC L (.cond x A B) s T H Q↔Comes Q (fun rec=>zul none (fun y=>brec (evC' B L rec (kOf L rec s) T H) (evC' A L rec (kOf L rec s) T H) y) (x.ev T)) L:=⟨fun h=>h.h,fun h=>⟨h⟩⟩
 rw [propext e];have nb:∀(v:AV),(∀c,v≠ .bool c)-> ∀f:Bool->Option Out,zul none f v=none:=fun v h f=>by
  cases v<;>first|rfl|(next c=>exact absurd rfl (h c))
 have cb:(∃c,x.ev T= .bool c)\/ ∀c,x.ev T≠ .bool c:=by
  by_cases h:∃c,x.ev T= .bool c
  ·exact .inl h
  ·exact .inr fun c hc=>h ⟨c,hc⟩
 rcases cb with ⟨c,hc⟩|hn
 ·rw [hc]
  cases c with
  |true=>exact propext ⟨fun h=>⟨true,rfl,fun _=>⟨h⟩,fun h=>(by cases h)⟩,fun ⟨c,hc,h1,h2⟩=>(by cases hc;exact (h1 rfl).h)⟩
  |false=>exact propext ⟨fun h=>⟨false,rfl,fun h=>(by cases h),fun _=>⟨h⟩⟩,fun ⟨c,hc,h1,h2⟩=>(by cases hc;exact (h2 rfl).h)⟩
 ·refine propext ⟨fun ⟨o,_,n,h⟩=> ?_,fun ⟨c,h,_⟩=>absurd h (hn c)⟩
  have h1:=h n (qn _);have h2:zul none (fun y=>brec (evC' B L (evF L n) (kOf L (evF L n) s) T H) (evC' A L (evF L n) (kOf L (evF L n) s) T H) y) (x.ev T)=some o:=h1
  rw [nb _ hn] at h2;cases h2
theorem bR_t:bR (.bool true) L A B s T H Q=RC L A s T H Q:=propext ⟨fun ⟨c,hc,h1,h2⟩=>(by cases hc;exact h1 rfl),fun h=>⟨true,rfl,fun _=>h,fun h=>(by cases h)⟩⟩
theorem bR_f:bR (.bool false) L A B s T H Q=RC L B s T H Q:=propext ⟨fun ⟨c,hc,h1,h2⟩=>(by cases hc;exact h2 rfl),fun h=>⟨false,rfl,fun h=>(by cases h),fun _=>h⟩⟩
theorem bR_if {c:Bool}(ht:c=true->RC L A s T H Q) (hf:c=false->RC L B s T H Q):bR (.bool c) L A B s T H Q:=⟨c,rfl,ht,hf⟩
theorem cR_m {f:Nat}{args:List AV}{R:AV->AH->Prop}(hc:FnE L f args (hIn w H) R) (h:∀v H',R v H'->RK L k s (pS d v T) (hOut w H H') Q):cR w L f args H d k s T Q :=
 rk_cl (by rw [zyl];exact hc) h
def FnX (L:Lk) (f:Nat) (args:List AV) (H:AH) (v:AV) (H':AH):Prop:=FnE L f args H fun r G=>r=v/\G=H'
theorem FnX.ok {f:Nat}{args:List AV}(h:FnE L f args H fun r G=>r=v/\G=H'):FnX L f args H v H':=h
theorem cR_x {f:Nat}{args:List AV}(hc:FnX L f args (hIn w H) v H'):cR w L f args H d k s T Q=RK L k s (pS d v T) (hOut w H H') Q:=by
 refine propext ⟨fun h=> ?_,fun h=>cR_m hc fun r G ⟨h1,h2⟩=>by subst h1 h2;exact h⟩
 obtain ⟨v1,H1,⟨rfl,rfl⟩,n,hn⟩:=hc.h;obtain ⟨o,hq,n2,h2⟩:=h.h;refine ⟨o,hq,max n n2,fun m hm=> ?_⟩
 have h3:orec none (outO (fun v H'=>runK' k L (evF L m) (kOf L (evF L m) s .normal) (putS (some (sOf d)) v T) (hOut w H H'))) (evF L m (.call f (evs (args.map O2.con) T) (hIn w H)))=some o:=h2 m oM
 rw [zyl,hn m oM] at h3
 exact h3
theorem FnX.c {f:Nat}{args:List AV}(hc:FnX L f args H v H'){d:Nat}{k:K2}{s:List Kf}{T:Tr AV}{Q:PostC}:cR false L f args H d k s T Q=RK L k s (pS d v T) H' Q:=cR_x (w:=false) hc
theorem FnX.p {f:Nat}{args:List AV}(hc:∀H,FnX L f args H v H){H:AH}{d:Nat}{k:K2}{s:List Kf}{T:Tr AV}{Q:PostC}:cR false L f args H d k s T Q=RK L k s (pS d v T) H Q:=cR_x (w:=false) (hc _)
def LpR (L:Lk) (s:List Kf) (Q:PostC) (I:Nat->Tr AV->AH->Prop) (n:Nat):PostC:=fun ex T H=>match ex with| .normal=> ∃n',n'<n/\I n' T H|ex=>RN L s ex T H Q
theorem LpR_n {I:Nat->Tr AV->AH->Prop}{n:Nat}:LpR L s Q I n .normal T H= ∃n',n'<n/\I n' T H:=rfl
theorem LpR_e {I:Nat->Tr AV->AH->Prop}{n:Nat}:LpR L s Q I n (.exit id) T H=RN L s (.exit id) T H Q:=rfl
theorem LpR_r {I:Nat->Tr AV->AH->Prop}{n:Nat}:LpR L s Q I n .ret T H=RN L s .ret T H Q:=rfl
theorem rc_lp {body:Code}{c:C2}(hc:comp L body=c) (I:Nat->Tr AV->AH->Prop) (n:Nat) (h0:I n T H) (h:∀n T H,I n T H->RC L c [] T H (LpR L s Q I n)):RC L (.loop body) s T H Q :=
 rc_loop (R:=fun ex T H=>RN L s ex T H Q) (lp_ind hc I _ (fun n T H hI=>⟨(h n T H hI).h.mono fun ex T H hq=>by cases ex<;>exact hq⟩) n T H h0) fun _ _ _ h=>h
theorem FQ_1r {R:AV->AH->Prop}{t:Tmp}:FnQ L [.tmp t] R .ret T H=R (gT T t) H:=propext ⟨fun ⟨_,v,hv,h⟩=>(by rw [zgw] at hv;cases hv;exact h),fun h=>zhw (zgw _ _) h⟩
theorem FQ_1n {R:AV->AH->Prop}{t:Tmp}:FnQ L [.tmp t] R .normal T H=R (gT T t) H:=propext ⟨fun ⟨_,v,hv,h⟩=>(by rw [zgw] at hv;cases hv;exact h),fun h=>zge1 (zgw _ _) h⟩
theorem FQ_2r {R:AV->AH->Prop}{t u:Tmp}:FnQ L [.tmp t,.tmp u] R .ret T H=R (.tup [gT T t,gT T u]) H:=propext ⟨fun ⟨_,v,hv,h⟩=>(by rw [zee1] at hv;cases hv;exact h),fun h=>zhw (zee1 _ _ _) h⟩
theorem FQ_2n {R:AV->AH->Prop}{t u:Tmp}:FnQ L [.tmp t,.tmp u] R .normal T H=R (.tup [gT T t,gT T u]) H:=propext ⟨fun ⟨_,v,hv,h⟩=>(by rw [zee1] at hv;cases hv;exact h),fun h=>zge1 (zee1 _ _ _) h⟩
theorem zne1 (L:Lk) (t u w:Tmp):resV L [.tmp t,.tmp u,.tmp w] T H=some (.tup [gT T t,gT T u,gT T w]):=by
 unfold resV znb gT;show (match obind (match T.get t with|some v=>some v|none=>some AV.undef) (fun b=>obind (obind (match T.get u with|some v=>some v|none=>some AV.undef) (fun b=>obind (obind (match T.get w with|some v=>some v|none=>some AV.undef) (fun b=>obind (some []) fun bs=>some (b::bs))) fun bs=>some (b::bs))) fun bs=>some (b::bs)) with|some vs=>(match vs with| [v]=>some v|vs=>some (AV.tup vs))|none=>none)=_
 cases T.get t<;>cases T.get u<;>cases T.get w<;>rfl
theorem FQ_3r {R:AV->AH->Prop}{t u w:Tmp}:FnQ L [.tmp t,.tmp u,.tmp w] R .ret T H=R (.tup [gT T t,gT T u,gT T w]) H:=propext ⟨fun ⟨_,v,hv,h⟩=>(by rw [zne1] at hv;cases hv;exact h),fun h=>zhw (zne1 _ _ _ _) h⟩
theorem FQ_3n {R:AV->AH->Prop}{t u w:Tmp}:FnQ L [.tmp t,.tmp u,.tmp w] R .normal T H=R (.tup [gT T t,gT T u,gT T w]) H:=propext ⟨fun ⟨_,v,hv,h⟩=>(by rw [zne1] at hv;cases hv;exact h),fun h=>zge1 (zne1 _ _ _ _) h⟩
theorem FQ_0r {R:AV->AH->Prop}:FnQ L [] R .ret T H=R (.tup []) H:=propext ⟨fun ⟨_,v,hv,h⟩=>(by rw [zfe1] at hv;cases hv;exact h),fun h=>zhw (zfe1 _) h⟩
theorem FQ_0n {R:AV->AH->Prop}:FnQ L [] R .normal T H=R (.tup []) H:=propext ⟨fun ⟨_,v,hv,h⟩=>(by rw [zfe1] at hv;cases hv;exact h),fun h=>zge1 (zfe1 _) h⟩
theorem gT_pS (T:Tr AV) (j:Nat) (v:AV) (n:Nat):gT (pS j v T) n=if n=j then v else gT T n:=zim1 T j v n
theorem zvy (v:AV) (l:List AV) (j:Nat) (T:Tr AV):zwb (v::l) j T=zwb l (j+1) (pS j v T):=by
 show zwb l (j+1) (T.set j v)=_
 congr 1
 show _=(sOf j).set v T
 rw [zny]
theorem zoe1 (n:Nat):o2 (.tmp n)=tO n:=rfl
theorem zpe1 (k:IntKind) (n:Int):o2 (.const (.int k n))= .con (.int k n):=rfl
theorem zqe1 (b:ByteArray):o2 (.const (.string b))= .con (.str b):=rfl
theorem zot (b:Bool):o2 (.const (.bool b))= .con (.bool b):=rfl
theorem zre1:o2 (.const (.pointer none))= .con .nilPtr:=rfl
theorem o2_sl:o2 (.const (.slice none 0 0))= .con .nilSl:=rfl
theorem zse1:o2 (.const (.map none))= .con .nilMap:=rfl
theorem zte1:o2 (.const .nilIface)= .con .nilIfc:=rfl
theorem o2_fn:o2 (.const .nilFunc)= .con .nilFn:=rfl
theorem zwy:AV.undef= .tup []:=rfl
end
class HN (H:AH):Prop where
 hide:H.hide= []
 lo:H.lo<=H.next
instance (H:AH) (b:ABlk) [h:HN H]:HN (H.new b):=⟨h.hide,qe5 h.lo⟩
instance (H:AH) (i:Nat) (b:ABlk) [h:HN H]:HN (H.put i b):=⟨h.hide,h.lo⟩
instance (w:Bool) (H:AH) [h:HN H]:HN (hIn w H):=⟨by cases w<;>exact h.hide,by cases w<;>first|exact h.lo|exact qn _⟩
theorem HX.hn {H H':AH}(hx:HX H H') [h:HN H]:HN H':=⟨hx.hide.trans h.hide,by rw [hx.lo];exact qx2 h.lo hx.next⟩
theorem HP.hn {p:Nat->Prop}{H H':AH}(hx:HP p H H') [h:HN H]:HN H':=⟨hx.hide.trans h.hide,by rw [hx.lo];exact qx2 h.lo hx.next⟩
theorem zmn (H:AH) (b:ABlk):(H.new b).next=H.next+1:=rfl
theorem znn (H:AH) (i:Nat) (b:ABlk):(H.put i b).next=H.next:=rfl
theorem lo_new (H:AH) (b:ABlk):(H.new b).lo=H.lo:=rfl
theorem lo_put (H:AH) (i:Nat) (b:ABlk):(H.put i b).lo=H.lo:=rfl
def hEq (i j:Nat):Prop:=i=j
instance (i j:Nat):Decidable (hEq i j):=inferInstanceAs (Decidable (i=j))
theorem hEq_t {i j:Nat}(h:i=j):hEq i j=True:=eq_true h
theorem hEq_f {i j:Nat}(h:i≠j):hEq i j=False:=eq_false h
theorem get_new (H:AH) (b:ABlk) (i:Nat) [h:HN H]:(H.new b).get i=if hEq i H.next then some b else H.get i:=by
 by_cases hi:i=H.next
 ·subst hi;rw [qi (show hEq _ _ from rfl)];exact AH.get_new h.hide b
 ·rw [qd (show ¬hEq _ _ from hi)]
  unfold AH.get;have:(H.new b).vis i=H.vis i:=by unfold AH.vis;rfl
  rw [this];show (match H.vis i with|true=>(H.tree.set H.next b).get i|false=>none)=_
  rw [Tr.get_set,qd hi];rfl
theorem get_put (H:AH) (b:ABlk) (i j:Nat) [h:HN H]:(H.put j b).get i=if hEq i j then some b else H.get i:=by
 by_cases hi:i=j
 ·subst hi;rw [qi (show hEq _ _ from rfl)];exact AH.get_put h.hide i b
 ·rw [qd (show ¬hEq _ _ from hi)]
  unfold AH.get;have:(H.put j b).vis i=H.vis i:=by unfold AH.vis;rfl
  rw [this];show (match H.vis i with|true=>(H.tree.set j b).get i|false=>none)=_
  rw [Tr.get_set,qd hi];rfl
def rdB (x:Option ABlk) (o:Nat):Option AV:=match x with|some (.cells c _ _ _ _)=>c.get o|_=>none
theorem ld1_q {i o:Nat}{H:AH}:ld1 (.ptr i o) H=rdB (H.get i) o:=by
 rw [zkp];unfold AH.read1 AH.row rdB;cases H.get i with
 |none=>rfl
 |some b=>cases b<;>first|rfl|(next c e z op ro=>show nth c.l o=c.get o;rw [zug,Ce.get_l])
theorem rdB_l {l:List AV}{e z o:Nat}{op ro:Bool}:rdB (some (.cells (.lst l) e z op ro)) o=nth l o:=rfl
theorem nth_z {α:Type}(a:α) (l:List α):nth (a::l) 0=some a:=rfl
theorem nth_s {α:Type}(a:α) (l:List α) (n:Nat):nth (a::l) (n+1)=nth l n:=rfl
def sbB (x:Option ABlk) (o n:Nat):Option AV:=match x with|some (.cells c _ _ _ _)=>(match c.sub o n with|some c'=>some c'.toV|none=>none)|_=>none
theorem ldN_q {i o n:Nat}{H:AH}:ldN n (.ptr i o) H=sbB (H.get i) o n:=by
 show orec none (fun c=>some (ceV c)) (subCF H i o n)=_
 rw [zif];unfold AH.subC sbB;cases H.get i with
 |none=>rfl
 |some b=>cases b<;>first
  |rfl
  |(next c e z op ro =>
    show orec none (fun c=>some (ceV c)) (c.sub o n)=(match c.sub o n with|some c'=>some c'.toV|none=>none)
    cases c.sub o n with
    |none=>rfl
    |some c'=>show some (ceV c')=_;rw [zxl1])
theorem sbB_l {l:List AV}{e z o n:Nat}{op ro:Bool}:sbB (some (.cells (.lst l) e z op ro)) o n=(match zej l o n with|some l'=>some (.agg l')|none=>none):=by
 show (match (match zej l o n with|some l'=>some (Ce.lst l')|none=>none) with|some c'=>some c'.toV|none=>none)=_
 cases zej l o n<;>rfl
theorem zth {l:List AV}{e z n:Nat}{op ro:Bool}(h:l.length=n):sbB (some (.cells (.lst l) e z op ro)) 0 n=some (.agg l):=by
 rw [sbB_l];have:zej l 0 n=some l:=(zbe l 0 n _).2 ⟨oM,by rw [qd3,qx oM]⟩
 rw [this]
theorem zci1 (n:Int):AV.toC (.int .i64 n)= .lst [.int .i64 n]:=rfl
theorem zdi1 (n:Int):AV.toC (.int .u64 n)= .lst [.int .u64 n]:=rfl
theorem zxy (n:Bool):AV.toC (.bool n)= .lst [.bool n]:=rfl
theorem zei1 (n:ByteArray):AV.toC (.str n)= .lst [.str n]:=rfl
theorem zfi1 (i o:Nat):AV.toC (.ptr i o)= .lst [.ptr i o]:=rfl
theorem toC_np:AV.toC .nilPtr= .lst [.nilPtr]:=rfl
theorem toC_ns:AV.toC .nilSl= .lst [.nilSl]:=rfl
theorem toC_sl (i o n c:Nat) (op:Bool):AV.toC (.sl i o n c op)= .lst [.sl i o n c op]:=rfl
theorem zgi1 (i:Nat):AV.toC (.map i)= .lst [.map i]:=rfl
theorem toC_fn (f:Fn) (a c:List AV):AV.toC (.fn f a c)= .lst [.fn f a c]:=rfl
theorem zhi1:AV.toC .nilFn= .lst [.nilFn]:=rfl
theorem toC_aI (n:Int) (l:List AV):AV.toC (.agg (.int .i64 n::l))= .lst (.int .i64 n::l):=rfl
theorem toC_aS (n:ByteArray) (l:List AV):AV.toC (.agg (.str n::l))= .lst (.str n::l):=rfl
abbrev rq:=qa @ev_tO (qa @zbe1 (qa @gT_pS (qa @zce1 (qa @zvy (qa @zde1 (qa @zkn (qa @zts (qa @zus (qa @zvs (qa @hIn_f (qa @zil (qa @zws (qa @zxs (qa @zys (qa @zgt (qa @zft (qa @zzs (qa @zat (qa @zbt (qa @zct (qa @zdt (qa @zet (qa @fw64 (qa @zhe1 (qa @zht (qa @zit (qa @exN0 (qa @exN1 (qa @exN2 (qa @zln (qa @zie1 (qa @min2 (qa @max2 (qa @qc2 (qa @qy1 (qa @qs3 (qa @qx4 (qa @ziw (qa @qk (qa @qq (qa @qj5 (qa @qn5 (qa @znt (qa @zke1 (qa @RK_m (qa @RK_sk (qa @RK_p (qa @RK_fa (qa @RK_ex (qa @RK_nt (qa @RK_nl (qa @RK_nz (qa @RK_q (qa @RK_ix (qa @RK_b (qa @RK_l (qa @RK_lN (qa @RK_n (qa @RK_le (qa @RK_pk (qa @RK_bu (qa @RK_al (qa @RK_bx (qa @RK_a (qa @RK_h1 (qa @RK_hn (qa @RK_hz (qa @RK_s1 (qa @RK_sN (qa @RK_cl (qa @RK_cz (qa @RK_cf (qa @RK_cy (qa @cF_in (qa @cY_in (qa @zpg (qa @RK_o (qa @RK_oz (qa @gR_t (qa @gR_tf (qa @gR_ft (qa @gR_u (qa @gZ_t (qa @gZ_tf (qa @gZ_ft (qa @gZ_u (qa @zth1 (qa @zuh1 (qa @zvh1 (qa @zwh1 (qa @zxh1 (qa @zyh1 (qa @zzh1 (qa @RC_reg (qa @RC_seq (qa @RC_blk (qa @RC_scp (qa @zai1 (qa @RC_ret (qa @RN_nil (qa @RN_sn (qa @RN_se (qa @RN_sr (qa @RN_bn (qa @RN_br (qa @RN_be (qa @RN_pn (qa @RN_pe (qa @RN_pr (qa @zbi1 (qa @bR_t (qa @bR_f (qa @LpR_n (qa @LpR_e (qa @LpR_r (qa @zoe1 (qa @zpe1 (qa @zqe1 (qa @zot (qa @zre1 (qa @o2_sl (qa @zse1 (qa @zte1 (qa @o2_fn (qa @zwy (qa @zmn (qa @znn (qa @get_new (qa @get_put (qa @hEq_t (qa @hEq_f (qa @ld1_q (qa @rdB_l (qa @nth_z (qa @nth_s (qa @ldN_q (qa @zth (qa @zci1 (qa @zdi1 (qa @zxy (qa @zei1 (qa @zfi1 (qa @toC_np (qa @toC_ns (qa @toC_sl (qa @zgi1 (qa @toC_fn (qa @zhi1 (qa @toC_aI (qa @toC_aS (qa @FQ_1r (qa @FQ_1n (qa @FQ_2r (qa @FQ_2n (qa @FQ_3r (qa @FQ_3n (qa @FQ_0r (@FQ_0n))))))))))))))))))))))))))))))))))))))))))))))))))))))))))))))))))))))))))))))))))))))))))))))))))))))))))))))))))))))))))))))))))))))))))))))))))))))))))))))
abbrev nx:=qa zmn (qa znn (qa lo_new lo_put))
theorem zlp (s:ByteArray):strEq s s=true:=by rw [zdq,beq_toListBytes];exact beq_self_eq_true _
mutual
theorem zyy:∀v:AV,eqV v v=true
 | .bool a=>by cases a<;>rfl
 | .int k n=>by unfold eqV;simp
 | .str s=>by unfold eqV;exact zlp s
 | .nilPtr=>by unfold eqV;rfl
 | .ptr j o=>by unfold eqV;simp
 | .nilSl=>by unfold eqV;rfl
 | .sl j o l n op=>by unfold eqV;simp
 | .nilMap=>by unfold eqV;rfl
 | .map j=>by unfold eqV;simp
 | .fn f a b=>by unfold eqV;simp [zni a,zni b]
 | .yld j=>by unfold eqV;simp
 | .nilFn=>by unfold eqV;rfl
 | .ifc t v=>by unfold eqV;simp [zyy v]
 | .nilIfc=>by unfold eqV;rfl
 | .agg cs=>by unfold eqV;exact zni cs
 | .tup cs=>by unfold eqV;exact zni cs
 | .bag n N=>by unfold eqV;simp
 | .ext k i o=>by unfold eqV;simp
theorem zni:∀l:List AV,eqL l l=true
 | []=>by unfold eqL;rfl
 |a::l=>by unfold eqL;simp [zyy a,zni l]
end
theorem zom1 (c:Ce):eqC c c=true:=by cases c<;>simp [eqC,zni]
theorem zzy {H H':AH}{i e z:Nat}{ro op:Bool}{l:List AV}(h:Row H i ro op e z l) (h':H'.get i=H.get i):sameO (H.get i) (H'.get i)=true:=by
 obtain ⟨c,hg,_⟩:=h;rw [h',hg];simp [sameO,eqB,zom1]
theorem zzl {H H':AH}{i e z:Nat}{ro op:Bool}{l:List AV}{js:List Nat}(h:Row H i ro op e z l) (h':H'.get i=H.get i) (hs:zsg H H' js=true):zsg H H' (i::js)=true:=by
 show (sameO (H.get i) (H'.get i) && zsg H H' js)=true
 rw [zzy h h',hs];rfl
noncomputable section
def planAt (L:Lk) (c:Code) (r:Nat):List Ent:=match nth (regsC c) r with|some ops=>(match plan L ops with|some pl=>pl|none=> [])|none=> []
def zpm1 (i:Nat):List Ent->List Ent->Ent×List Ent
 | [],pre=>((0,0,default),pre)
 |x::l,pre=>match Nat.beq x.1 i with|true=>(x,pre)|false=>zpm1 i l (x::pre)
def gwX (L:Lk) (c:Code) (r i:Nat):Ent:=(zpm1 i (planAt L c r) []).1
def gwP (L:Lk) (c:Code) (r i:Nat):List Ent:=(zpm1 i (planAt L c r) []).2
end
section
variable {L:Lk}{s:List Kf}{T:Tr AV}{H H':AH}{Q:PostC}{k:K2}{d:Option S2}
theorem zaz {n:Nat}{v:AV}(h:gT T n=v) (hv:v≠ .undef):T.get n=some v:=by
 unfold gT at h;cases hg:T.get n with
 |none=>rw [hg] at h;exact absurd h.symm hv
 |some x=>rw [hg] at h;exact qu4 some h
theorem zeb:ptrsT T []=some []:=rfl
theorem zka {n i o:Nat}{ks:List S2}{js:List Nat}(h:gT T n= .ptr i o) (hs:ptrsT T ks=some js):ptrsT T (sOf n::ks)=some (i::js):=by
 show (match (sOf n).get T with|some (.ptr i _)=>(match ptrsT T ks with|some js=>some (i::js)|none=>none)|_=>none)=_
 rw [zvl,zaz h (by intro h;cases h),hs]
theorem zon {x:Ent}{j:Nat}:∀(pre:List Ent) (ds:List Nat){ks:List S2}{js:List Nat},zoh x L pre ds=some ks->ptrsT T ks=some js->(∀i∈js,i≠j)->zbl L x j T pre ds=true
 | [],ds,ks,js,_,_,_=>rfl
 |y::pre,ds,ks,js,hr,hp,hj=>by
  unfold zoh at hr;rw [zta] at hr;have hr:(match zyc L y.2.2 && !Nat.testBit x.2.1 y.1 with
   |false=>zoh x L pre (match y.2.2.dst with|some d=>d::ds|none=>ds)
   |true=>(match y.2.2.op with
    | .load _ (.tmp k)=>(match has (match y.2.2.dst with|some d=>d::ds|none=>ds) k with
     |true=>none
     |false=>(match zoh x L pre (match y.2.2.dst with|some d=>d::ds|none=>ds) with|some ks=>some (sOf k::ks)|none=>none))
    |_=>none))=some ks:=hr
  show (match zyc L y.2.2 && !Nat.testBit x.2.1 y.1 && !gdOff T (match y.2.2.dst with|some d=>d::ds|none=>ds) y.2.2 pre with
   |false=>zbl L x j T pre (match y.2.2.dst with|some d=>d::ds|none=>ds)
   |true=>(match rdBlk T (match y.2.2.dst with|some d=>d::ds|none=>ds) y.2.2.op with
    |some i=>(match Nat.beq i j with|true=>false|false=>zbl L x j T pre (match y.2.2.dst with|some d=>d::ds|none=>ds))
    |none=>false))=true
  cases h1:zyc L y.2.2 && !Nat.testBit x.2.1 y.1 with
  |false =>
   rw [h1] at hr;simp only [qi3];exact zon pre _ hr hp hj
  |true =>
   rw [h1] at hr;simp only at hr;split at hr
   ·next t n hop =>
    split at hr
    ·cases hr
    ·next hh =>
     cases hrr:zoh x L pre (match y.2.2.dst with|some d=>d::ds|none=>ds) with
     |none=>rw [hrr] at hr;cases hr
     |some ks' =>
      rw [hrr] at hr;cases hr;have hp':(match (sOf n).get T with|some (.ptr i _)=>(match ptrsT T ks' with|some js=>some (i::js)|none=>none)|_=>none)=some js:=hp
      rw [zvl] at hp';split at hp'
      ·next i o hg =>
       cases hpp:ptrsT T ks' with
       |none=>rw [hpp] at hp';cases hp'
       |some js' =>
        rw [hpp] at hp';cases hp';have ih:=zon pre _ hrr hpp fun a ha=>hj a (qj1 _ ha)
        have hij:Nat.beq i j=false:=by
         cases hb:Nat.beq i j with
         |false=>rfl
         |true=>exact absurd (qf hb) (hj i qq1)
        have hrd:rdBlk T (match y.2.2.dst with|some d=>d::ds|none=>ds) y.2.2.op=some i:=by
         unfold rdBlk;rw [hop];simp only [hh,hg]
        rw [hrd];simp only [hij,ih];cases (true && !gdOff T (match y.2.2.dst with|some d=>d::ds|none=>ds) y.2.2 pre)<;>rfl
      ·cases hp'
   ·cases hr
theorem rk_gw {x:Ent}{pre:List Ent}{v:AV}(hf:far L T x pre=true) (ho:∀rec,zwa L rec T x.2.2 H=some (v,H')) (h:RK L k s (putS d v T) H' Q):RK L (.gw x pre d k) s T H Q:=by
 refine ⟨?_⟩;show Comes Q (fun rec=>brec
  (orec none (fun r=>Prod.rec (motive:=fun _=>Option Out) (fun v H'=>runK' k L rec (kOf L rec s .normal) (putS d v T) H') r) (zfd L rec T x pre H))
  (orec none (fun r=>Prod.rec (motive:=fun _=>Option Out) (fun v H'=>runK' k L rec (kOf L rec s .normal) (putS d v T) H') r) (zwa L rec T x.2.2 H)) (far L T x pre)) L
 rw [hf];simp only [ho,zhm];exact h.h
theorem rk_gww {x:Ent}{pre:List Ent}{v:AV}{js:List Nat}(hf:far L T x pre=false) (hc:zrf x.2.2=true) (hr:zee x L T pre []=some js) (hs:zsg H H' js=true) (ho:∀rec,zwa L rec T x.2.2 H=some (v,H')) (h:RK L k s (putS d v T) H' Q):RK L (.gw x pre d k) s T H Q:=by
 refine ⟨?_⟩;have hw:∀rec,zfd L rec T x pre H=some (v,H'):=fun rec=>by
  unfold zfd;rw [hc,hr];simp only [ho,hs]
 show Comes Q (fun rec=>brec
  (orec none (fun r=>Prod.rec (motive:=fun _=>Option Out) (fun v H'=>runK' k L rec (kOf L rec s .normal) (putS d v T) H') r) (zfd L rec T x pre H))
  (orec none (fun r=>Prod.rec (motive:=fun _=>Option Out) (fun v H'=>runK' k L rec (kOf L rec s .normal) (putS d v T) H') r) (zwa L rec T x.2.2 H)) (far L T x pre)) L
 rw [hf];simp only [hw,zcc1];exact h.h
theorem rk_gst {x:Ent}{pre:List Ent}{t a b:Nat}{i o:Nat}{u:AV}{ks:List S2}{js:List Nat}(hx:x.2.2.op= .store t (.tmp a) (.tmp b)) (hr:zoh x L pre []=some ks) (hp:ptrsT T ks=some js) (ha:gT T a= .ptr i o) (hb:gT T b=u) (hu:u≠ .undef) (hj:∀n∈js,n≠i)
  (hs:zed L t (.ptr i o) u H=some H') (h:RK L k s (putS d .undef T) H' Q):RK L (.gw x pre d k) s T H Q:=by
 have ga:=zaz ha (by intro h;cases h)
 have gb:=zaz hb hu;refine rk_gw (v:=.undef) ?_ (fun rec=> ?_) h
 ·unfold far
  rw [hx];simp only [ga];exact zon pre [] hr hp hj
 ·unfold zwa evOp
  rw [hx];simp only [opnd,ga,gb,hs];rfl
theorem rk_gap {x:Ent}{pre:List Ent}{c:Call}{t t' e a b:Nat}{ts:List Nat}{sv xv v:AV}{ks:List S2}{js:List Nat}(hx:x.2.2.op= .call c) (hc:c.callee= .builtin .append) (hcs:c.args.toList= [.tmp a,.tmp b]) (hct:c.argTypes.toList=t::t'::ts) (ht':L.under t'=some (.slice e)) (hr:zoh x L pre []=some ks) (hp:ptrsT T ks=some js) (ha:gT T a=sv) (hb:gT T b=xv) (hsv:sv≠ .undef) (hxv:xv≠ .undef)
  (hs:zxc L t sv xv H=some (v,H')) (hsm:zsg H H' js=true) (h:RK L k s (putS d v T) H' Q):RK L (.gw x pre d k) s T H Q:=by
 have ga:=zaz ha hsv;have gb:=zaz hb hxv;refine rk_gww (v:=v) ?_ ?_ ?_ hsm (fun rec=> ?_) h
 ·unfold far
  rw [hx]
 ·unfold zrf
  rw [hx];simp only [hc]
 ·rw [zms,hr];exact hp
 ·unfold zwa evOp
  rw [hx];simp only [hcs,hc,hct,opnds,zmd,zli,opnd,ga,gb,obind];unfold zqb;simp only [ht',hs];rfl
theorem zeg {t n i o:Nat}(h:L.isAgg t=some true) (hs:L.size t=some n):zub L t (.ptr i o) H=ldN n (.ptr i o) H:=(ldN_eq h hs (.ptr i o) H).symm
end
def wrN (x:Option ABlk) (i o n:Nat) (c:Ce) (H:AH):Option AH:=match x with
 |some (.cells c0 e z op false)=>(match c.one with
  |true=>(match Nat.beq c.len n,Ce.over c c0 o with|true,some c'=>some (H.put i (.cells c' e z op false))|_,_=>none)
  |false=>none)
 |_=>none
theorem stN_q {i o n:Nat}{v:AV}{H:AH}(hlo:H.lo<=i):stN n (.ptr i o) v H=wrN (H.get i) i o n v.toC H:=by
 show brec none (zpe H i o v.toC) (Nat.beq v.toC.len n)=_
 rw [zad];unfold AH.writeC wrN;rw [show Nat.ble H.lo i=true from qe hlo]
 cases H.get i with
 |none=>cases Nat.beq v.toC.len n<;>rfl
 |some b =>
  cases b with
  |cells c0 e z op ro =>
   cases ro with
   |true=>cases Nat.beq v.toC.len n<;>rfl
   |false =>
    simp only;cases v.toC.one with
    |false=>cases Nat.beq v.toC.len n<;>rfl
    |true =>
     cases Nat.beq v.toC.len n<;>cases Ce.over v.toC c0 o<;>rfl
  |_=>cases Nat.beq v.toC.len n<;>rfl
theorem wrN_p {l lv:List AV}{e z i o n:Nat}{op:Bool}{H:AH}(h1:lv.length=n) (h2:lv.all AV.oneCell=true) (h0:o+n<=l.length):wrN (some (.cells (.lst l) e z op false)) i o n (.lst lv) H=some (H.put i (.cells (.lst (l.take o ++ lv ++ l.drop (o+n))) e z op false)):=by
 unfold wrN;simp only;rw [show (Ce.lst lv).one=true from h2]
 have h3:Nat.beq (Ce.lst lv).len n=true:=by rw [Ce.len_l];show Nat.beq lv.length n=true;rw [h1];exact qt2 n
 rw [h3];have:Ce.over (.lst lv) (.lst l) o=some (.lst (l.take o ++ lv ++ l.drop (o+n))):=by
  show (match zod lv l o with|some l'=>some (Ce.lst l')|none=>none)=_
  rw [(zcc lv l o _).2 ⟨oM,rfl⟩,h1]
 rw [this]
theorem wrN_l {l lv:List AV}{e z i n:Nat}{op:Bool}{H:AH}(h0:l.length=n) (h1:lv.length=n) (h2:lv.all AV.oneCell=true):wrN (some (.cells (.lst l) e z op false)) i 0 n (.lst lv) H=some (H.put i (.cells (.lst lv) e z op false)):=by
 rw [wrN_p h1 h2 oM,qo5,qm1,qq5 oM,qw1]
def wr1 (x:Option ABlk) (i o:Nat) (v:AV) (H:AH):Option AH:=match x with
 |some (.cells c e z op ro)=>(match ro,Ce.over (.lst [v]) c o with|false,some c'=>some (H.put i (.cells c' e z op false))|_,_=>none)
 |_=>none
theorem st1_w {L:Lk}{t i o:Nat}{v:AV}{H:AH}(hs:L.size t=some 1) (hv:v.oneCell=true) (hv2:v.toC= .lst [v]) (hlo:H.lo<=i):st1 L t (.ptr i o) v H=wr1 (H.get i) i o v H:=by
 rw [zyl1 hs];unfold zed;rw [hs];simp only;rw [show Nat.beq v.toC.len 1=true from by rw [hv2];rfl]
 simp only;unfold AH.writeC wr1;rw [show Nat.ble H.lo i=true from qe hlo]
 cases H.get i with
 |none=>rfl
 |some b =>
  cases b with
  |cells c0 e z op ro =>
   simp only [zqh1 hv];cases ro with
   |true=>rfl
   |false=>rw [hv2];cases Ce.over (.lst [v]) c0 o<;>rfl
  |_=>rfl
theorem wr1_l {l:List AV}{e z i o:Nat}{op:Bool}{v:AV}{H:AH}(ho:o<l.length):wr1 (some (.cells (.lst l) e z op false)) i o v H=some (H.put i (.cells (.lst (l.set o v)) e z op false)):=by
 have h2:Ce.over (.lst [v]) (.lst l) o=some (.lst (l.set o v)):=by
  show (match zod [v] l o with|some l'=>some (Ce.lst l')|none=>none)=_
  have:zod [v] l o=some (l.set o v):=(zcc _ _ _ _).2 ⟨by show o+1<=l.length;omega,by rw [qr4,qi ho];simp⟩
  rw [this]
 unfold wr1;simp only [h2]
def lsR (x:Option AV) (L:Lk) (o:Oper) (d:Nat) (k:K2) (s:List Kf) (T:Tr AV) (H:AH) (Q:PostC):Prop:=RK L (ls_ (fun _ _=>x) [] o d k) s T H Q
theorem zpk {L:Lk}{f:List AV->AH->Option AV}{xs:List O2}{o:Oper}{d:Nat}{k:K2}{s:List Kf}{T:Tr AV}{H:AH}{Q:PostC}:RK L (ls_ f xs o d k) s T H Q=lsR (f (evs xs T) H) L o d k s T H Q:=zmi qe7
theorem lsR_s {L:Lk}{v:AV}{o:Oper}{d:Nat}{k:K2}{s:List Kf}{T:Tr AV}{H:AH}{Q:PostC}:lsR (some v) L o d k s T H Q=RK L k s (pS d v T) H Q:=RK_ls rfl
def cellR (x:Option AV) (P:AV->Prop):Prop:= ∃v,x=some v/\P v
theorem zii1 {v:AV}{P:AV->Prop}:cellR (some v) P=P v:=propext ⟨fun ⟨_,h,hp⟩=>(by cases h;exact hp),fun h=>⟨v,rfl,h⟩⟩
theorem zji1 (L:Lk) (a t:Nat) (T:Tr AV) (H:AH):resV L [.cell a t] T H=zub L t (gT T a) H:=by
 have:znb L T H [.cell a t]=obind (match T.get a with|some v=>zub L t v H|none=>none) (fun b=>obind (some []) fun bs=>some (b::bs)):=rfl
 unfold resV gT;rw [this];cases T.get a with
 |none=>rfl
 |some v =>
  simp only;show _=zub L t v H
  cases zub L t v H<;>rfl
theorem zki1 (L:Lk) (a t u:Nat) (T:Tr AV) (H:AH):resV L [.cell a t,.tmp u] T H=(match zub L t (gT T a) H with|some v=>some (.tup [v,gT T u])|none=>none):=by
 have:znb L T H [.cell a t,.tmp u]=obind (match T.get a with|some v=>zub L t v H|none=>none) (fun b=>obind (obind (match T.get u with|some v=>some v|none=>some AV.undef) (fun b=>obind (some []) fun bs=>some (b::bs))) fun bs=>some (b::bs)):=rfl
 unfold resV gT;rw [this];cases T.get a with
 |none=>rfl
 |some v =>
  simp only;show _=(match zub L t v H with|some v=>some (AV.tup [v,dflt (T.get u)])|none=>none)
  cases zub L t v H with
  |none=>rfl
  |some x=>cases T.get u<;>rfl
theorem FQ_1cr {L:Lk}{T:Tr AV}{H:AH}{R:AV->AH->Prop}{a t:Nat}:FnQ L [.cell a t] R .ret T H=cellR (zub L t (gT T a) H) fun v=>R v H:=by
 unfold FnQ;rw [zji1];exact propext ⟨fun h=>h.2,fun h=>⟨.inr rfl,h⟩⟩
theorem FQ_1cn {L:Lk}{T:Tr AV}{H:AH}{R:AV->AH->Prop}{a t:Nat}:FnQ L [.cell a t] R .normal T H=cellR (zub L t (gT T a) H) fun v=>R v H:=by
 unfold FnQ;rw [zji1];exact propext ⟨fun h=>h.2,fun h=>⟨.inl rfl,h⟩⟩
theorem FQ_2cr {L:Lk}{T:Tr AV}{H:AH}{R:AV->AH->Prop}{a t u:Nat}:FnQ L [.cell a t,.tmp u] R .ret T H=cellR (zub L t (gT T a) H) fun v=>R (.tup [v,gT T u]) H:=by
 unfold FnQ cellR;rw [zki1];cases zub L t (gT T a) H with
 |none=>exact propext ⟨fun ⟨_,v,h,_⟩=>(by cases h),fun ⟨v,h,_⟩=>(by cases h)⟩
 |some x=>exact propext ⟨fun ⟨_,v,h,hr⟩=>(by cases h;exact ⟨x,rfl,hr⟩),fun ⟨v,h,hr⟩=>(by cases h;exact ⟨.inr rfl,_,rfl,hr⟩)⟩
theorem FQ_2cn {L:Lk}{T:Tr AV}{H:AH}{R:AV->AH->Prop}{a t u:Nat}:FnQ L [.cell a t,.tmp u] R .normal T H=cellR (zub L t (gT T a) H) fun v=>R (.tup [v,gT T u]) H:=by
 unfold FnQ cellR;rw [zki1];cases zub L t (gT T a) H with
 |none=>exact propext ⟨fun ⟨_,v,h,_⟩=>(by cases h),fun ⟨v,h,_⟩=>(by cases h)⟩
 |some x=>exact propext ⟨fun ⟨_,v,h,hr⟩=>(by cases h;exact ⟨x,rfl,hr⟩),fun ⟨v,h,hr⟩=>(by cases h;exact ⟨.inl rfl,_,rfl,hr⟩)⟩
theorem set_s {x a:AV}{xs:List AV}{i:Nat}:(x::xs).set (i+1) a=x::xs.set i a:=rfl
theorem set_z {x a:AV}{xs:List AV}:(x::xs).set 0 a=a::xs:=rfl
abbrev rq2:=qa @stN_q (qa @wrN_l (qa @wr1_l (qa @zpk (qa @lsR_s (qa @set_s (qa @set_z (qa @zii1 (qa @FQ_1cr (qa @FQ_1cn (qa @FQ_2cr @FQ_2cn))))))))))
theorem cR_f {L:Lk}{f:Nat}{args:List AV}{R:AV->AH->Prop}{H:AH}{d:Nat}{k:K2}{s:List Kf}{T:Tr AV}{Q:PostC}(hc:FnE L f args H R) (h:∀v H',R v H'->RK L k s (pS d v T) H' Q):cR false L f args H d k s T Q:=cR_m (w:=false) hc h
theorem zaa {H:AH}(b:ABlk) [h:HN H]:(H.new b).get H.next=some b:=AH.get_new h.hide b
theorem zia {H:AH}(i:Nat) (b:ABlk) [h:HN H]:(H.put i b).get i=some b:=AH.get_put h.hide i b
theorem zah {H:AH}(b:ABlk){i:Nat}[h:HN H](hi:i≠H.next):(H.new b).get i=H.get i:=by rw [get_new,qd (show ¬hEq _ _ from hi)]
theorem zyb {H:AH}(b:ABlk){i j:Nat}[h:HN H](hi:i≠j):(H.put j b).get i=H.get i:=by rw [get_put,qd (show ¬hEq _ _ from hi)]
theorem cR_at {L:Lk}{f:Nat}{args:List AV}{H:AH}{d:Nat}{k:K2}{s:List Kf}{T:Tr AV}{Q:PostC}(P:AH->Prop) (hp:P H) (hk:∀H,P H->cR false L f args H d k s T Q):cR false L f args H d k s T Q:=hk H hp
theorem rc_at {L:Lk}{c:C2}{H:AH}{s:List Kf}{T:Tr AV}{Q:PostC}(P:AH->Prop) (hp:P H) (hk:∀H,P H->RC L c s T H Q):RC L c s T H Q:=hk H hp
theorem rk_at {L:Lk}{k:K2}{H:AH}{s:List Kf}{T:Tr AV}{Q:PostC}(P:AH->Prop) (hp:P H) (hk:∀H,P H->RK L k s T H Q):RK L k s T H Q:=hk H hp
theorem HX.putN {H H':AH}(h:HX H H') [hn:HN H'](b b':ABlk):HX H ((H'.new b).put H'.next b'):=HX.put (h.trans (HX.new _ _)) h.next b'
end Go.Ev
end
