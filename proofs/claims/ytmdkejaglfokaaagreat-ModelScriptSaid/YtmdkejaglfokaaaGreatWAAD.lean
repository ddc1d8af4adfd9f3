import Derived.Test.YtmdkejaglfokaaaGreatWAAC
import Derived.RangeFuncNested
import Derived.RowKit3
import Derived.Test.YtmdkejaglfokaaaGreatWAAA
noncomputable section
set_option maxHeartbeats 8000000
set_option linter.unusedSimpArgs false
set_option linter.unusedVariables false
namespace Go.Ev
section
variable {L:Lk}{P:Program}{B:Nat}{rec:Rec}{F:Fence}
theorem St.junk {E:Env}{H:AH}{w:World}(h:St B E H w) (o:Obj):St B E H (wNew w o):=by
 intro E' hE;have k:=h E' hE;exact ⟨fun i b hg=>(k.blk i b hg).congr fun hl=>zxi ((k.blk i b hg).obj hl),k.inj,k.base,by rw [zjg];exact qe5 k.size⟩
theorem Post.junk (E:Env) (H:AH) (w:World) (o:Obj) (hz:∀off,objFz o off=false:=by intro off;simp [objFz]):Post E H w E H (wNew w o) :=
 ⟨Agree.refl _ _,qn _,rfl,rfl,rfl,rfl,rfl,by rw [zjg];omega,fun c hc _=>zxi hc,fun _ h=>.inl h,fun _ _=>rfl,fun c r h=>⟨r,(zxi (qq2.1 h).1).trans h⟩,fun h=>⟨h,zwr hz⟩,fun _ h=>.inl h,qn _⟩
theorem St.not_own {E:Env}{H:AH}{w:World}(h:St B E H w){c:Nat}{x:Option (List Deferred)}(hc:w.heap[c]? =some (.deferred x)):¬Own E H c:=by
 rintro ⟨i,b,hg,hb,_,he⟩;have hr:=h.self.blk i b hg;cases b with
 |cells vs e z op ro=>obtain ⟨cs,e,fz,h1,_⟩:=hr;rw [he,hc] at h1;cases h1
 |map es c=>simp only [BRel] at hr;rw [he,hc] at hr;cases hr
 |loop st p T n ps a b=>obtain ⟨r',h1,_⟩:=hr;rw [he,hc] at h1;cases h1
 |miter m s n l=>have hr:=hr.2;rw [he,hc] at hr;cases hr
 |chan c b=>obtain ⟨s,r,h1⟩:=hr;rw [he,hc] at h1;cases h1
 |glob g v=>cases hb
 |defd=>cases hb
theorem znl1 {N:ND}{E:Env}{T:Tr AV}{H:AH}{w:World}{a:Act}(hA:Ahead B F N E T H w a) (ps:Array Tmp) (assign body:Code) :
  ∃(mk:List Nat) (w0:World) (D:Nat),(∀fn,(Instr.enterLoop fn a.tmps ps assign body F.round).run P w= .ok (w0.heap.size,mk.map mark) (wNew w0 (.loop {state:=.ready,pending:=none,fn,tmps:=a.tmps,params:=ps,assign,body,defers:=D}))) /\
   St B E H w0/\Post E H w E H w0/\(mk= []\/(mk= [w.heap.size]/\w0.heap[w.heap.size]? =some (.deferred (some [])))):=by
 cases hro:F.round with
 |none =>
  refine ⟨[w.heap.size],wNew w (.deferred (some [])),w.heap.size,fun fn=> ?_,hA.st.junk _,Post.junk _ _ _ _,.inr ⟨rfl,zkg⟩⟩
  rw [run_enterLoop_outer,zjg];rfl
 |some l0 =>
  obtain ⟨r,hr⟩:=hA.rnd l0 hro;refine ⟨[],w,r.defers,fun fn=> ?_,hA.st,Post.refl _ _ _,.inl rfl⟩
  rw [run_enterLoop_inner hr];rfl
theorem zbn {α β:Type}{r:Result α}{f:α->World->Result β}{b:β}{w':World}(h:r.andThen f= .ok b w'):∃x w1,r= .ok x w1/\f x w1= .ok b w':=by
 cases r with
 |ok x w1=>exact ⟨x,w1,rfl,h⟩
 |halt x w1=>cases h
theorem zol1 (hL:LOk L P){m:Nat}(hr:CodeRec P B m rec) (hF:Open F){g:AV}{ps:Array Tmp}{assign body:Code}{T:Tr AV}{H:AH}{f:FuncId}{args:List AV}{fn:Func}{c:Code}{o out:Out}
  (hcf:zec g [.yld H.next]=some (.enter f args)) (hf:L.func f=some fn) (hb:fn.body=some c) (hcall:rec (.call f args (H.new (.loop .ready none T 0 ps.toList assign body)))=some o) (hlo:o.H.lo<=H.next)
  {st:LoopState}{pend:Option Code}{T5:Tr AV}{n5:Nat}{ps5:List Tmp}{as5 bd5:Code}(hgl:o.H.get H.next=some (.loop st pend T5 n5 ps5 as5 bd5)) (hst:st≠ .busy)
  (hout:(pend=none/\out=⟨.normal,T,o.H.put H.next .defd⟩)\/(∃id,pend=some (.exit id)/\out=⟨.exit id,T,o.H.put H.next .defd⟩)\/(pend=some .ret/\out=⟨.ret,T,o.H.put H.next .defd⟩))
  {N:ND}{n:Nat}(hps:∀d∈ps.toList,d<n) (hwa:wfC n assign=true) (hwb:wfC n body=true){x:Operand}{E:Env}{w:World}{a:Act}(hA:Ahead B F N E T H w a) (hn:n<=a.tmps.size) (hx:StV E H.next g (a.eval x))
  {Q:Exit->Act->World->Prop}(hQ:∀e a1 w1,Behind B N E H w a out e a1 w1->Q e a1 w1):(Code.rangeFunc x ps assign body).wpIn F 0 P Q a w:=by
 obtain ⟨mk,w0,D,hent,hS0,hP0,hmk⟩:=znl1 (P:=P) hA ps assign body;refine wpIn_rangeFunc fun fnid hfn=> ?_
 obtain ⟨rc,hrc⟩:∃rc:Loop,rc= {state:=.ready,pending:=none,fn:=fnid,tmps:=a.tmps,params:=ps,assign,body,defers:=D}:=⟨_,rfl⟩
 have hent:=hent fnid;rw [← hrc] at hent;obtain ⟨n1,n2,n3⟩:=zyu hA.wf hS0 (.loop .ready none T 0 ps.toList assign body) (.loop rc) 0 (fun E' hE he=>by
  refine ⟨rc,?_,by rw [hrc],by rw [hrc],?_,by rw [hrc],by rw [hrc],by rw [hrc],n,?_,hwa,hwb,hps⟩
  ·rw [he];exact zkg
  ·rw [hrc];exact hA.tmps E' hE
  ·rw [hrc];exact hn)
 have hadd:E.add H.next ⟨w0.heap.size,0,0⟩ H.next=⟨w0.heap.size,0,0⟩:=Env.add_self _ _ _;have hus0:StL (E.add H.next ⟨w0.heap.size,0,0⟩) (H.new (.loop .ready none T 0 ps.toList assign body)).next [.yld H.next] [.func (.yield w0.heap.size) #[] #[]]:=fun E' hE=>by
  have:E' H.next=⟨w0.heap.size,0,0⟩:=(hE H.next (qd1 _)).trans hadd;simp [concL,conc,this]
 have how:=zsl (P:=P) (B:=B) (w:=wNew w0 (.loop rc)) n3 (hx.up n2.ext n2.next) hus0 hcf;obtain ⟨us,hus,hrun⟩:=how;rw [zhf hL hf hb,qj] at hrun;obtain ⟨d,w1',hd1,hd2⟩:=zbn hrun;have hcl:=hr.call f args _ o hcall _ _ us n3 n1 hus;unfold CallOk at hcl;rw [zhf hL hf hb] at hcl;refine ⟨w0.heap.size,mk.map mark,wNew w0 (.loop rc),d,w1',f,us.toArray,wNew w0 (.loop rc),hent,?_,fun f' _=>hF.1 f',hd2,zlh hF 0,?_⟩
 ·have:(resolve a.eval (rangeCall x w0.heap.size) 0)=Deferred.ofValue (a.eval x) [Value.func (.yield w0.heap.size) #[] #[]].toArray:=by
   simp [resolve,rangeCall,Act.eval]
  rw [this];exact hd1
 refine (zgk zgf hF hcl).mono fun e w3 ⟨u,he,E3,_,q1,q2,q3⟩=> ?_
 subst he;have hE3:E3 H.next=⟨w0.heap.size,0,0⟩:=(q2.ext H.next (qd1 _)).trans hadd;obtain ⟨r3,p1,p2,p3,_⟩:=q1.self.loopOf hgl;obtain ⟨z1,z2,z3⟩:=zmm q3 q1 hgl rfl hlo .defd (.loop {r3 with state:=.exhausted}) (fun _ _=>⟨_,rfl⟩) (fun x off hx=>by rw [p1] at hx;cases hx;rfl) (fun _ _=>trivial)
 have hbe:∀e',ExR out.ex e'->out.T=T->out.H=o.H.put H.next .defd->Behind B N E H w a out e' {a with defers:=mk.map mark ++ a.defers} (w3.putObj (E3 H.next).blk (.loop {r3 with state:=.exhausted})):=by
  intro e' hex hT hH;have hpost:Post E H w E3 (o.H.put H.next .defd) (w3.putObj (E3 H.next).blk (.loop {r3 with state:=.exhausted})):=((hP0.trans n2).trans q2).trans z2
  refine ⟨⟨E3,by rw [hH];exact z1,?_,by rw [hH];exact hpost,?_⟩,by rw [hH];exact z3,hex,rfl⟩
  ·rw [hT,hH];exact hA.tmps.up hpost.ext hpost.next
  ·rw [hH]
   obtain ⟨e1,e2,e3⟩:=hA.defs;have hlt:∀r∈zsf a.defers,r<w.heap.size:=fun r hr=>(e3 r hr).2.1
   obtain ⟨e1',e2',e3'⟩:=hA.defs.post hpost;refine ⟨by rw [zbp];exact e1',?_,?_⟩
   ·rw [zyi]
    rcases hmk with rfl|⟨rfl,hdf⟩
    ·exact e2'
    ·rw [qg5,qh4]
     exact ⟨fun hm=>qv5 _ (hlt _ hm),e2'⟩
   ·rw [zyi]
    rcases hmk with rfl|⟨rfl,hdf⟩
    ·exact e3'
    ·have hd0:(wNew w0 (.loop rc)).heap[w.heap.size]? =some (.deferred (some [])):=(zxi (qq2.1 hdf).1).trans hdf
     have hd3:(w3.putObj (E3 H.next).blk (.loop {r3 with state:=.exhausted})).heap[w.heap.size]? =some (.deferred (some [])):=((q2.trans z2).frame _ (qq2.1 hd0).1 (n1.not_own hd0)).trans hd0
     intro r hr;rcases qg1.1 hr with rfl|hr
     ·exact ⟨hA.base,(qq2.1 hd3).1,hd3,z1.not_own hd3⟩
     ·exact e3' r hr
 refine ⟨pend,w3.putObj (E3 H.next).blk (.loop {r3 with state:=.exhausted}),?_,?_⟩
 ·have:=run_endLoop (P:=P) p1 (by rw [p2];exact hst)
  rw [hE3] at this ⊢
  rw [← p3];exact this
 ·rcases hout with ⟨hp,he⟩|⟨id,hp,he⟩|⟨hp,he⟩
  ·rw [hp]
   exact hQ _ _ _ (hbe .normal (by rw [he];exact .normal) (by rw [he]) (by rw [he]))
  ·rw [hp]
   exact wpIn_exit (hQ _ _ _ (hbe (.exit id) (by rw [he];exact .exit id) (by rw [he]) (by rw [he])))
  ·rw [hp]
   exact wpIn_ret (hQ _ _ _ (hbe .ret (by rw [he];exact .ret) (by rw [he]) (by rw [he])))
end
section
variable {L:Lk}{P:Program}{B:Nat}
theorem zvq (hL:LOk L P) (hX:ExtOk L P B):∀n,CodeRec P B n (evReq L n):=by
 intro n
 induction n with
 |zero=>exact ⟨⟨fun _ _ _ _ h=>(by cases h),fun _ _ _ _ h=>(by cases h)⟩,fun _ _ _ _ h=>(by cases h),fun _ _ _ _ _ _ _ h=>(by cases h)⟩
 |succ n ih =>
  refine ⟨⟨?_,?_⟩,?_,?_⟩
  ·intro f args H out h E w us hw hS hus
   have h:(match zyp L f args H with
    |some p=>some (out1 p.1 p.2)
    |none=>match L.dfn f with
    |true=>none
    |false=>match L.func f with
     |none=>none
     |some fn=>match fn.body with
      |none=>none
      |some c=>match Nat.ble (len args) fn.ntmps with
       |false=>none
       |true=>match zzb L (evReq L n) c (zwb args 0 .nil) H with
        |none=>none
        |some o=>match o.ex with
         | .ret| .normal=>(match znb L o.T o.H fn.results.toList with
          |some vs=>(match vs with| [v]=>some (out1 v o.H)|vs=>some (out1 (.tup vs) o.H))
          |none=>none)
         |_=>none)=some out:=h
   split at h
   ·next p hp =>
    cases h
    unfold zyp at hp;split at hp
    ·next g hg=>exact hX f g hg args H p hp E w us hw hS hus
    ·cases hp
   ·split at h
    ·cases h
    split at h
    ·cases h
    ·next fn hfn =>
     split at h
     ·cases h
     ·next c hc =>
      split at h
      ·cases h
      ·next hlen =>
       rw [zxe] at hlen;split at h
       ·cases h
       ·next o ho =>
        have fin:(o.ex= .ret\/o.ex= .normal)->(match znb L o.T o.H fn.results.toList with
          |some vs=>(match vs with| [v]=>some (out1 v o.H)|vs=>some (out1 (.tup vs) o.H))
          |none=>none)=some out->CallOk P B E H w f us (zrg out) out.H:=by
         intro hex h;split at h
         ·next vs hvs =>
          have he:out=out1 (tupOf vs) o.H:=by
           cases vs with
           |nil=>cases h;rfl
           |cons v vs=>cases vs with
            |nil=>cases h;rfl
            |cons v' vs=>cases h;rfl
          rw [he];exact call_ok hL ih hfn hc (qe1 hlen) ho hex hvs hw hS hus
         ·cases h
        split at h
        ·next hex=>exact fin (.inl hex) h
        ·next hex=>exact fin (.inr hex) h
        ·cases h
  ·intro l args H out h E w us hw hS hus
   have h:(match Nat.ble H.lo l,H.get l with
    |true,some (.loop .ready none T _ ps assign body)=>(match Nat.beq (len args) (len ps) with
     |false=>none
     |true=>match zzb L (evReq L n) assign (zic (ps.zip args) T) H with
      |none=>none
      |some o1=>match o1.ex with
       | .normal=>(match o1.H.get l with
        |some (.loop .ready none T2 n2 ps2 as2 bd2)=>(match zzb L (evReq L n) body o1.T (o1.H.put l (.loop .busy none T2 n2 ps2 as2 bd2)) with
         |none=>none
         |some o2=>match o2.H.get l with
          |some (.loop .busy _ T n ps assign body)=>(match o2.ex with
           | .normal=>some (out1 (.bool true) (o2.H.put l (.loop .ready none T n ps assign body)))
           | .exit id=>some (out1 (.bool false) (o2.H.put l (.loop .done (some (.exit id)) T n ps assign body)))
           | .ret=>some (out1 (.bool false) (o2.H.put l (.loop .done (some .ret) T n ps assign body)))
           | .goto _=>none)
          |_=>none)
        |_=>none)
       |_=>none)
    |_,_=>none)=some out:=h
   split at h
   ·next T k ps assign body hlo hg =>
    split at h
    ·cases h
    ·next hlen =>
     have hlen:=qf hlen;rw [zxe,zxe] at hlen;split at h
     ·cases h
     ·next o1 ho1 =>
      split at h
      ·next hx1 =>
       split at h
       ·next T2 n2 ps2 as2 bd2 hg1 =>
        split at h
        ·cases h
        ·next o2 ho2 =>
         split at h
         ·next pe T3 n3 ps3 as3 bd3 hg2 =>
          refine zuq hL ih (qe1 hlo) hg hlen ho1 hx1 hg1 ho2 hg2 ?_ hw hS hus;split at h
          ·next hx=>cases h;exact .inl ⟨hx,rfl⟩
          ·next id hx=>cases h;exact .inr (.inl ⟨id,hx,rfl⟩)
          ·next hx=>cases h;exact .inr (.inr ⟨hx,rfl⟩)
          ·cases h
         ·cases h
       ·cases h
      ·cases h
   ·cases h
  ·intro body T H out h F hF N m hwf E w a hA hm Q hQ
   have h:(match zzb L (evReq L n) body T H with
    |none=>none
    |some o=>match o.ex with
     | .normal=>evReq L n (.loop body o.T o.H)
     |_=>some o)=some out:=h
   split at h
   ·cases h
   ·next o ho =>
    rw [roundsIn_succ];refine zlj hL.toLOk0 hL.mixed ih m body F hF T H o ho hwf N E w a hA hm _ fun e a1 w1 hb=> ?_
    obtain ⟨⟨E1,h1,h2,h3,h4⟩,h5,h6,h7⟩:=hb;generalize hex:o.ex=ex at h h6;cases h6 with
    |normal=>exact ih.loop body o.T o.H out h F hF N m hwf E1 w1 a1 ⟨h5,h1,h2,h4,qx2 hA.base h3.size,fun l hl=>let ⟨r,hr⟩:=hA.rnd l hl;h3.loops l r hr⟩ oM Q fun e2 a2 w2 hb2=>hQ e2 a2 w2 (hb2.trans h3 h7)
    |exit id=>cases h;exact hQ _ _ _ ⟨⟨E1,h1,h2,h3,h4⟩,h5,by rw [hex];exact .exit id,h7⟩
    |ret=>cases h;exact hQ _ _ _ ⟨⟨E1,h1,h2,h3,h4⟩,h5,by rw [hex];exact .ret,h7⟩
    |goto l=>cases h;exact hQ _ _ _ ⟨⟨E1,h1,h2,h3,h4⟩,h5,by rw [hex];exact .goto l,h7⟩
  ·intro g ps assign body T H out h F hF N m hps hwa hwb x E w a hA hm hx Q hQ
   have h:(match zec g [.yld H.next] with
    |some (.enter f args)=>(match L.func f with
     |none=>none
     |some fn=>match fn.body with
      |none=>none
      |some _=>match evReq L n (.call f args (H.new (.loop .ready none T 0 ps.toList assign body))) with
       |none=>none
       |some o=>match Nat.ble o.H.lo H.next,o.H.get H.next with
        |true,some (.loop st pend _ _ _ _ _)=>(match st with
         | .busy=>none
         |_=>match pend with
          |none=>some ⟨.normal,T,o.H.put H.next .defd⟩
          |some (.exit id)=>some ⟨.exit id,T,o.H.put H.next .defd⟩
          |some .ret=>some ⟨.ret,T,o.H.put H.next .defd⟩
          |_=>none)
        |_,_=>none)
    |_=>none)=some out:=h
   split at h
   ·next f args hcf =>
    split at h
    ·cases h
    ·next fn hfn =>
     split at h
     ·cases h
     ·next c hc =>
      split at h
      ·cases h
      ·next o ho =>
       split at h
       ·next st pend T5 n5 ps5 as5 bd5 hlo hg =>
        have go:=fun hst hout=>zol1 (out:=out) hL ih hF hcf hfn hc ho (qe1 hlo) hg hst hout hps hwa hwb hA hm hx hQ
        split at h
        ·cases h
        ·next hne =>
         split at h
         ·cases h;exact go hne (.inl ⟨rfl,rfl⟩)
         ·cases h;exact go hne (.inr (.inl ⟨_,rfl,rfl⟩))
         ·cases h;exact go hne (.inr (.inr ⟨rfl,rfl⟩))
         ·cases h
       ·cases h
   ·cases h
end
def H0:AH:= {tree:=.nil,next:=0,lo:=0,hide:= []}
theorem zmd1 (i:Nat):H0.get i=none:=by
 unfold AH.get H0;cases AH.vis {tree:=.nil,next:=0,lo:=0,hide:= []} i with
 |false=>rfl
 |true=>exact Tr.get_nil i
theorem H0_wf:H0.Wf:=⟨fun i b h=>(by rw [show H0.tree.get i=none from Tr.get_nil i] at h;cases h),qn _,fun r hr=>by cases hr⟩
theorem H0_st (E:Env) (w:World):St w.heap.size E H0 w:=fun E' _ =>
 ⟨fun i b h=>(by rw [zmd1] at h;cases h),fun i j b c h=>(by rw [zmd1] at h;cases h),fun i b h=>(by rw [zmd1] at h;cases h),qn _⟩
open Go.RowKit
section
variable {L:Lk}{P:Program}
def zcn (o:Option Out):Bool :=
 match o with
 |some o=>(match zrg o with| .bool b=>(match b with|true=>(match o.H.fz with|true=>false|false=>true)|false=>false)|_=>false)
 |none=>false
theorem zvv {o:Option Out}(h:zcn o=true):∃out,o=some out/\zrg out= .bool true/\out.H.fz=false:=by
 unfold zcn at h;split at h
 ·next out =>
  split at h
  ·next b hb =>
   split at h
   ·split at h
    ·cases h
    ·next hz=>exact ⟨out,rfl,hb,hz⟩
   ·cases h
  ·cases h
 ·cases h
end
def fitFn (fn : Func) : Bool := !(fn.name == "runtime.NumGoroutine") && (match fn.body with | some c => wfC fn.ntmps c | none => true)
def lkOf (P:Program) (fs:Tr Func) (ts:Tr TypeInfo):Lk :=
 {func:=fun f=>fs.get f,info:=fun t=>ts.get t,plainEq:=fun t=> !P.stoodInHeld t && !P.eqGuardType P.depth t,ext:=fun _=>none}
theorem lkOf_ok {P:Program}(hm:P.follows .mixedOrders=true) (hf:P.funcs.toList.all fitFn=true) (hn:(lkOf P (Tr.ofList P.funcs.toList) (Tr.ofList P.types.toList)).zero 5=some (.int .u8 0)/\(lkOf P (Tr.ofList P.funcs.toList) (Tr.ofList P.types.toList)).zero 9=some (.str ⟨#[]⟩)):LOk (lkOf P (Tr.ofList P.funcs.toList) (Tr.ofList P.types.toList)) P where
 info t i h:=by
  have h:(Tr.ofList P.types.toList).get t=some i:=h;rw [Tr.get_ofList] at h;have h2:P.types[t]? =some i:=by simpa using h
  unfold Tables.info?
  rw [qi (qq2.1 h2).1];exact h2
 plainEq t h:=by
  have h:(!P.stoodInHeld t && !P.eqGuardType P.depth t)=true:=h
  simpa using h
 func f fn h:=by
  have h:(Tr.ofList P.funcs.toList).get f=some fn:=h;rw [Tr.get_ofList] at h;have h2:=qb1.1 hf fn (qj6 h);unfold fitFn at h2;rw [qm] at h2;refine ⟨by simpa using h,by simpa using h2.1,fun c hc=> ?_⟩
  have:=h2.2;rw [hc] at this;exact this
 mixed:=hm
 zt t z h:=by cases h
 nv:=hn
noncomputable section
def orec {α β:Type}(n:β) (f:α->β) (o:Option α):β:=Option.rec (motive:=fun _=>β) n f o
def irec {β:Type}(f g:Nat->β) (n:Int):β:=Int.rec (motive:=fun _=>β) f g n
def zrec {β:Type}(z:β) (f:Nat->β) (n:Nat):β:=Nat.rec (motive:=fun _=>β) z (fun n _=>f n) n
def zpl1 (n:Option AV) (f:Bool->Option AV) (x:AV):Option AV :=
 @AV.rec (fun _=>Option AV->(Bool->Option AV)->Option AV) (fun _=>Unit) (fun a _ f=>f a) (fun _ _ n _=>n) (fun _ n _=>n) (fun n _=>n) (fun _ _ n _=>n) (fun n _=>n) (fun _ _ _ _ _ n _=>n) (fun n _=>n) (fun _ n _=>n) (fun _ _ _ _ _ n _=>n) (fun _ n _=>n) (fun n _=>n) (fun _ _ _ n _=>n) (fun n _=>n) (fun _ _ n _=>n) (fun _ _ n _=>n) (fun _ _ n _=>n) (fun _ _ _ n _=>n) () (fun _ _ _ _=>()) x n f
def avBoolB (n:Bool) (f:Bool->Bool) (x:AV):Bool :=
 @AV.rec (fun _=>Bool->(Bool->Bool)->Bool) (fun _=>Unit) (fun a _ f=>f a) (fun _ _ n _=>n) (fun _ n _=>n) (fun n _=>n) (fun _ _ n _=>n) (fun n _=>n) (fun _ _ _ _ _ n _=>n) (fun n _=>n) (fun _ n _=>n) (fun _ _ _ _ _ n _=>n) (fun _ n _=>n) (fun n _=>n) (fun _ _ _ n _=>n) (fun n _=>n) (fun _ _ n _=>n) (fun _ _ n _=>n) (fun _ _ n _=>n) (fun _ _ _ n _=>n) () (fun _ _ _ _=>()) x n f
def zul (n:Option Out) (f:Bool->Option Out) (x:AV):Option Out :=
 @AV.rec (fun _=>Option Out->(Bool->Option Out)->Option Out) (fun _=>Unit) (fun a _ f=>f a) (fun _ _ n _=>n) (fun _ n _=>n) (fun n _=>n) (fun _ _ n _=>n) (fun n _=>n) (fun _ _ _ _ _ n _=>n) (fun n _=>n) (fun _ n _=>n) (fun _ _ _ _ _ n _=>n) (fun _ n _=>n) (fun n _=>n) (fun _ _ _ n _=>n) (fun n _=>n) (fun _ _ n _=>n) (fun _ _ n _=>n) (fun _ _ n _=>n) (fun _ _ _ n _=>n) () (fun _ _ _ _=>()) x n f
def avInt (n:Option AV) (f:IntKind->Int->Option AV) (x:AV):Option AV :=
 @AV.rec (fun _=>Option AV->(IntKind->Int->Option AV)->Option AV) (fun _=>Unit) (fun _ n _=>n) (fun a b _ f=>f a b) (fun _ n _=>n) (fun n _=>n) (fun _ _ n _=>n) (fun n _=>n) (fun _ _ _ _ _ n _=>n) (fun n _=>n) (fun _ n _=>n) (fun _ _ _ _ _ n _=>n) (fun _ n _=>n) (fun n _=>n) (fun _ _ _ n _=>n) (fun n _=>n) (fun _ _ n _=>n) (fun _ _ n _=>n) (fun _ _ n _=>n) (fun _ _ _ n _=>n) () (fun _ _ _ _=>()) x n f
def avPtr (n:Option AV) (f:Nat->Nat->Option AV) (x:AV):Option AV :=
 @AV.rec (fun _=>Option AV->(Nat->Nat->Option AV)->Option AV) (fun _=>Unit) (fun _ n _=>n) (fun _ _ n _=>n) (fun _ n _=>n) (fun n _=>n) (fun a b _ f=>f a b) (fun n _=>n) (fun _ _ _ _ _ n _=>n) (fun n _=>n) (fun _ n _=>n) (fun _ _ _ _ _ n _=>n) (fun _ n _=>n) (fun n _=>n) (fun _ _ _ n _=>n) (fun n _=>n) (fun _ _ n _=>n) (fun _ _ n _=>n) (fun _ _ n _=>n) (fun _ _ _ n _=>n) () (fun _ _ _ _=>()) x n f
def avPX (n:Option AV) (f:Nat->Nat->Option AV) (g:Nat->Nat->Nat->Option AV) (x:AV):Option AV :=
 @AV.rec (fun _=>Option AV->(Nat->Nat->Option AV)->(Nat->Nat->Nat->Option AV)->Option AV) (fun _=>Unit) (fun _ n _ _=>n) (fun _ _ n _ _=>n) (fun _ n _ _=>n) (fun n _ _=>n) (fun a b _ f _=>f a b) (fun n _ _=>n) (fun _ _ _ _ _ n _ _=>n) (fun n _ _=>n) (fun _ n _ _=>n) (fun _ _ _ _ _ n _ _=>n) (fun _ n _ _=>n) (fun n _ _=>n) (fun _ _ _ n _ _=>n) (fun n _ _=>n) (fun _ _ n _ _=>n) (fun _ _ n _ _=>n) (fun _ _ n _ _=>n) (fun a b c _ _ g=>g a b c) () (fun _ _ _ _=>()) x n f g
def avPtrH (n:Option AH) (f:Nat->Nat->Option AH) (x:AV):Option AH :=
 @AV.rec (fun _=>Option AH->(Nat->Nat->Option AH)->Option AH) (fun _=>Unit) (fun _ n _=>n) (fun _ _ n _=>n) (fun _ n _=>n) (fun n _=>n) (fun a b _ f=>f a b) (fun n _=>n) (fun _ _ _ _ _ n _=>n) (fun n _=>n) (fun _ n _=>n) (fun _ _ _ _ _ n _=>n) (fun _ n _=>n) (fun n _=>n) (fun _ _ _ n _=>n) (fun n _=>n) (fun _ _ n _=>n) (fun _ _ n _=>n) (fun _ _ n _=>n) (fun _ _ _ n _=>n) () (fun _ _ _ _=>()) x n f
def avSl (n:Option AV) (f:Nat->Nat->Nat->Nat->Bool->Option AV) (x:AV):Option AV :=
 @AV.rec (fun _=>Option AV->(Nat->Nat->Nat->Nat->Bool->Option AV)->Option AV) (fun _=>Unit) (fun _ n _=>n) (fun _ _ n _=>n) (fun _ n _=>n) (fun n _=>n) (fun _ _ n _=>n) (fun n _=>n) (fun a b c d e _ f=>f a b c d e) (fun n _=>n) (fun _ n _=>n) (fun _ _ _ _ _ n _=>n) (fun _ n _=>n) (fun n _=>n) (fun _ _ _ n _=>n) (fun n _=>n) (fun _ _ n _=>n) (fun _ _ n _=>n) (fun _ _ n _=>n) (fun _ _ _ n _=>n) () (fun _ _ _ _=>()) x n f
def avOne (n:Option AH) (f:Option AH) (x:AV):Option AH :=
 @AV.rec (fun _=>Option AH->(Option AH)->Option AH) (fun _=>Unit) (fun _ _ f=>f) (fun _ _ _ f=>f) (fun _ _ f=>f) (fun _ f=>f) (fun _ _ _ f=>f) (fun _ f=>f) (fun _ _ _ _ _ _ f=>f) (fun _ f=>f) (fun _ _ f=>f) (fun _ _ _ _ _ _ f=>f) (fun _ _ f=>f) (fun _ f=>f) (fun _ _ _ _ f=>f) (fun _ f=>f) (fun _ _ n _=>n) (fun _ _ n _=>n) (fun _ _ n _=>n) (fun _ _ _ _ f=>f) () (fun _ _ _ _=>()) x n f
def kEq (a:IntKind):IntKind->Bool :=
 IntKind.rec (motive:=fun _=>IntKind->Bool)
  (fun b=>IntKind.rec (motive:=fun _=>Bool) true false false false false false false false b)
  (fun b=>IntKind.rec (motive:=fun _=>Bool) false true false false false false false false b)
  (fun b=>IntKind.rec (motive:=fun _=>Bool) false false true false false false false false b)
  (fun b=>IntKind.rec (motive:=fun _=>Bool) false false false true false false false false b)
  (fun b=>IntKind.rec (motive:=fun _=>Bool) false false false false true false false false b)
  (fun b=>IntKind.rec (motive:=fun _=>Bool) false false false false false true false false b)
  (fun b=>IntKind.rec (motive:=fun _=>Bool) false false false false false false true false b)
  (fun b=>IntKind.rec (motive:=fun _=>Bool) false false false false false false false true b) a
theorem kEq_eq (a b:IntKind):kEq a b=decide (a=b):=by cases a<;>cases b<;>rfl
namespace FI
def subN (m n:Nat):Int:=brec (.negSucc (Nat.pred (Nat.sub n m))) (.ofNat (Nat.sub m n)) (Nat.ble n m)
def add (x y:Int):Int:=irec (fun m=>irec (fun n=>.ofNat (Nat.add m n)) (fun n=>subN m (Nat.succ n)) y) (fun m=>irec (fun n=>subN n (Nat.succ m)) (fun n=>.negSucc (Nat.succ (Nat.add m n))) y) x
def sub (x y:Int):Int:=irec (fun m=>irec (fun n=>subN m n) (fun n=>.ofNat (Nat.add m (Nat.succ n))) y) (fun m=>irec (fun n=>.negSucc (Nat.add m n)) (fun n=>subN n m) y) x
def mul (x y:Int):Int:=irec (fun m=>irec (fun n=>.ofNat (Nat.mul m n)) (fun n=>x*y) y) (fun _=>x*y) x
def quo (x y:Int):Int:=irec (fun m=>irec (fun n=>.ofNat (Nat.div m n)) (fun n=>x.tdiv y) y) (fun _=>x.tdiv y) x
def rem (x y:Int):Int:=irec (fun m=>irec (fun n=>.ofNat (Nat.mod m n)) (fun n=>x.tmod y) y) (fun _=>x.tmod y) x
def blt (x y:Int):Bool:=irec (fun m=>irec (fun n=>Nat.blt m n) (fun _=>false) y) (fun m=>irec (fun _=>true) (fun n=>Nat.blt n m) y) x
def ble (x y:Int):Bool:=irec (fun m=>irec (fun n=>Nat.ble m n) (fun _=>false) y) (fun m=>irec (fun _=>true) (fun n=>Nat.ble n m) y) x
def beq (x y:Int):Bool:=irec (fun m=>irec (fun n=>Nat.beq m n) (fun _=>false) y) (fun m=>irec (fun _=>false) (fun n=>Nat.beq n m) y) x
def is0 (x:Int):Bool:=irec (fun m=>Nat.beq m 0) (fun _=>false) x
theorem zhs (m n:Nat):subN m n=(m:Int) - (n:Int):=by
 unfold subN;cases h:Nat.ble n m with
 |true =>
  have:=qe1 h;show Int.ofNat (m - n)=_
  simp only [qg2];omega
 |false =>
  have h':¬n<=m:=fun hle=>by rw [qe hle] at h;cases h
  show Int.negSucc (Nat.pred (n - m))=_
  rw [qh2];simp only [Nat.pred_eq_sub_one];omega
theorem add_eq (x y:Int):add x y=x+y:=by
 cases x with
 |ofNat m=>cases y with
  |ofNat n=>rfl
  |negSucc n=>show subN m (Nat.succ n)=_;rw [zhs,qh2];simp only [qg2];omega
 |negSucc m=>cases y with
  |ofNat n=>show subN n (Nat.succ m)=_;rw [zhs,qh2];simp only [qg2];omega
  |negSucc n=>show Int.negSucc (Nat.succ (m+n))=_;rw [qh2,qh2,qh2];omega
theorem sub_eq (x y:Int):sub x y=x - y:=by
 cases x with
 |ofNat m=>cases y with
  |ofNat n=>exact zhs m n
  |negSucc n=>show Int.ofNat (m+Nat.succ n)=_;rw [qh2];simp only [qg2];omega
 |negSucc m=>cases y with
  |ofNat n=>show Int.negSucc (m+n)=_;rw [qh2,qh2];simp only [qg2];omega
  |negSucc n=>show subN n m=_;rw [zhs,qh2,qh2];omega
theorem mul_eq (x y:Int):mul x y=x*y:=by cases x<;>cases y<;>rfl
theorem quo_eq (x y:Int):quo x y=x.tdiv y:=by cases x<;>cases y<;>rfl
theorem rem_eq (x y:Int):rem x y=x.tmod y:=by cases x<;>cases y<;>rfl
theorem nblt (m n:Nat):Nat.blt m n=decide (m<n):=by rw [qa3,qt4];simp
theorem nble (m n:Nat):Nat.ble m n=decide (m<=n):=by rw [qa3,Nat.ble_eq];simp
theorem nbeq (m n:Nat):Nat.beq m n=decide (m=n):=by rw [qa3];simp
theorem blt_eq (x y:Int):blt x y=decide (x<y):=by
 cases x with
 |ofNat m=>cases y with
  |ofNat n=>show Nat.blt m n=_;rw [nblt];simp only [qg2];congr 1;simp
  |negSucc n=>show false=_;symm;rw [qd4,qh2];simp only [qg2];omega
 |negSucc m=>cases y with
  |ofNat n=>show true=_;symm;rw [decide_eq_true_iff,qh2];simp only [qg2];omega
  |negSucc n=>show Nat.blt n m=_;rw [nblt,qh2,qh2];congr 1;apply propext;omega
theorem ble_eq (x y:Int):ble x y=decide (x<=y):=by
 cases x with
 |ofNat m=>cases y with
  |ofNat n=>show Nat.ble m n=_;rw [nble];simp only [qg2];congr 1;simp
  |negSucc n=>show false=_;symm;rw [qd4,qh2];simp only [qg2];omega
 |negSucc m=>cases y with
  |ofNat n=>show true=_;symm;rw [decide_eq_true_iff,qh2];simp only [qg2];omega
  |negSucc n=>show Nat.ble n m=_;rw [nble,qh2,qh2];congr 1;apply propext;omega
theorem beq_eq (x y:Int):beq x y=(x == y):=by
 have:(x == y)=decide (x=y):=by rw [qa3];simp
 rw [this];cases x with
 |ofNat m=>cases y with
  |ofNat n=>show Nat.beq m n=_;rw [nbeq];simp only [qg2];congr 1;apply propext;omega
  |negSucc n=>rfl
 |negSucc m=>cases y with
  |ofNat n=>rfl
  |negSucc n=>show Nat.beq n m=_;rw [nbeq,qh2,qh2];congr 1;apply propext;omega
theorem is0_eq (x:Int):is0 x=(x == 0):=by rw [← beq_eq];cases x<;>rfl
end FI
def kPow (k:IntKind):Nat:=IntKind.rec (motive:=fun _=>Nat) 256 65536 4294967296 18446744073709551616 256 65536 4294967296 18446744073709551616 k
theorem zis (k:IntKind):kPow k=2 ^ k.bits:=by cases k<;>rfl
def kBits (k:IntKind):Nat:=IntKind.rec (motive:=fun _=>Nat) 8 16 32 64 8 16 32 64 k
theorem zky (k:IntKind):kBits k=k.bits:=by cases k<;>rfl
def wrapU (p:Nat) (k:IntKind) (n:Int):Int:=irec (fun m=>.ofNat (Nat.mod m p)) (fun _=>k.wrap n) n
def wrapS (p:Nat) (k:IntKind) (n:Int):Int:=irec (fun m=>brec (k.wrap n) (.ofNat m) (Nat.blt m p)) (fun m=>brec (k.wrap n) (.negSucc m) (Nat.blt m p)) n
def fw (k:IntKind):Int->Int :=
 IntKind.rec (motive:=fun _=>Int->Int) (fun n=>wrapS 128 .i8 n) (fun n=>wrapS 32768 .i16 n) (fun n=>wrapS 2147483648 .i32 n) (fun n=>wrapS 9223372036854775808 .i64 n)
  (fun n=>wrapU 256 .u8 n) (fun n=>wrapU 65536 .u16 n) (fun n=>wrapU 4294967296 .u32 n) (fun n=>wrapU 18446744073709551616 .u64 n) k
theorem zdn (p:Nat) (k:IntKind) (n:Int) (hp:p=2 ^ k.bits) (hs:k.signed=false):wrapU p k n=k.wrap n:=by
 cases n with
 |negSucc m=>rfl
 |ofNat m =>
  show Int.ofNat (m%p)=_
  unfold IntKind.wrap;rw [hs];simp only [qi3,ql1,qu3];rw [hp];simp
theorem zen (p:Nat) (k:IntKind) (n:Int) (h1:(2 ^ (k.bits - 1):Int)=p) (h2:(2 ^ k.bits:Int)=2*p) (hs:k.signed=true):wrapS p k n=k.wrap n:=by
 cases n with
 |ofNat m =>
  show brec _ (Int.ofNat m) (Nat.blt m p)=_
  cases h:Nat.blt m p with
  |false=>rfl
  |true =>
   rw [qt4] at h;show Int.ofNat m=_
   unfold IntKind.wrap;rw [hs,h1,h2];have e:Int.ofNat m%(2*(p:Int))=Int.ofNat m:=Int.emod_eq_of_lt (by simp) (by simp only [qg2];omega)
   simp only [e,qn3];rw [qd (by simp only [qs,ge_iff_le,qg2];omega)]
 |negSucc m =>
  show brec _ (Int.negSucc m) (Nat.blt m p)=_
  cases h:Nat.blt m p with
  |false=>rfl
  |true =>
   rw [qt4] at h;show Int.negSucc m=_
   unfold IntKind.wrap;rw [hs,h1,h2];have e:Int.negSucc m%(2*(p:Int))=Int.negSucc m+2*p:=by
    rw [← Int.add_mul_emod_self_left (Int.negSucc m) (2*(p:Int)) 1,Int.mul_one];exact Int.emod_eq_of_lt (by rw [qh2];omega) (by rw [qh2];omega)
   simp only [e,qn3];rw [qi (by simp only [qs,ge_iff_le,qh2];omega)]
   omega
theorem fw_eq (k:IntKind) (n:Int):fw k n=k.wrap n:=by
 cases k with
 |u8=>exact zdn 256 .u8 n rfl rfl
 |u16=>exact zdn 65536 .u16 n rfl rfl
 |u32=>exact zdn 4294967296 .u32 n rfl rfl
 |u64=>exact zdn 18446744073709551616 .u64 n rfl rfl
 |i8=>exact zen 128 .i8 n dC dC rfl
 |i16=>exact zen 32768 .i16 n dC dC rfl
 |i32=>exact zen 2147483648 .i32 n dC dC rfl
 |i64=>exact zen 9223372036854775808 .i64 n dC dC rfl
theorem zie (k:IntKind) (n:Int):fw k n=fwrap k n:=by rw [fw_eq,zei]
def bitN (g:Nat->Nat->Nat->Nat) (slow:IntKind->Int->Int->Option AV) (k:IntKind) (x y:Int):Option AV :=
 irec (fun m=>irec (fun n=>some (.int k (fw k (.ofNat (g (kPow k) (Nat.mod m (kPow k)) (Nat.mod n (kPow k))))))) (fun _=>slow k x y) y) (fun _=>slow k x y) x
theorem zoe (k:IntKind) (m:Nat):(BitVec.ofInt k.bits (Int.ofNat m)).toNat=m%2 ^ k.bits:=by simp
theorem zql1 (k:IntKind) (x y:Int):bitN (fun _ a b=>Nat.land a b) (evInt .and) k x y=evInt .and k x y:=by
 cases x<;>cases y<;>try rfl
 show some (AV.int k (fw k (.ofNat (Nat.land (Nat.mod _ (kPow k)) (Nat.mod _ (kPow k))))))=some (AV.int k (fwrap k _))
 rw [zie,zis,BitVec.toNat_and,zoe,zoe];rfl
theorem bitN_or (k:IntKind) (x y:Int):bitN (fun _ a b=>Nat.lor a b) (evInt .or) k x y=evInt .or k x y:=by
 cases x<;>cases y<;>try rfl
 show some (AV.int k (fw k (.ofNat (Nat.lor (Nat.mod _ (kPow k)) (Nat.mod _ (kPow k))))))=some (AV.int k (fwrap k _))
 rw [zie,zis,BitVec.toNat_or,zoe,zoe];rfl
theorem zrl1 (k:IntKind) (x y:Int):bitN (fun _ a b=>Nat.xor a b) (evInt .xor) k x y=evInt .xor k x y:=by
 cases x<;>cases y<;>try rfl
 show some (AV.int k (fw k (.ofNat (Nat.xor (Nat.mod _ (kPow k)) (Nat.mod _ (kPow k))))))=some (AV.int k (fwrap k _))
 rw [zie,zis,BitVec.toNat_xor,zoe,zoe];rfl
theorem zwv (k:IntKind) (x y:Int):bitN (fun p a b=>Nat.land a (Nat.sub (Nat.sub p 1) b)) (evInt .andNot) k x y=evInt .andNot k x y:=by
 cases x<;>cases y<;>try rfl
 show some (AV.int k (fw k (.ofNat (Nat.land (Nat.mod _ (kPow k)) (Nat.sub (Nat.sub (kPow k) 1) (Nat.mod _ (kPow k)))))))=some (AV.int k (fwrap k _))
 rw [zie,zis,BitVec.toNat_and,BitVec.toNat_not,zoe,zoe];rfl
def shlF (k:IntKind) (x y:Int):Option AV :=
 irec (fun n=>some (.int k (fw k (FI.mul x (.ofNat (Nat.pow 2 (minN n (kBits k)))))))) (fun _=>none) y
def shrF (k:IntKind) (x y:Int):Option AV :=
 irec (fun n=>some (.int k (irec (fun m=>.ofNat (Nat.div m (Nat.pow 2 (minN n (kBits k))))) (fun _=>x.fdiv (2 ^ min n k.bits)) x))) (fun _=>none) y
theorem zly (n l:Nat):minN n l=min n l:=by
 unfold minN;cases h:Nat.ble n l with
 |true=>have:=qe1 h;show n=_;omega
 |false =>
  have h':¬n<=l:=fun hle=>by rw [qe hle] at h;cases h
  show l=_;omega
theorem shlF_eq (k:IntKind) (x y:Int):shlF k x y=zvg .shl k x y:=by
 cases y with
 |negSucc n=>unfold zvg;rw [show decide ((Int.negSucc n:Int)<0)=true from by simp [Int.negSucc_lt_zero]];rfl
 |ofNat n =>
  have h:decide ((Int.ofNat n:Int)<0)=false:=by simp
  unfold zvg;rw [h];show some (AV.int k (fw k (FI.mul x (.ofNat (2 ^ minN n (kBits k))))))=some (AV.int k (fwrap k (x*2 ^ min n k.bits)))
  rw [zie,FI.mul_eq,zly,zky];simp
theorem zkh1 (k:IntKind) (x y:Int):shrF k x y=zvg .shr k x y:=by
 cases y with
 |negSucc n=>unfold zvg;rw [show decide ((Int.negSucc n:Int)<0)=true from by simp [Int.negSucc_lt_zero]];rfl
 |ofNat n =>
  have h:decide ((Int.ofNat n:Int)<0)=false:=by simp
  unfold zvg;rw [h];cases x with
  |negSucc m=>rfl
  |ofNat m =>
   show some (AV.int k (Int.ofNat (m / 2 ^ minN n (kBits k))))=some (AV.int k ((Int.ofNat m).fdiv (2 ^ min n k.bits)))
   rw [zly,zky];congr 2;have:(2:Int) ^ min n k.bits=((2 ^ min n k.bits:Nat):Int):=by simp
   rw [this,Int.fdiv_eq_ediv_of_nonneg _ (Int.natCast_nonneg _)];rfl
def int2 (g:IntKind->Int->Int->Option AV) (s:AV->AV->Option AV) (x y:AV):Option AV :=
 avInt (s x y) (fun k a=>avInt (s x y) (fun k' b=>brec (s x y) (g k a b) (kEq k k')) y) x
def intS (g:IntKind->Int->Int->Option AV) (x y:AV):Option AV:=avInt none (fun k a=>avInt none (fun _ b=>g k a b) y) x
def binF (op:BinOp):(AV->AV->Option AV)->AV->AV->Option AV :=
 BinOp.rec (motive:=fun _=>(AV->AV->Option AV)->AV->AV->Option AV)
  (fun s x y=>int2 (fun k a b=>some (.int k (fw k (FI.add a b)))) s x y)
  (fun s x y=>int2 (fun k a b=>some (.int k (fw k (FI.sub a b)))) s x y)
  (fun s x y=>int2 (fun k a b=>some (.int k (fw k (FI.mul a b)))) s x y)
  (fun s x y=>int2 (fun k a b=>brec (some (.int k (fw k (FI.quo a b)))) none (FI.is0 b)) s x y)
  (fun s x y=>int2 (fun k a b=>brec (some (.int k (FI.rem a b))) none (FI.is0 b)) s x y)
  (fun s x y=>int2 (fun k a b=>bitN (fun _ a b=>Nat.land a b) (evInt .and) k a b) s x y)
  (fun s x y=>int2 (fun k a b=>bitN (fun _ a b=>Nat.lor a b) (evInt .or) k a b) s x y)
  (fun s x y=>int2 (fun k a b=>bitN (fun _ a b=>Nat.xor a b) (evInt .xor) k a b) s x y)
  (fun _ x y=>intS (fun k a b=>shlF k a b) x y)
  (fun _ x y=>intS (fun k a b=>shrF k a b) x y)
  (fun s x y=>int2 (fun k a b=>bitN (fun p a b=>Nat.land a (Nat.sub (Nat.sub p 1) b)) (evInt .andNot) k a b) s x y)
  (fun s x y=>int2 (fun _ a b=>some (.bool (FI.beq a b))) s x y)
  (fun s x y=>int2 (fun _ a b=>some (.bool (brec true false (FI.beq a b)))) s x y)
  (fun s x y=>int2 (fun _ a b=>some (.bool (FI.blt a b))) s x y)
  (fun s x y=>int2 (fun _ a b=>some (.bool (FI.ble a b))) s x y)
  (fun s x y=>int2 (fun _ a b=>some (.bool (FI.blt b a))) s x y)
  (fun s x y=>int2 (fun _ a b=>some (.bool (FI.ble b a))) s x y) op
theorem zmy (b:Bool):brec true false b= !b:=by cases b<;>rfl
theorem zje {L:Lk}{op:BinOp}{t:TypeId}{xo yo:Operand}(ho:op≠ .shl/\op≠ .shr) (g:IntKind->Int->Int->Option AV) (hg:∀k a b,g k a b=evInt op k a b) (x y:AV) :
  int2 g (evBin L op t xo yo) x y=evBin L op t xo yo x y:=by
 cases x<;>try rfl
 next k a =>
 cases y<;>try rfl
 next k' b =>
 show brec (evBin L op t xo yo (.int k a) (.int k' b)) (g k a b) (kEq k k')=_
 rw [kEq_eq];by_cases h:k=k'
 ·subst h
  simp only [qa2,zhm];rw [hg];obtain ⟨h1,h2⟩:=ho;cases op<;>first|(exact absurd rfl h1)|(exact absurd rfl h2)|simp [evBin]
 ·simp only [h,qr1,zcc1]
theorem zcg (L:Lk) (op:BinOp) (t:TypeId) (xo yo:Operand) (x y:AV):binF op (evBin L op t xo yo) x y=evBin L op t xo yo x y:=by
 cases op
 case add=>exact zje ⟨dC,dC⟩ _ (fun k a b=>by rw [FI.add_eq,zie];rfl) x y
 case sub=>exact zje ⟨dC,dC⟩ _ (fun k a b=>by rw [FI.sub_eq,zie];rfl) x y
 case mul=>exact zje ⟨dC,dC⟩ _ (fun k a b=>by rw [FI.mul_eq,zie];rfl) x y
 case quo=>exact zje ⟨dC,dC⟩ _ (fun k a b=>by rw [FI.quo_eq,zie,FI.is0_eq];unfold evInt;cases b == 0<;>rfl) x y
 case rem=>exact zje ⟨dC,dC⟩ _ (fun k a b=>by rw [FI.rem_eq,FI.is0_eq];unfold evInt;cases b == 0<;>rfl) x y
 case and=>exact zje ⟨dC,dC⟩ _ (fun k a b=>zql1 k a b) x y
 case or=>exact zje ⟨dC,dC⟩ _ (fun k a b=>bitN_or k a b) x y
 case xor=>exact zje ⟨dC,dC⟩ _ (fun k a b=>zrl1 k a b) x y
 case andNot=>exact zje ⟨dC,dC⟩ _ (fun k a b=>zwv k a b) x y
 case shl =>
  cases x<;>try rfl
  cases y<;>try rfl
  exact shlF_eq _ _ _
 case shr =>
  cases x<;>try rfl
  cases y<;>try rfl
  exact zkh1 _ _ _
 case eql=>exact zje ⟨dC,dC⟩ _ (fun k a b=>by rw [FI.beq_eq];rfl) x y
 case neq=>exact zje ⟨dC,dC⟩ _ (fun k a b=>by rw [FI.beq_eq,zmy];rfl) x y
 case lss=>exact zje ⟨dC,dC⟩ _ (fun k a b=>by rw [FI.blt_eq];rfl) x y
 case leq=>exact zje ⟨dC,dC⟩ _ (fun k a b=>by rw [FI.ble_eq];rfl) x y
 case gtr=>exact zje ⟨dC,dC⟩ _ (fun k a b=>by rw [FI.blt_eq];rfl) x y
 case geq=>exact zje ⟨dC,dC⟩ _ (fun k a b=>by rw [FI.ble_eq];rfl) x y
end
noncomputable section
def g1A (d:Dg):Oct (Option AV)->Option AV :=
 Dg.rec (motive:=fun _=>Oct (Option AV)->Option AV) (fun r=>r.a) (fun r=>r.b) (fun r=>r.c) (fun r=>r.d) (fun r=>r.e) (fun r=>r.f) (fun r=>r.g) (fun r=>r.h) d
def p1A (d:Dg):Option AV->Oct (Option AV)->Oct (Option AV) :=
 Dg.rec (motive:=fun _=>Option AV->Oct (Option AV)->Oct (Option AV)) (fun x r=>Oct.rec (motive:=fun _=>Oct (Option AV)) (fun a b c d e f g h=>⟨x,b,c,d,e,f,g,h⟩) r) (fun x r=>Oct.rec (motive:=fun _=>Oct (Option AV)) (fun a b c d e f g h=>⟨a,x,c,d,e,f,g,h⟩) r) (fun x r=>Oct.rec (motive:=fun _=>Oct (Option AV)) (fun a b c d e f g h=>⟨a,b,x,d,e,f,g,h⟩) r) (fun x r=>Oct.rec (motive:=fun _=>Oct (Option AV)) (fun a b c d e f g h=>⟨a,b,c,x,e,f,g,h⟩) r) (fun x r=>Oct.rec (motive:=fun _=>Oct (Option AV)) (fun a b c d e f g h=>⟨a,b,c,d,x,f,g,h⟩) r) (fun x r=>Oct.rec (motive:=fun _=>Oct (Option AV)) (fun a b c d e f g h=>⟨a,b,c,d,e,x,g,h⟩) r) (fun x r=>Oct.rec (motive:=fun _=>Oct (Option AV)) (fun a b c d e f g h=>⟨a,b,c,d,e,f,x,h⟩) r) (fun x r=>Oct.rec (motive:=fun _=>Oct (Option AV)) (fun a b c d e f g h=>⟨a,b,c,d,e,f,g,x⟩) r) d
def g2A (d:Dg):Oct (Oct (Option AV))->Oct (Option AV) :=
 Dg.rec (motive:=fun _=>Oct (Oct (Option AV))->Oct (Option AV)) (fun r=>r.a) (fun r=>r.b) (fun r=>r.c) (fun r=>r.d) (fun r=>r.e) (fun r=>r.f) (fun r=>r.g) (fun r=>r.h) d
def p2A (d:Dg):Oct (Option AV)->Oct (Oct (Option AV))->Oct (Oct (Option AV)) :=
 Dg.rec (motive:=fun _=>Oct (Option AV)->Oct (Oct (Option AV))->Oct (Oct (Option AV))) (fun x r=>Oct.rec (motive:=fun _=>Oct (Oct (Option AV))) (fun p q s t u v w y=>Oct.rec (motive:=fun _=>Oct (Oct (Option AV))) (fun a b c d e f g h=>⟨⟨p,q,s,t,u,v,w,y⟩,b,c,d,e,f,g,h⟩) r) x) (fun x r=>Oct.rec (motive:=fun _=>Oct (Oct (Option AV))) (fun p q s t u v w y=>Oct.rec (motive:=fun _=>Oct (Oct (Option AV))) (fun a b c d e f g h=>⟨a,⟨p,q,s,t,u,v,w,y⟩,c,d,e,f,g,h⟩) r) x) (fun x r=>Oct.rec (motive:=fun _=>Oct (Oct (Option AV))) (fun p q s t u v w y=>Oct.rec (motive:=fun _=>Oct (Oct (Option AV))) (fun a b c d e f g h=>⟨a,b,⟨p,q,s,t,u,v,w,y⟩,d,e,f,g,h⟩) r) x) (fun x r=>Oct.rec (motive:=fun _=>Oct (Oct (Option AV))) (fun p q s t u v w y=>Oct.rec (motive:=fun _=>Oct (Oct (Option AV))) (fun a b c d e f g h=>⟨a,b,c,⟨p,q,s,t,u,v,w,y⟩,e,f,g,h⟩) r) x) (fun x r=>Oct.rec (motive:=fun _=>Oct (Oct (Option AV))) (fun p q s t u v w y=>Oct.rec (motive:=fun _=>Oct (Oct (Option AV))) (fun a b c d e f g h=>⟨a,b,c,d,⟨p,q,s,t,u,v,w,y⟩,f,g,h⟩) r) x) (fun x r=>Oct.rec (motive:=fun _=>Oct (Oct (Option AV))) (fun p q s t u v w y=>Oct.rec (motive:=fun _=>Oct (Oct (Option AV))) (fun a b c d e f g h=>⟨a,b,c,d,e,⟨p,q,s,t,u,v,w,y⟩,g,h⟩) r) x) (fun x r=>Oct.rec (motive:=fun _=>Oct (Oct (Option AV))) (fun p q s t u v w y=>Oct.rec (motive:=fun _=>Oct (Oct (Option AV))) (fun a b c d e f g h=>⟨a,b,c,d,e,f,⟨p,q,s,t,u,v,w,y⟩,h⟩) r) x) (fun x r=>Oct.rec (motive:=fun _=>Oct (Oct (Option AV))) (fun p q s t u v w y=>Oct.rec (motive:=fun _=>Oct (Oct (Option AV))) (fun a b c d e f g h=>⟨a,b,c,d,e,f,g,⟨p,q,s,t,u,v,w,y⟩⟩) r) x) d
def g1B (d:Dg):Oct (Option ABlk)->Option ABlk :=
 Dg.rec (motive:=fun _=>Oct (Option ABlk)->Option ABlk) (fun r=>r.a) (fun r=>r.b) (fun r=>r.c) (fun r=>r.d) (fun r=>r.e) (fun r=>r.f) (fun r=>r.g) (fun r=>r.h) d
def p1B (d:Dg):Option ABlk->Oct (Option ABlk)->Oct (Option ABlk) :=
 Dg.rec (motive:=fun _=>Option ABlk->Oct (Option ABlk)->Oct (Option ABlk)) (fun x r=>Oct.rec (motive:=fun _=>Oct (Option ABlk)) (fun a b c d e f g h=>⟨x,b,c,d,e,f,g,h⟩) r) (fun x r=>Oct.rec (motive:=fun _=>Oct (Option ABlk)) (fun a b c d e f g h=>⟨a,x,c,d,e,f,g,h⟩) r) (fun x r=>Oct.rec (motive:=fun _=>Oct (Option ABlk)) (fun a b c d e f g h=>⟨a,b,x,d,e,f,g,h⟩) r) (fun x r=>Oct.rec (motive:=fun _=>Oct (Option ABlk)) (fun a b c d e f g h=>⟨a,b,c,x,e,f,g,h⟩) r) (fun x r=>Oct.rec (motive:=fun _=>Oct (Option ABlk)) (fun a b c d e f g h=>⟨a,b,c,d,x,f,g,h⟩) r) (fun x r=>Oct.rec (motive:=fun _=>Oct (Option ABlk)) (fun a b c d e f g h=>⟨a,b,c,d,e,x,g,h⟩) r) (fun x r=>Oct.rec (motive:=fun _=>Oct (Option ABlk)) (fun a b c d e f g h=>⟨a,b,c,d,e,f,x,h⟩) r) (fun x r=>Oct.rec (motive:=fun _=>Oct (Option ABlk)) (fun a b c d e f g h=>⟨a,b,c,d,e,f,g,x⟩) r) d
def g2B (d:Dg):Oct (Oct (Option ABlk))->Oct (Option ABlk) :=
 Dg.rec (motive:=fun _=>Oct (Oct (Option ABlk))->Oct (Option ABlk)) (fun r=>r.a) (fun r=>r.b) (fun r=>r.c) (fun r=>r.d) (fun r=>r.e) (fun r=>r.f) (fun r=>r.g) (fun r=>r.h) d
def p2B (d:Dg):Oct (Option ABlk)->Oct (Oct (Option ABlk))->Oct (Oct (Option ABlk)) :=
 Dg.rec (motive:=fun _=>Oct (Option ABlk)->Oct (Oct (Option ABlk))->Oct (Oct (Option ABlk))) (fun x r=>Oct.rec (motive:=fun _=>Oct (Oct (Option ABlk))) (fun p q s t u v w y=>Oct.rec (motive:=fun _=>Oct (Oct (Option ABlk))) (fun a b c d e f g h=>⟨⟨p,q,s,t,u,v,w,y⟩,b,c,d,e,f,g,h⟩) r) x) (fun x r=>Oct.rec (motive:=fun _=>Oct (Oct (Option ABlk))) (fun p q s t u v w y=>Oct.rec (motive:=fun _=>Oct (Oct (Option ABlk))) (fun a b c d e f g h=>⟨a,⟨p,q,s,t,u,v,w,y⟩,c,d,e,f,g,h⟩) r) x) (fun x r=>Oct.rec (motive:=fun _=>Oct (Oct (Option ABlk))) (fun p q s t u v w y=>Oct.rec (motive:=fun _=>Oct (Oct (Option ABlk))) (fun a b c d e f g h=>⟨a,b,⟨p,q,s,t,u,v,w,y⟩,d,e,f,g,h⟩) r) x) (fun x r=>Oct.rec (motive:=fun _=>Oct (Oct (Option ABlk))) (fun p q s t u v w y=>Oct.rec (motive:=fun _=>Oct (Oct (Option ABlk))) (fun a b c d e f g h=>⟨a,b,c,⟨p,q,s,t,u,v,w,y⟩,e,f,g,h⟩) r) x) (fun x r=>Oct.rec (motive:=fun _=>Oct (Oct (Option ABlk))) (fun p q s t u v w y=>Oct.rec (motive:=fun _=>Oct (Oct (Option ABlk))) (fun a b c d e f g h=>⟨a,b,c,d,⟨p,q,s,t,u,v,w,y⟩,f,g,h⟩) r) x) (fun x r=>Oct.rec (motive:=fun _=>Oct (Oct (Option ABlk))) (fun p q s t u v w y=>Oct.rec (motive:=fun _=>Oct (Oct (Option ABlk))) (fun a b c d e f g h=>⟨a,b,c,d,e,⟨p,q,s,t,u,v,w,y⟩,g,h⟩) r) x) (fun x r=>Oct.rec (motive:=fun _=>Oct (Oct (Option ABlk))) (fun p q s t u v w y=>Oct.rec (motive:=fun _=>Oct (Oct (Option ABlk))) (fun a b c d e f g h=>⟨a,b,c,d,e,f,⟨p,q,s,t,u,v,w,y⟩,h⟩) r) x) (fun x r=>Oct.rec (motive:=fun _=>Oct (Oct (Option ABlk))) (fun p q s t u v w y=>Oct.rec (motive:=fun _=>Oct (Oct (Option ABlk))) (fun a b c d e f g h=>⟨a,b,c,d,e,f,g,⟨p,q,s,t,u,v,w,y⟩⟩) r) x) d
def g3B (d:Dg):Oct (Oct (Oct (Option ABlk)))->Oct (Oct (Option ABlk)) :=
 Dg.rec (motive:=fun _=>Oct (Oct (Oct (Option ABlk)))->Oct (Oct (Option ABlk))) (fun r=>r.a) (fun r=>r.b) (fun r=>r.c) (fun r=>r.d) (fun r=>r.e) (fun r=>r.f) (fun r=>r.g) (fun r=>r.h) d
def p3B (d:Dg):Oct (Oct (Option ABlk))->Oct (Oct (Oct (Option ABlk)))->Oct (Oct (Oct (Option ABlk))) :=
 Dg.rec (motive:=fun _=>Oct (Oct (Option ABlk))->Oct (Oct (Oct (Option ABlk)))->Oct (Oct (Oct (Option ABlk)))) (fun x r=>Oct.rec (motive:=fun _=>Oct (Oct (Oct (Option ABlk)))) (fun p q s t u v w y=>Oct.rec (motive:=fun _=>Oct (Oct (Oct (Option ABlk)))) (fun a b c d e f g h=>⟨⟨p,q,s,t,u,v,w,y⟩,b,c,d,e,f,g,h⟩) r) x) (fun x r=>Oct.rec (motive:=fun _=>Oct (Oct (Oct (Option ABlk)))) (fun p q s t u v w y=>Oct.rec (motive:=fun _=>Oct (Oct (Oct (Option ABlk)))) (fun a b c d e f g h=>⟨a,⟨p,q,s,t,u,v,w,y⟩,c,d,e,f,g,h⟩) r) x) (fun x r=>Oct.rec (motive:=fun _=>Oct (Oct (Oct (Option ABlk)))) (fun p q s t u v w y=>Oct.rec (motive:=fun _=>Oct (Oct (Oct (Option ABlk)))) (fun a b c d e f g h=>⟨a,b,⟨p,q,s,t,u,v,w,y⟩,d,e,f,g,h⟩) r) x) (fun x r=>Oct.rec (motive:=fun _=>Oct (Oct (Oct (Option ABlk)))) (fun p q s t u v w y=>Oct.rec (motive:=fun _=>Oct (Oct (Oct (Option ABlk)))) (fun a b c d e f g h=>⟨a,b,c,⟨p,q,s,t,u,v,w,y⟩,e,f,g,h⟩) r) x) (fun x r=>Oct.rec (motive:=fun _=>Oct (Oct (Oct (Option ABlk)))) (fun p q s t u v w y=>Oct.rec (motive:=fun _=>Oct (Oct (Oct (Option ABlk)))) (fun a b c d e f g h=>⟨a,b,c,d,⟨p,q,s,t,u,v,w,y⟩,f,g,h⟩) r) x) (fun x r=>Oct.rec (motive:=fun _=>Oct (Oct (Oct (Option ABlk)))) (fun p q s t u v w y=>Oct.rec (motive:=fun _=>Oct (Oct (Oct (Option ABlk)))) (fun a b c d e f g h=>⟨a,b,c,d,e,⟨p,q,s,t,u,v,w,y⟩,g,h⟩) r) x) (fun x r=>Oct.rec (motive:=fun _=>Oct (Oct (Oct (Option ABlk)))) (fun p q s t u v w y=>Oct.rec (motive:=fun _=>Oct (Oct (Oct (Option ABlk)))) (fun a b c d e f g h=>⟨a,b,c,d,e,f,⟨p,q,s,t,u,v,w,y⟩,h⟩) r) x) (fun x r=>Oct.rec (motive:=fun _=>Oct (Oct (Oct (Option ABlk)))) (fun p q s t u v w y=>Oct.rec (motive:=fun _=>Oct (Oct (Oct (Option ABlk)))) (fun a b c d e f g h=>⟨a,b,c,d,e,f,g,⟨p,q,s,t,u,v,w,y⟩⟩) r) x) d
def g4B (d:Dg):Oct (Oct (Oct (Oct (Option ABlk))))->Oct (Oct (Oct (Option ABlk))) :=
 Dg.rec (motive:=fun _=>Oct (Oct (Oct (Oct (Option ABlk))))->Oct (Oct (Oct (Option ABlk)))) (fun r=>r.a) (fun r=>r.b) (fun r=>r.c) (fun r=>r.d) (fun r=>r.e) (fun r=>r.f) (fun r=>r.g) (fun r=>r.h) d
def p4B (d:Dg):Oct (Oct (Oct (Option ABlk)))->Oct (Oct (Oct (Oct (Option ABlk))))->Oct (Oct (Oct (Oct (Option ABlk)))) :=
 Dg.rec (motive:=fun _=>Oct (Oct (Oct (Option ABlk)))->Oct (Oct (Oct (Oct (Option ABlk))))->Oct (Oct (Oct (Oct (Option ABlk))))) (fun x r=>Oct.rec (motive:=fun _=>Oct (Oct (Oct (Oct (Option ABlk))))) (fun p q s t u v w y=>Oct.rec (motive:=fun _=>Oct (Oct (Oct (Oct (Option ABlk))))) (fun a b c d e f g h=>⟨⟨p,q,s,t,u,v,w,y⟩,b,c,d,e,f,g,h⟩) r) x) (fun x r=>Oct.rec (motive:=fun _=>Oct (Oct (Oct (Oct (Option ABlk))))) (fun p q s t u v w y=>Oct.rec (motive:=fun _=>Oct (Oct (Oct (Oct (Option ABlk))))) (fun a b c d e f g h=>⟨a,⟨p,q,s,t,u,v,w,y⟩,c,d,e,f,g,h⟩) r) x) (fun x r=>Oct.rec (motive:=fun _=>Oct (Oct (Oct (Oct (Option ABlk))))) (fun p q s t u v w y=>Oct.rec (motive:=fun _=>Oct (Oct (Oct (Oct (Option ABlk))))) (fun a b c d e f g h=>⟨a,b,⟨p,q,s,t,u,v,w,y⟩,d,e,f,g,h⟩) r) x) (fun x r=>Oct.rec (motive:=fun _=>Oct (Oct (Oct (Oct (Option ABlk))))) (fun p q s t u v w y=>Oct.rec (motive:=fun _=>Oct (Oct (Oct (Oct (Option ABlk))))) (fun a b c d e f g h=>⟨a,b,c,⟨p,q,s,t,u,v,w,y⟩,e,f,g,h⟩) r) x) (fun x r=>Oct.rec (motive:=fun _=>Oct (Oct (Oct (Oct (Option ABlk))))) (fun p q s t u v w y=>Oct.rec (motive:=fun _=>Oct (Oct (Oct (Oct (Option ABlk))))) (fun a b c d e f g h=>⟨a,b,c,d,⟨p,q,s,t,u,v,w,y⟩,f,g,h⟩) r) x) (fun x r=>Oct.rec (motive:=fun _=>Oct (Oct (Oct (Oct (Option ABlk))))) (fun p q s t u v w y=>Oct.rec (motive:=fun _=>Oct (Oct (Oct (Oct (Option ABlk))))) (fun a b c d e f g h=>⟨a,b,c,d,e,⟨p,q,s,t,u,v,w,y⟩,g,h⟩) r) x) (fun x r=>Oct.rec (motive:=fun _=>Oct (Oct (Oct (Oct (Option ABlk))))) (fun p q s t u v w y=>Oct.rec (motive:=fun _=>Oct (Oct (Oct (Oct (Option ABlk))))) (fun a b c d e f g h=>⟨a,b,c,d,e,f,⟨p,q,s,t,u,v,w,y⟩,h⟩) r) x) (fun x r=>Oct.rec (motive:=fun _=>Oct (Oct (Oct (Oct (Option ABlk))))) (fun p q s t u v w y=>Oct.rec (motive:=fun _=>Oct (Oct (Oct (Oct (Option ABlk))))) (fun a b c d e f g h=>⟨a,b,c,d,e,f,g,⟨p,q,s,t,u,v,w,y⟩⟩) r) x) d
def g5B (d:Dg):Oct (Oct (Oct (Oct (Oct (Option ABlk)))))->Oct (Oct (Oct (Oct (Option ABlk)))) :=
 Dg.rec (motive:=fun _=>Oct (Oct (Oct (Oct (Oct (Option ABlk)))))->Oct (Oct (Oct (Oct (Option ABlk))))) (fun r=>r.a) (fun r=>r.b) (fun r=>r.c) (fun r=>r.d) (fun r=>r.e) (fun r=>r.f) (fun r=>r.g) (fun r=>r.h) d
def p5B (d:Dg):Oct (Oct (Oct (Oct (Option ABlk))))->Oct (Oct (Oct (Oct (Oct (Option ABlk)))))->Oct (Oct (Oct (Oct (Oct (Option ABlk))))) :=
 Dg.rec (motive:=fun _=>Oct (Oct (Oct (Oct (Option ABlk))))->Oct (Oct (Oct (Oct (Oct (Option ABlk)))))->Oct (Oct (Oct (Oct (Oct (Option ABlk)))))) (fun x r=>Oct.rec (motive:=fun _=>Oct (Oct (Oct (Oct (Oct (Option ABlk)))))) (fun p q s t u v w y=>Oct.rec (motive:=fun _=>Oct (Oct (Oct (Oct (Oct (Option ABlk)))))) (fun a b c d e f g h=>⟨⟨p,q,s,t,u,v,w,y⟩,b,c,d,e,f,g,h⟩) r) x) (fun x r=>Oct.rec (motive:=fun _=>Oct (Oct (Oct (Oct (Oct (Option ABlk)))))) (fun p q s t u v w y=>Oct.rec (motive:=fun _=>Oct (Oct (Oct (Oct (Oct (Option ABlk)))))) (fun a b c d e f g h=>⟨a,⟨p,q,s,t,u,v,w,y⟩,c,d,e,f,g,h⟩) r) x) (fun x r=>Oct.rec (motive:=fun _=>Oct (Oct (Oct (Oct (Oct (Option ABlk)))))) (fun p q s t u v w y=>Oct.rec (motive:=fun _=>Oct (Oct (Oct (Oct (Oct (Option ABlk)))))) (fun a b c d e f g h=>⟨a,b,⟨p,q,s,t,u,v,w,y⟩,d,e,f,g,h⟩) r) x) (fun x r=>Oct.rec (motive:=fun _=>Oct (Oct (Oct (Oct (Oct (Option ABlk)))))) (fun p q s t u v w y=>Oct.rec (motive:=fun _=>Oct (Oct (Oct (Oct (Oct (Option ABlk)))))) (fun a b c d e f g h=>⟨a,b,c,⟨p,q,s,t,u,v,w,y⟩,e,f,g,h⟩) r) x) (fun x r=>Oct.rec (motive:=fun _=>Oct (Oct (Oct (Oct (Oct (Option ABlk)))))) (fun p q s t u v w y=>Oct.rec (motive:=fun _=>Oct (Oct (Oct (Oct (Oct (Option ABlk)))))) (fun a b c d e f g h=>⟨a,b,c,d,⟨p,q,s,t,u,v,w,y⟩,f,g,h⟩) r) x) (fun x r=>Oct.rec (motive:=fun _=>Oct (Oct (Oct (Oct (Oct (Option ABlk)))))) (fun p q s t u v w y=>Oct.rec (motive:=fun _=>Oct (Oct (Oct (Oct (Oct (Option ABlk)))))) (fun a b c d e f g h=>⟨a,b,c,d,e,⟨p,q,s,t,u,v,w,y⟩,g,h⟩) r) x) (fun x r=>Oct.rec (motive:=fun _=>Oct (Oct (Oct (Oct (Oct (Option ABlk)))))) (fun p q s t u v w y=>Oct.rec (motive:=fun _=>Oct (Oct (Oct (Oct (Oct (Option ABlk)))))) (fun a b c d e f g h=>⟨a,b,c,d,e,f,⟨p,q,s,t,u,v,w,y⟩,h⟩) r) x) (fun x r=>Oct.rec (motive:=fun _=>Oct (Oct (Oct (Oct (Oct (Option ABlk)))))) (fun p q s t u v w y=>Oct.rec (motive:=fun _=>Oct (Oct (Oct (Oct (Oct (Option ABlk)))))) (fun a b c d e f g h=>⟨a,b,c,d,e,f,g,⟨p,q,s,t,u,v,w,y⟩⟩) r) x) d
def g6B (d:Dg):Oct (Oct (Oct (Oct (Oct (Oct (Option ABlk))))))->Oct (Oct (Oct (Oct (Oct (Option ABlk))))) :=
 Dg.rec (motive:=fun _=>Oct (Oct (Oct (Oct (Oct (Oct (Option ABlk))))))->Oct (Oct (Oct (Oct (Oct (Option ABlk)))))) (fun r=>r.a) (fun r=>r.b) (fun r=>r.c) (fun r=>r.d) (fun r=>r.e) (fun r=>r.f) (fun r=>r.g) (fun r=>r.h) d
def p6B (d:Dg):Oct (Oct (Oct (Oct (Oct (Option ABlk)))))->Oct (Oct (Oct (Oct (Oct (Oct (Option ABlk))))))->Oct (Oct (Oct (Oct (Oct (Oct (Option ABlk)))))) :=
 Dg.rec (motive:=fun _=>Oct (Oct (Oct (Oct (Oct (Option ABlk)))))->Oct (Oct (Oct (Oct (Oct (Oct (Option ABlk))))))->Oct (Oct (Oct (Oct (Oct (Oct (Option ABlk))))))) (fun x r=>Oct.rec (motive:=fun _=>Oct (Oct (Oct (Oct (Oct (Oct (Option ABlk))))))) (fun p q s t u v w y=>Oct.rec (motive:=fun _=>Oct (Oct (Oct (Oct (Oct (Oct (Option ABlk))))))) (fun a b c d e f g h=>⟨⟨p,q,s,t,u,v,w,y⟩,b,c,d,e,f,g,h⟩) r) x) (fun x r=>Oct.rec (motive:=fun _=>Oct (Oct (Oct (Oct (Oct (Oct (Option ABlk))))))) (fun p q s t u v w y=>Oct.rec (motive:=fun _=>Oct (Oct (Oct (Oct (Oct (Oct (Option ABlk))))))) (fun a b c d e f g h=>⟨a,⟨p,q,s,t,u,v,w,y⟩,c,d,e,f,g,h⟩) r) x) (fun x r=>Oct.rec (motive:=fun _=>Oct (Oct (Oct (Oct (Oct (Oct (Option ABlk))))))) (fun p q s t u v w y=>Oct.rec (motive:=fun _=>Oct (Oct (Oct (Oct (Oct (Oct (Option ABlk))))))) (fun a b c d e f g h=>⟨a,b,⟨p,q,s,t,u,v,w,y⟩,d,e,f,g,h⟩) r) x) (fun x r=>Oct.rec (motive:=fun _=>Oct (Oct (Oct (Oct (Oct (Oct (Option ABlk))))))) (fun p q s t u v w y=>Oct.rec (motive:=fun _=>Oct (Oct (Oct (Oct (Oct (Oct (Option ABlk))))))) (fun a b c d e f g h=>⟨a,b,c,⟨p,q,s,t,u,v,w,y⟩,e,f,g,h⟩) r) x) (fun x r=>Oct.rec (motive:=fun _=>Oct (Oct (Oct (Oct (Oct (Oct (Option ABlk))))))) (fun p q s t u v w y=>Oct.rec (motive:=fun _=>Oct (Oct (Oct (Oct (Oct (Oct (Option ABlk))))))) (fun a b c d e f g h=>⟨a,b,c,d,⟨p,q,s,t,u,v,w,y⟩,f,g,h⟩) r) x) (fun x r=>Oct.rec (motive:=fun _=>Oct (Oct (Oct (Oct (Oct (Oct (Option ABlk))))))) (fun p q s t u v w y=>Oct.rec (motive:=fun _=>Oct (Oct (Oct (Oct (Oct (Oct (Option ABlk))))))) (fun a b c d e f g h=>⟨a,b,c,d,e,⟨p,q,s,t,u,v,w,y⟩,g,h⟩) r) x) (fun x r=>Oct.rec (motive:=fun _=>Oct (Oct (Oct (Oct (Oct (Oct (Option ABlk))))))) (fun p q s t u v w y=>Oct.rec (motive:=fun _=>Oct (Oct (Oct (Oct (Oct (Oct (Option ABlk))))))) (fun a b c d e f g h=>⟨a,b,c,d,e,f,⟨p,q,s,t,u,v,w,y⟩,h⟩) r) x) (fun x r=>Oct.rec (motive:=fun _=>Oct (Oct (Oct (Oct (Oct (Oct (Option ABlk))))))) (fun p q s t u v w y=>Oct.rec (motive:=fun _=>Oct (Oct (Oct (Oct (Oct (Oct (Option ABlk))))))) (fun a b c d e f g h=>⟨a,b,c,d,e,f,g,⟨p,q,s,t,u,v,w,y⟩⟩) r) x) d
def ofLoA (mid:Oct (Oct (Oct (Oct (Oct (Oct (Option AV))))))) (big:List (Nat×AV)) (lo:Oct (Oct (Option AV))):Tr AV :=
 Oct.rec (motive:=fun _=>Tr AV) (fun a b c d e f g h=>⟨⟨a,b,c,d,e,f,g,h⟩,mid,big⟩) lo
def zsl1 (x y:Dg) (t:Tr AV):Option AV:=g1A y (g2A x t.lo)
def setLoA (x y:Dg) (v:AV) (t:Tr AV):Tr AV :=
 Tr.rec (motive:=fun _=>Tr AV) (fun lo mid big=>ofLoA mid big (p2A x (p1A y (some v) (g2A x lo)) lo)) t
def ofLoB (mid:Oct (Oct (Oct (Oct (Oct (Oct (Option ABlk))))))) (big:List (Nat×ABlk)) (lo:Oct (Oct (Option ABlk))):Tr ABlk :=
 Oct.rec (motive:=fun _=>Tr ABlk) (fun a b c d e f g h=>⟨⟨a,b,c,d,e,f,g,h⟩,mid,big⟩) lo
def ofMidB (lo:Oct (Oct (Option ABlk))) (big:List (Nat×ABlk)) (mid:Oct (Oct (Oct (Oct (Oct (Oct (Option ABlk))))))):Tr ABlk :=
 Oct.rec (motive:=fun _=>Tr ABlk) (fun a b c d e f g h=>⟨lo,⟨a,b,c,d,e,f,g,h⟩,big⟩) mid
def getLoB (x y:Dg) (t:Tr ABlk):Option ABlk:=g1B y (g2B x t.lo)
def getMidB (u v w x y z:Dg) (t:Tr ABlk):Option ABlk:=g1B z (g2B y (g3B x (g4B w (g5B v (g6B u t.mid)))))
def setLoB (x y:Dg) (v:ABlk) (t:Tr ABlk):Tr ABlk :=
 Tr.rec (motive:=fun _=>Tr ABlk) (fun lo mid big=>ofLoB mid big (p2B x (p1B y (some v) (g2B x lo)) lo)) t
def setM1 (z:Dg) (a:ABlk) (m:Oct (Option ABlk)):Oct (Option ABlk):=p1B z (some a) m
def setM2 (y z:Dg) (a:ABlk) (m:Oct (Oct (Option ABlk))):Oct (Oct (Option ABlk)):=p2B y (setM1 z a (g2B y m)) m
def setM3 (x y z:Dg) (a:ABlk) (m:Oct (Oct (Oct (Option ABlk)))):Oct (Oct (Oct (Option ABlk))):=p3B x (setM2 y z a (g3B x m)) m
def setM4 (w x y z:Dg) (a:ABlk) (m:Oct (Oct (Oct (Oct (Option ABlk))))):Oct (Oct (Oct (Oct (Option ABlk)))):=p4B w (setM3 x y z a (g4B w m)) m
def setM5 (v w x y z:Dg) (a:ABlk) (m:Oct (Oct (Oct (Oct (Oct (Option ABlk)))))):Oct (Oct (Oct (Oct (Oct (Option ABlk))))):=p5B v (setM4 w x y z a (g5B v m)) m
def setM6 (u v w x y z:Dg) (a:ABlk) (m:Oct (Oct (Oct (Oct (Oct (Oct (Option ABlk))))))):Oct (Oct (Oct (Oct (Oct (Oct (Option ABlk)))))):=p6B u (setM5 v w x y z a (g6B u m)) m
def setMidB (u v w x y z:Dg) (a:ABlk) (t:Tr ABlk):Tr ABlk :=
 Tr.rec (motive:=fun _=>Tr ABlk) (fun lo mid big=>ofMidB lo big (setM6 u v w x y z a mid)) t
def getB (t:Tr ABlk) (k:Nat):Option ABlk :=
 brec (brec (Tr.getBig k t.big)
  (getMidB (dg (Nat.div k 32768)) (dg (Nat.mod (Nat.div k 4096) 8)) (dg (Nat.mod (Nat.div k 512) 8)) (dg (Nat.mod (Nat.div k 64) 8)) (dg (Nat.mod (Nat.div k 8) 8)) (dg (Nat.mod k 8)) t) (Nat.blt k 262144))
  (getLoB (dg (Nat.div k 8)) (dg (Nat.mod k 8)) t) (Nat.blt k 64)
def setB (t:Tr ABlk) (k:Nat) (x:ABlk):Tr ABlk :=
 brec (brec (Tr.setBig k x t)
  (setMidB (dg (Nat.div k 32768)) (dg (Nat.mod (Nat.div k 4096) 8)) (dg (Nat.mod (Nat.div k 512) 8)) (dg (Nat.mod (Nat.div k 64) 8)) (dg (Nat.mod (Nat.div k 8) 8)) (dg (Nat.mod k 8)) x t) (Nat.blt k 262144))
  (setLoB (dg (Nat.div k 8)) (dg (Nat.mod k 8)) x t) (Nat.blt k 64)
inductive S2 where
 |lo (x y:Dg)
 |hi (k:Nat)
inductive O2 where
 |lo (x y:Dg)
 |hi (k:Nat)
 |con (v:AV)
def dflt (o:Option AV):AV:=orec AV.undef (fun v=>v) o
def sOf (k:Nat):S2:=brec (.hi k) (.lo (dg (Nat.div k 8)) (dg (Nat.mod k 8))) (Nat.blt k 64)
def S2.get (s:S2):Tr AV->Option AV:=S2.rec (motive:=fun _=>Tr AV->Option AV) (fun x y T=>zsl1 x y T) (fun k T=>T.get k) s
def S2.set (s:S2):AV->Tr AV->Tr AV:=S2.rec (motive:=fun _=>AV->Tr AV->Tr AV) (fun x y v T=>setLoA x y v T) (fun k v T=>T.set k v) s
def O2.ev (o:O2):Tr AV->AV:=O2.rec (motive:=fun _=>Tr AV->AV) (fun x y T=>dflt (zsl1 x y T)) (fun k T=>dflt (T.get k)) (fun v _=>v) o
def opd (o:Operand):Option O2 :=
 match o with
 | .tmp t=>some (brec (.hi t) (.lo (dg (Nat.div t 8)) (dg (Nat.mod t 8))) (Nat.blt t 64))
 | .const v=>orec none (fun v=>some (.con v)) (ofValue v)
 | .global g=>some (.con (.ext 2 g 0))
 | .func f=>some (.con (.fn (.func f) [] []))
theorem zvl (k:Nat) (T:Tr AV):(sOf k).get T=T.get k:=by
 unfold sOf;by_cases h:k<64
 ·rw [Tr.blt_t h,Tr.get_lo _ h];rfl
 ·rw [Tr.blt_f h];rfl
theorem zny (k:Nat) (v:AV) (T:Tr AV):(sOf k).set v T=T.set k v:=by
 unfold sOf;by_cases h:k<64
 ·rw [Tr.blt_t h,Tr.set_lo _ _ h];rfl
 ·rw [Tr.blt_f h];rfl
theorem zoa (T:Tr AV) (o:Operand):opnd T o=(match opd o with|some x=>some (x.ev T)|none=>none):=by
 cases o with
 |tmp t =>
  show (match T.get t with|some v=>some v|none=>some AV.undef)=some (O2.ev (brec _ _ (Nat.blt t 64)) T)
  by_cases h:t<64
  ·rw [Tr.blt_t h]
   show _=some (dflt (Tr.getLo (dg (t / 8)) (dg (t%8)) T))
   rw [← Tr.get_lo _ h];cases T.get t<;>rfl
  ·rw [Tr.blt_f h]
   show _=some (dflt (T.get t))
   cases T.get t<;>rfl
 |const v =>
  show ofValue v=match orec none (fun v=>some (O2.con v)) (ofValue v) with|some x=>some (x.ev T)|none=>none
  cases ofValue v<;>rfl
 |global g=>rfl
 |func f=>rfl
def hGet (H:AH) (i:Nat):Option ABlk:=lrec (β:=Option ABlk) (getB H.tree i) (fun _ _ _=>H.get i) H.hide
theorem zlk (H:AH) (i:Nat):hGet H i=H.get i:=by
 unfold hGet;cases h:H.hide with
 |nil=>show H.tree.get i=_;unfold AH.get AH.vis;rw [h];rfl
 |cons r l=>rfl
def blkC (n:Option Ce) (f:Ce->Option Ce) (b:ABlk):Option Ce :=
 ABlk.rec (motive:=fun _=>Option Ce->(Ce->Option Ce)->Option Ce) (fun vs _ _ _ _ _ f=>f vs) (fun _ _ n _=>n) (fun _ _ _ _ _ _ _ n _=>n) (fun n _=>n) (fun _ _ _ _ n _=>n) (fun _ _ n _=>n) (fun _ _ n _=>n) b n f
def blkA (n:Option AV) (f:Ce->TypeId->Nat->Bool->Bool->Option AV) (b:ABlk):Option AV :=
 ABlk.rec (motive:=fun _=>Option AV->(Ce->TypeId->Nat->Bool->Bool->Option AV)->Option AV) (fun vs e z op ro _ f=>f vs e z op ro) (fun _ _ n _=>n) (fun _ _ _ _ _ _ _ n _=>n) (fun n _=>n) (fun _ _ _ _ n _=>n) (fun _ _ n _=>n) (fun _ _ n _=>n) b n f
def blkH (n:Option AH) (f:Ce->TypeId->Nat->Bool->Bool->Option AH) (b:ABlk):Option AH :=
 ABlk.rec (motive:=fun _=>Option AH->(Ce->TypeId->Nat->Bool->Bool->Option AH)->Option AH) (fun vs e z op ro _ f=>f vs e z op ro) (fun _ _ n _=>n) (fun _ _ _ _ _ _ _ n _=>n) (fun n _=>n) (fun _ _ _ _ n _=>n) (fun _ _ n _=>n) (fun _ _ n _=>n) b n f
def hPut (H:AH) (i:Nat) (b:ABlk):AH:=AH.rec (motive:=fun _=>AH) (fun tree next lo hide fz=>⟨setB tree i b,next,lo,hide,fz⟩) H
theorem zdp (H:AH) (i:Nat) (b:ABlk):hPut H i b=H.put i b:=by cases H;rfl
def ztl1 {β:Type}(f:Nat->β) (n:Nat):β:=Nat.rec (motive:=fun _=>β) (f 0) (fun p _=>f (Nat.succ p)) n
theorem znd1 {β:Type}(f:Nat->β) (n:Nat):ztl1 f n=f n:=by cases n<;>rfl
def hNew (b:ABlk) (K:Nat->AH->Option (AV×AH)) (H:AH):Option (AV×AH) :=
 AH.rec (motive:=fun _=>Option (AV×AH)) (fun tree next lo hide fz=>ztl1 (fun n=>K n ⟨setB tree n b,Nat.succ n,lo,hide,fz⟩) next) H
theorem zzi (b:ABlk) (K:Nat->AH->Option (AV×AH)) (H:AH):hNew b K H=K H.next (H.new b):=by
 cases H;unfold hNew;show ztl1 _ _=_;rw [znd1];rfl
def nthF {α:Type}(l:List α):Nat->Option α :=
 lrec (β:=Nat->Option α) (fun _=>none) (fun a _ ih i=>zrec (some a) (fun j=>ih j) i) l
theorem zlh1 {α:Type}(l:List α):∀i,nthF l i=nth l i:=by
 induction l with
 |nil=>intro i;rfl
 |cons a l ih=>intro i;cases i with|zero=>rfl|succ j=>exact ih j
def zod1 {α:Type}(l:List α):Nat->α->Option (List α) :=
 lrec (β:=Nat->α->Option (List α)) (fun _ _=>none) (fun a l ih i v=>zrec (some (v::l)) (fun j=>orec none (fun l'=>some (a::l')) (ih j v)) i) l
theorem zpd1 {α:Type}(l:List α) (v:α):∀i,zod1 l i v=zod [v] l i:=by
 induction l with
 |nil=>intro i;cases i<;>rfl
 |cons a l ih =>
  intro i;cases i with
  |zero=>rfl
  |succ j =>
   show orec none (fun l'=>some (a::l')) (zod1 l j v)=(match zod [v] l j with|some l'=>some (a::l')|none=>none)
   rw [ih];cases zod [v] l j<;>rfl
def ceRec {β:Type}(f:List AV->β) (g:Nat->Nat->β) (c:Ce):β:=Ce.rec (motive:=fun _=>β) f g c
def ceGet (o:Nat) (c:Ce):Option AV:=ceRec (fun l=>nthF l o) (fun n N=>brec none (some (.int .u8 (.ofNat (Ce.byteAt N o)))) (Nat.blt o n)) c
theorem zul1 (o:Nat) (c:Ce):ceGet o c=nth c.l o:=by
 rw [zug,← Ce.get_l];cases c with
 |lst l=>exact zlh1 l o
 |byt n N=>rfl
def zvl1 (H:AH) (i o:Nat):Option AV:=orec none (fun b=>blkA none (fun vs _ _ _ _=>ceGet o vs) b) (hGet H i)
theorem zjs (H:AH) (i o:Nat):zvl1 H i o=H.read1 i o:=by
 unfold zvl1 AH.read1 AH.row;rw [zlk];cases H.get i with
 |none=>rfl
 |some b=>cases b<;>first|rfl|exact zul1 _ _
def ceSet (o:Nat) (v:AV) (c:Ce):Option Ce:=ceRec (fun l=>orec none (fun l'=>some (.lst l')) (zod1 l o v)) (fun m N=>Ce.over (Ce.of [v]) (.byt m N) o) c
theorem zwl1 (o:Nat) (v:AV) (c:Ce):ceSet o v c=Ce.over (Ce.of [v]) c o:=by
 cases c with
 |lst l =>
  show orec none (fun l'=>some (Ce.lst l')) (zod1 l o v)=Ce.overL (Ce.of [v]).l l o
  rw [zpd1,Ce.of_l];unfold Ce.overL;cases zod [v] l o<;>rfl
 |byt m N=>rfl
def zks (H:AH) (i o:Nat) (v:AV):Option AH :=
 brec none (orec none (fun b=>blkH none (fun vs e z op ro=>brec (avOne none (orec none (fun vs'=>some (hPut H i (.cells vs' e z op ro))) (ceSet o v vs)) v) none ro) b) (hGet H i)) (Nat.ble H.lo i)
theorem zep (v:AV):(Ce.of [v]).one=AV.oneCell v:=by
 unfold Ce.of;cases h:Ce.pack [v] with
 |none=>show [v].all AV.oneCell=_;simp
 |some N =>
  have:=Ce.pack_some [v] N h;show true=_
  simp only [ql2,qt5,qy1] at this;have h2:v= .int .u8 (.ofNat (N%256)):=by
   have h3:bytesL 1 N= [AV.int .u8 (.ofNat (N%256))]:=rfl;rw [h3] at this
   simpa using this.symm
  rw [h2];rfl
theorem zoy (H:AH) (i o:Nat) (v:AV):zks H i o v=H.write i o [v]:=by
 unfold zks AH.write AH.writeC;rw [zlk];cases Nat.ble H.lo i with
 |false=>rfl
 |true =>
  show orec none _ (H.get i)=_
  cases H.get i with
  |none=>rfl
  |some b =>
   cases b with
   |cells vs e z op ro =>
    cases ro with
    |true=>rfl
    |false =>
     show avOne none (orec none _ (ceSet o v vs)) v=_
     simp only [zep];rw [zwl1];simp only [zdp];cases v<;>(simp only [AV.oneCell]<;>first|rfl|(cases Ce.over _ vs o<;>rfl))
   |_=>rfl
def subCF (H:AH) (i o n:Nat):Option Ce:=orec none (fun b=>blkC none (fun vs=>vs.sub o n) b) (hGet H i)
theorem zif (H:AH) (i o n:Nat):subCF H i o n=H.subC i o n:=by
 unfold subCF AH.subC;rw [zlk];cases H.get i with
 |none=>rfl
 |some b=>cases b<;>rfl
def zpe (H:AH) (i o:Nat) (xs:Ce):Option AH :=
 brec none (orec none (fun b=>blkH none (fun vs e z op ro=>brec (brec none (orec none (fun vs'=>some (hPut H i (.cells vs' e z op ro))) (Ce.over xs vs o)) xs.one) none ro) b) (hGet H i)) (Nat.ble H.lo i)
theorem zad (H:AH) (i o:Nat) (xs:Ce):zpe H i o xs=H.writeC i o xs:=by
 unfold zpe AH.writeC;rw [zlk];cases Nat.ble H.lo i with
 |false=>rfl
 |true =>
  show orec none _ (H.get i)=_
  cases H.get i with
  |none=>rfl
  |some b =>
   cases b with
   |cells vs e z op ro =>
    cases ro with
    |true=>rfl
    |false =>
     show brec none (orec none _ (Ce.over xs vs o)) xs.one=_
     simp only [zdp];cases xs.one with
     |false=>rfl
     |true=>simp only [zhm];cases Ce.over xs vs o<;>rfl
   |_=>rfl
def ld1 (a:AV) (H:AH):Option AV:=avPX none (fun i o=>zvl1 H i o) (fun k g o=>ldG k g o H) a
def ceV (c:Ce):AV:=ceRec (fun l=>.agg l) (fun n N=>.bag n N) c
theorem zxl1 (c:Ce):ceV c=c.toV:=by cases c<;>rfl
def ldN (s:Nat) (a:AV) (H:AH):Option AV:=avPtr none (fun i o=>orec none (fun c=>some (ceV c)) (subCF H i o s)) a
theorem ld1_eq {L:Lk}{t:TypeId}(h:L.isAgg t=some false) (a:AV) (H:AH):ld1 a H=zwe L t a H:=by
 cases a<;>try rfl
 ·next i o =>
  show _=zub L t (.ptr i o) H
  unfold zub;rw [h];exact zjs _ _ _
 ·unfold zwe;rw [h];rfl
theorem ldN_eq {L:Lk}{t:TypeId}{s:Nat}(h:L.isAgg t=some true) (hs:L.size t=some s) (a:AV) (H:AH):ldN s a H=zwe L t a H:=by
 cases a<;>try rfl
 ·next i o =>
  show _=zub L t (.ptr i o) H
  unfold zub;rw [h,hs];show orec none (fun c=>some (ceV c)) (subCF H i o s)=_
  rw [zif];simp only;cases AH.subC H i o s with
  |none=>rfl
  |some c=>show some (ceV c)=some c.toV;rw [zxl1]
 ·unfold zwe;rw [h];rfl
def stN (s:Nat) (a v:AV) (H:AH):Option AH:=avPtrH none (fun i o=>brec none (zpe H i o v.toC) (Nat.beq v.toC.len s)) a
theorem stN_eq {L:Lk}{t:TypeId}{s:Nat}(hs:L.size t=some s) (a v:AV) (H:AH):stN s a v H=zed L t a v H:=by
 cases a<;>try rfl
 next i o =>
 unfold zed;rw [hs];show brec none (zpe H i o v.toC) (Nat.beq v.toC.len s)=_
 rw [zad];simp only;cases Nat.beq v.toC.len s<;>rfl
def st1 (L:Lk) (t:TypeId) (a v:AV) (H:AH):Option AH:=avPtrH none (fun i o=>avOne (zed L t a v H) (zks H i o v) v) a
theorem zyl1 {L:Lk}{t:TypeId}(hs:L.size t=some 1) (a v:AV) (H:AH):st1 L t a v H=zed L t a v H:=by
 cases a<;>try rfl
 next i o =>
 have hl:∀v:AV,v.cells= [v]->v.toC=Ce.of v.cells->zks H i o v=zed L t (.ptr i o) v H:=fun v hc hC=>by
  unfold zed;rw [hs];simp only;rw [hC,hc,zoy];have:Nat.beq (Ce.of [v]).len 1=true:=by rw [Ce.len_l,Ce.of_l];rfl
  rw [this];rfl
 cases v<;>first
  |rfl
  |exact hl _ rfl rfl
def ixS (z:Nat) (x ix:AV):Option AV :=
 avSl none (fun i o n _ _=>avInt none (fun _ j=>irec (fun j=>brec none (some (.ptr i (Nat.add o (Nat.mul j z)))) (Nat.blt j n)) (fun _=>none) j) ix) x
def ixA (n z:Nat) (x ix:AV):Option AV :=
 avPtr none (fun i o=>avInt none (fun _ j=>irec (fun j=>brec none (some (.ptr i (Nat.add o (Nat.mul j z)))) (Nat.blt j n)) (fun _=>none) j) ix) x
theorem ixS_eq {L:Lk}{t e:TypeId}{z:Nat}(ht:L.under t=some (.slice e)) (hz:L.size e=some z) (x ix:AV):ixS z x ix=zfb L t x ix:=by
 unfold zfb;rw [ht];cases ix with
 |int k n =>
  cases n with
  |ofNat j =>
   cases x<;>try rfl
   next i o len c op =>
   simp only [natOf,hz];show brec none (some (AV.ptr i (o+j*z))) (Nat.blt j len)=_
   cases Nat.blt j len<;>rfl
  |negSucc j=>cases x<;>rfl
 |_=>cases x<;>rfl
theorem ixA_eq {L:Lk}{t e:TypeId}{n z:Nat}(ht:L.under t=some (.array n e)) (hz:L.size e=some z) (x ix:AV):ixA n z x ix=zfb L t x ix:=by
 unfold zfb;rw [ht];cases ix with
 |int k m =>
  cases m with
  |ofNat j =>
   cases x<;>try rfl
   next i o =>
   simp only [natOf,hz];show brec none (some (AV.ptr i (o+j*z))) (Nat.blt j n)=_
   cases Nat.blt j n<;>rfl
  |negSucc j=>cases x<;>rfl
 |_=>cases x<;>rfl
def fa (off:Nat) (x:AV):Option AV:=avPtr none (fun i o=>some (.ptr i (Nat.add o off))) x
theorem fa_eq {L:Lk}{s:TypeId}{f:Nat}{fields:Array Field}{fd:Field}{z:Nat}(hs:L.under s=some (.struct fields)) (hf:nth fields.toList f=some fd) (hz:L.size fd.type=some z) (h0:Nat.beq z 0=false) (x:AV) :
  fa fd.offset x=zpb L s x f:=by
 cases x<;>try rfl
 unfold zpb;simp only [hs,hf,hz,h0];rfl
def alF (z:Ce) (e s:Nat) (H:AH):Option (AV×AH):=hNew (.cells z e s false false) (fun n H'=>some (.ptr n 0,H')) H
theorem zqd1 (z:Ce) (e s:Nat) (H:AH):alF z e s H=some (.ptr H.next 0,H.new (.cells z e s false false)):=by unfold alF;rw [zzi]
def cvI (k:IntKind) (x:AV):Option AV:=avInt none (fun _ n=>some (.int k (fw k n))) x
def exN (ix:Nat) (x:AV):Option AV :=
 @AV.rec (fun _=>Option AV) (fun _=>Unit) (fun _=>none) (fun _ _=>none) (fun _=>none) none (fun _ _=>none) none (fun _ _ _ _ _=>none) none (fun _=>none) (fun _ _ _ _ _=>none) (fun _=>none) none (fun _ _ _=>none) none (fun _ _=>none) (fun vs _=>nthF vs ix) (fun _ _=>none) (fun _ _ _=>none) () (fun _ _ _ _=>()) x
def notF (x:AV):Option AV:=zpl1 none (fun b=>some (.bool (brec true false b))) x
def srcF (z:Nat) (x:AV) (n:Nat) (H:AH):Option Ce :=
 match x with
 | .sl i o _ _ _=>subCF H i o (Nat.mul n z)
 |x=>zib z x n H
theorem zls (z:Nat) (x:AV) (n:Nat) (H:AH):srcF z x n H=zib z x n H:=by
 cases x<;>first|rfl|exact zif _ _ _ _
def slNew (l:Nat) (b:ABlk) (H:AH):Option (AV×AH):=hNew b (fun n H'=>some (.sl n 0 l l true,H')) H
theorem zjf (l:Nat) (b:ABlk) (H:AH):slNew l b H=some (.sl H.next 0 l l true,H.new b):=zzi _ _ _
def appD (e z:Nat) (i o l c n:Nat) (old new:Ce) (H:AH) (vs:Ce) (e' z':Nat) (op' ro:Bool):Option (AV×AH) :=
 match Nat.beq e e' && Nat.beq z z' && op' && !ro && Nat.beq vs.len (Nat.add o (Nat.mul c z)) with
 |true=>slNew (Nat.add l n) (.cells (Ce.app old new) e z true false) (hPut H i .defd)
 |false=>none
def appO (e z:Nat) (i o l c n:Nat) (old new:Ce) (H:AH):Option (AV×AH) :=
 match Nat.ble H.lo i,hGet H i with
 |true,some (.cells vs e' z' op' ro)=>appD e z i o l c n old new H vs e' z' op' ro
 |_,_=>none
def appG (e z b:Nat) (i o l c:Nat) (op:Bool) (n:Nat) (new:Ce) (H:AH):Option (AV×AH) :=
 match Nat.ble (Nat.mul (Nat.add l n) b) 140737488355328 && Nat.ble (Nat.add l n) 9223372036854775807 with
 |false=>none
 |true=>orec none (fun old=>brec (slNew (Nat.add l n) (.cells (Ce.app old new) e z true false) H) (appO e z i o l c n old new H) op) (subCF H i o (Nat.mul l z))
def appN (e z b n:Nat) (new:Ce) (H:AH):Option (AV×AH) :=
 brec (match Nat.ble (Nat.mul n b) 140737488355328 && Nat.ble n 9223372036854775807 with
  |false=>none
  |true=>slNew n (.cells new e z true false) H) (some (.nilSl,H)) (Nat.beq n 0)
def appS (e z b n:Nat) (new:Ce) (s:AV) (H:AH):Option (AV×AH) :=
 match s with
 | .nilSl=>appN e z b n new H
 | .sl i o l c op=>brec (appG e z b i o l c op n new H) (orec none (fun H'=>some (.sl i o (Nat.add l n) c op,H')) (zpe H i (Nat.add o (Nat.mul l z)) new)) (Nat.ble (Nat.add l n) c)
 |_=>none
def appF (e z b:Nat) (s x:AV) (H:AH):Option (AV×AH) :=
 orec none (fun n=>orec none (fun new=>brec none (appS e z b n new s H) new.one) (srcF z x n H)) (lenOf x)
theorem zmh1 {L:Lk}{t e z b:Nat}{zv:AV}(h1:L.under t=some (.slice e)) (h2:L.size e=some z) (h3:L.bytes e=some b) (h4:L.zero e=some zv) (h5:(Nat.beq z 0 || !Nat.beq (len zv.cells) z)=false) (s x:AV) (H:AH) :
  appF e z b s x H=zxc L t s x H:=by
 unfold appF zxc znl;rw [h1];simp only [h2,h3,h4];cases lenOf x with
 |none=>rfl
 |some n =>
  show orec none _ (srcF z x n H)=_
  rw [zls];simp only;cases zib z x n H with
  |none=>rfl
  |some new =>
   show brec none (appS e z b n new s H) new.one=_
   simp only;cases new.one with
   |false=>rfl
   |true =>
    simp only [h5,zhm];cases s with
    |nilSl =>
     show appN e z b n new H=_
     unfold appN;simp only;cases Nat.beq n 0 with
     |true=>rfl
     |false =>
      show (match Nat.ble (n*b) 140737488355328 && Nat.ble n 9223372036854775807 with|false=>none|true=>slNew n (.cells new e z true false) H)=_
      simp only;cases Nat.ble (n*b) 140737488355328 && Nat.ble n 9223372036854775807 with
      |false=>rfl
      |true=>simp only [zjf]
    |sl i o l c op =>
     show brec (appG e z b i o l c op n new H) (orec none (fun H'=>some (AV.sl i o (l+n) c op,H')) (zpe H i (o+l*z) new)) (Nat.ble (l+n) c)=_
     simp only;cases Nat.ble (l+n) c with
     |true =>
      simp only [zhm];rw [zad];cases H.writeC i (o+l*z) new<;>rfl
     |false =>
      simp only [zcc1];show (match Nat.ble ((l+n)*b) 140737488355328 && Nat.ble (l+n) 9223372036854775807 with
       |false=>none
       |true=>orec none (fun old=>brec (slNew (l+n) (.cells (Ce.app old new) e z true false) H) (appO e z i o l c n old new H) op) (subCF H i o (l*z)))=_
      rw [zif];cases Nat.ble ((l+n)*b) 140737488355328 && Nat.ble (l+n) 9223372036854775807 with
      |false=>cases H.subC i o (l*z)<;>rfl
      |true =>
       cases H.subC i o (l*z) with
       |none=>rfl
       |some old =>
        show brec (slNew (l+n) (.cells (Ce.app old new) e z true false) H) (appO e z i o l c n old new H) op=_
        cases op with
        |false=>exact zjf _ _ _
        |true =>
         show appO e z i o l c n old new H=_
         unfold appO;rw [zlk];simp only;cases Nat.ble H.lo i with
         |false=>rfl
         |true =>
          cases H.get i with
          |none=>rfl
          |some bk =>
           cases bk with
           |cells vs e' z' op' ro =>
            show appD e z i o l c n old new H vs e' z' op' ro=_
            unfold appD;show (match Nat.beq e e' && Nat.beq z z' && op' && !ro && Nat.beq vs.len (o+c*z) with|true=>slNew (l+n) (.cells (Ce.app old new) e z true false) (hPut H i .defd)|false=>none)=_
            simp only;cases Nat.beq e e' && Nat.beq z z' && op' && !ro && Nat.beq vs.len (o+c*z) with
            |false=>rfl
            |true=>simp only [zjf,zdp];rfl
           |_=>rfl
    |_=>rfl
def hd (xs:List AV):AV:=lrec (β:=AV) .undef (fun a _ _=>a) xs
def tl (xs:List AV):List AV:=List.rec (motive:=fun _=>List AV) [] (fun _ l _=>l) xs
def fstO (r:Option (AV×AH)):Option AV:=orec none (fun p=>some p.1) r
def zda (b:Builtin):Lk->List TypeId->List AV->AH->Option (AV×AH) :=
 match b with
 | .len=>fun L ts args H=>(match ts,args with|t::_,x::_=>(match evLen L t x H with|some v=>some (v,H)|none=>none)|_,_=>none)
 | .cap=>fun L ts args H=>(match ts,args with|t::_,x::_=>(match evCap L t x with|some v=>some (v,H)|none=>none)|_,_=>none)
 | .append=>fun L ts args H=>(match ts,args with
  |t::t'::_,s::x::_=>(match L.under t' with
   |some (.slice _)=>zxc L t s x H
   |some .string=>zxc L t s x H
   |some (.int _)=>zle L t s x H
   |_=>none)
  |_,_=>none)
 | .copy=>fun L ts args H=>(match ts,args with|t::_,d::x::_=>zgo L t d x H|_,_=>none)
 | .min=>fun _ _ args H=>(match args with|x::l=>(match fold2 zuw l x with|some v=>some (v,H)|none=>none)| []=>none)
 | .max=>fun _ _ args H=>(match args with|x::l=>(match fold2 zvw l x with|some v=>some (v,H)|none=>none)| []=>none)
 | .clear=>fun L ts args H=>(match ts,args with|t::_,x::_=>(match zrj L t x H with|some H'=>some (.undef,H')|none=>none)|_,_=>none)
 | .delete=>fun L ts args H=>(match ts,args with|t::_,m::k::_=>(match zvf L t m k H with|some H'=>some (.undef,H')|none=>none)|_,_=>none)
 |_=>fun _ _ _ _=>none
theorem zwl (L:Lk) (b:Builtin) (ts:List TypeId) (args:List AV) (H:AH):zda b L ts args H=zqb L b ts args H:=by cases b<;>rfl
def zua (L:Lk) (t:TypeId) (lo hi mx:Bool) (xs:List AV):Option AV :=
 zgb L t (hd xs) (brec none (some (hd (tl xs))) lo) (brec none (some (hd (brec (tl xs) (tl (tl xs)) lo))) hi)
  (brec none (some (hd (brec (brec (tl xs) (tl (tl xs)) lo) (tl (brec (tl xs) (tl (tl xs)) lo)) hi))) mx)
def nilF (v:AV):Option AV:=match v with| .ptr i o=>some (.ptr i o)| .ifc t v=>some (.ifc t v)| .fn (.func f) a b=>some (.fn (.func f) a b)| .yld l=>some (.yld l)|_=>none
def bsF (s n:Nat) (z:AV) (e:Nat) (parts:List (Nat×AV)) (H:AH):Option (AV×AH) :=
 orec none (fun cs=>hNew (.cells (Ce.of cs) e s false false) (fun m H'=>some (.sl m 0 n n false,H')) H) (fillL (fun i=>some (Nat.mul i s,s)) parts (rep z.cells n))
theorem bsF_eq {L:Lk}{t e s n:Nat}{z:AV}(h1:L.under t=some (.slice e)) (h2:L.size e=some s) (h3:L.zero e=some z) (h4:(Nat.ble (n*s) 16777216 && Nat.beq (len z.cells) s)=true) (parts:List (Nat×AV)) (H:AH) :
  bsF s n z e parts H=ztb L t n parts H:=by
 unfold bsF ztb;rw [h1];simp only [h2,h3,h4];show orec none _ (fillL (fun i=>some (i*s,s)) parts (rep z.cells n))=_
 cases fillL (fun i=>some (i*s,s)) parts (rep z.cells n) with
 |none=>rfl
 |some cs=>exact zzi (.cells (Ce.of cs) e s false false) (fun m H'=>some (.sl m 0 n n false,H')) H
def zipF (ns:List Nat) (xs:List AV):List (Nat×AV):=ns.zip xs
inductive K2 where
 |done
 |fail
 |mv (x:O2) (d:Option S2) (k:K2)
 |p1 (f:AV->Option AV) (x:O2) (d:Option S2) (k:K2)
 |p2 (f:AV->AV->Option AV) (x y:O2) (d:Option S2) (k:K2)
 |r1 (f:AV->AH->Option AV) (x:O2) (d:Option S2) (k:K2)
 |al (w:Bool) (f:AH->Option (AV×AH)) (d:Option S2) (k:K2)
 |m1 (w:Bool) (f:AV->AH->Option (AV×AH)) (x:O2) (d:Option S2) (k:K2)
 |st (w:Bool) (f:AV->AV->AH->Option AH) (x y:O2) (d:Option S2) (k:K2)
 |cl (w:Bool) (f:FuncId) (xs:List O2) (d:Option S2) (k:K2)
 |ln (f:List AV->AH->Option AV) (xs:List O2) (d:Option S2) (k:K2)
 |hn (w:Bool) (f:List AV->AH->Option (AV×AH)) (xs:List O2) (d:Option S2) (k:K2)
 |ls (f:List AV->AH->Option AV) (xs:List O2) (o:Oper) (d:Option S2) (k:K2)
 |cn (w:Bool) (f:List AV->AH->Option Next1) (xs:List O2) (d:Option S2) (k:K2)
 |gl (o:Oper) (d:Option S2) (k:K2)
 |gh (w:Bool) (o:Oper) (d:Option S2) (k:K2)
 |ge (o:Oper) (d:Option S2) (k:K2)
 |gw (x:Ent) (pre:List Ent) (d:Option S2) (k:K2)
 |cw (rd:Option (List S2)) (f:FuncId) (xs:List O2) (d:Option S2) (k:K2)
 |sk (d:Option S2) (k:K2)
 |gd (s:S2) (want:Bool) (d:Option S2) (a b:K2)
def putS (d:Option S2):AV->Tr AV->Tr AV:=orec (β:=AV->Tr AV->Tr AV) (fun _ T=>T) (fun s v T=>s.set v T) d
theorem putS_eq (d:Option Tmp) (v:AV) (T:Tr AV):putS (match d with|some t=>some (sOf t)|none=>none) v T=putT T d v:=by
 cases d with
 |none=>rfl
 |some t=>exact zny t v T
def dOf (d:Option Tmp):Option S2:=match d with|some t=>some (sOf t)|none=>none
theorem zfc (d:Option Tmp) (v:AV) (T:Tr AV):putS (dOf d) v T=putT T d v:=putS_eq d v T
def evs (xs:List O2):Tr AV->List AV:=lrec (β:=Tr AV->List AV) (fun _=> []) (fun x _ ih T=>x.ev T::ih T) xs
theorem zqe (T:Tr AV) (l:List Operand):opnds T l=(match mapO opd l with|some xs=>some (evs xs T)|none=>none):=by
 induction l with
 |nil=>rfl
 |cons a l ih =>
  show obind (opnd T a) (fun b=>obind (opnds T l) fun bs=>some (b::bs))=match obind (opd a) (fun b=>obind (mapO opd l) fun bs=>some (b::bs)) with|some xs=>some (evs xs T)|none=>none
  rw [zoa,ih];cases opd a with
  |none=>rfl
  |some x=>cases mapO opd l<;>rfl
def hIn (w:Bool) (H:AH):AH:=brec H {H with lo:=H.next} w
def hOut (w:Bool) (H H':AH):AH:=brec H' {H' with lo:=H.lo} w
theorem zzl1 (w:Bool) (H:AH):hOut w H (hIn w H)=H:=by cases w<;>cases H<;>rfl
def zfl (want:Bool) (o:Option AV):Bool:=orec false (fun v=>avBoolB false (fun b=>brec (brec true false want) want b) v) o
def ptrsT (T:Tr AV) (ks:List S2):Option (List Nat) :=
 lrec (β:=Option (List Nat)) (some []) (fun s _ ih=>match s.get T with|some (.ptr i _)=>(match ih with|some js=>some (i::js)|none=>none)|_=>none) ks
def ptrsO (rd:Option (List S2)) (T:Tr AV):Option (List Nat):=orec none (fun ks=>ptrsT T ks) rd
def zoh (x:Ent) (L:Lk) (pre:List Ent):List Nat->Option (List S2) :=
 lrec (β:=List Nat->Option (List S2)) (fun _=>some []) (fun y _ ih ds =>
  match zyc L y.2.2 && !Nat.testBit x.2.1 y.1 with
  |false=>ih (match y.2.2.dst with|some d=>d::ds|none=>ds)
  |true=>(match y.2.2.op with
   | .load _ (.tmp k)=>(match has (match y.2.2.dst with|some d=>d::ds|none=>ds) k with
    |true=>none
    |false=>(match ih (match y.2.2.dst with|some d=>d::ds|none=>ds) with|some ks=>some (sOf k::ks)|none=>none))
   |_=>none)) pre
theorem zms (x:Ent) (L:Lk) (T:Tr AV) (pre:List Ent):∀ds,zee x L T pre ds=ptrsO (zoh x L pre ds) T:=by
 induction pre with
 |nil=>intro ds;rfl
 |cons y pre ih =>
  intro ds;show (match zyc L y.2.2 && !Nat.testBit x.2.1 y.1 with
   |false=>zee x L T pre (match y.2.2.dst with|some d=>d::ds|none=>ds)
   |true=>(match y.2.2.op with
    | .load _ (.tmp k)=>(match has (match y.2.2.dst with|some d=>d::ds|none=>ds) k with
     |true=>none
     |false=>(match T.get k with
      |some (.ptr i _)=>(match zee x L T pre (match y.2.2.dst with|some d=>d::ds|none=>ds) with|some js=>some (i::js)|none=>none)
      |_=>none))
    |_=>none))=ptrsO (match zyc L y.2.2 && !Nat.testBit x.2.1 y.1 with
   |false=>zoh x L pre (match y.2.2.dst with|some d=>d::ds|none=>ds)
   |true=>(match y.2.2.op with
    | .load _ (.tmp k)=>(match has (match y.2.2.dst with|some d=>d::ds|none=>ds) k with
     |true=>none
     |false=>(match zoh x L pre (match y.2.2.dst with|some d=>d::ds|none=>ds) with|some ks=>some (sOf k::ks)|none=>none))
    |_=>none)) T
  cases zyc L y.2.2 && !Nat.testBit x.2.1 y.1 with
  |false=>exact ih _
  |true =>
   simp only;split
   ·next t k _ =>
    split
    ·rfl
    ·rw [ih]
     cases zoh x L pre (match y.2.2.dst with|some d=>d::ds|none=>ds) with
     |none =>
      show (match T.get k with|some (.ptr i _)=>(match (none:Option (List Nat)) with|some js=>some (i::js)|none=>none)|_=>none)=none
      cases T.get k with
      |none=>rfl
      |some v=>cases v<;>rfl
     |some ks =>
      show _=(match (sOf k).get T with|some (.ptr i _)=>(match ptrsT T ks with|some js=>some (i::js)|none=>none)|_=>none)
      rw [zvl];rfl
   ·rfl
abbrev RunK:=Lk->Rec->(Tr AV->AH->Option Out)->Tr AV->AH->Option Out
def prodO (f:AV->AH->Option Out) (r:AV×AH):Option Out:=Prod.rec (motive:=fun _=>Option Out) f r
def outO (f:AV->AH->Option Out) (o:Out):Option Out:=Out.rec (motive:=fun _=>Option Out) (fun _ T' H'=>f (dflt (zsl1 .d0 .d0 T')) H') o
def nextO (rec:Rec) (H:AH) (f:AV->AH->Option Out) (nx:Next1):Option Out :=
 Next1.rec (motive:=fun _=>Option Out) (fun v H'=>f v H') (fun g args=>orec none (outO f) (rec (.call g args H))) (fun l args=>orec none (outO f) (rec (.round l args H))) nx
def runK' (c:K2):RunK :=
 K2.rec (motive:=fun _=>RunK)
  (fun _ _ kk T H=>kk T H)
  (fun _ _ _ _ _=>none)
  (fun x d _ ih L rec kk T H=>ih L rec kk (putS d (x.ev T) T) H)
  (fun f x d _ ih L rec kk T H=>orec none (fun v=>ih L rec kk (putS d v T) H) (f (x.ev T)))
  (fun f x y d _ ih L rec kk T H=>orec none (fun v=>ih L rec kk (putS d v T) H) (f (x.ev T) (y.ev T)))
  (fun f x d _ ih L rec kk T H=>orec none (fun v=>ih L rec kk (putS d v T) H) (f (x.ev T) H))
  (fun w f d _ ih L rec kk T H=>orec none (prodO (fun v H'=>ih L rec kk (putS d v T) (hOut w H H'))) (f (hIn w H)))
  (fun w f x d _ ih L rec kk T H=>orec none (prodO (fun v H'=>ih L rec kk (putS d v T) (hOut w H H'))) (f (x.ev T) (hIn w H)))
  (fun w f x y d _ ih L rec kk T H=>orec none (fun H'=>ih L rec kk (putS d .undef T) (hOut w H H')) (f (x.ev T) (y.ev T) (hIn w H)))
  (fun w f xs d _ ih L rec kk T H=>orec none (outO (fun v H'=>ih L rec kk (putS d v T) (hOut w H H'))) (rec (.call f (evs xs T) (hIn w H))))
  (fun f xs d _ ih L rec kk T H=>orec none (fun v=>ih L rec kk (putS d v T) H) (f (evs xs T) H))
  (fun w f xs d _ ih L rec kk T H=>orec none (prodO (fun v H'=>ih L rec kk (putS d v T) (hOut w H H'))) (f (evs xs T) (hIn w H)))
  (fun f xs o d _ ih L rec kk T H=>orec (orec none (prodO (fun v H'=>ih L rec kk (putS d v T) H')) (evEnd L T o H)) (fun v=>ih L rec kk (putS d v T) H) (f (evs xs T) H))
  (fun w f xs d _ ih L rec kk T H=>orec none (nextO rec (hIn w H) (fun v H'=>ih L rec kk (putS d v T) (hOut w H H'))) (f (evs xs T) (hIn w H)))
  (fun o d _ ih L rec kk T H=>orec none (prodO (fun v _=>ih L rec kk (putS d v T) H)) (zwa L rec T o H))
  (fun w o d _ ih L rec kk T H=>orec none (prodO (fun v H'=>ih L rec kk (putS d v T) (hOut w H H'))) (zwa L rec T o (hIn w H)))
  (fun o d _ ih L rec kk T H=>orec none (prodO (fun v H'=>ih L rec kk (putS d v T) H')) (zwf L rec T o H))
  (fun x pre d _ ih L rec kk T H=>brec
   (orec none (prodO (fun v H'=>ih L rec kk (putS d v T) H')) (zfd L rec T x pre H))
   (orec none (prodO (fun v H'=>ih L rec kk (putS d v T) H')) (zwa L rec T x.2.2 H)) (far L T x pre))
  (fun rd f xs d _ ih L rec kk T H=>orec
   (orec none (outO (fun v H'=>ih L rec kk (putS d v T) (hOut true H H'))) (rec (.call f (evs xs T) (hIn true H))))
   (fun js=>orec none (outO (fun v H'=>brec none (ih L rec kk (putS d v T) H') (zsg H H' js))) (rec (.call f (evs xs T) H)))
   (ptrsO rd T))
  (fun d _ ih L rec kk T H=>ih L rec kk (putS d .undef T) H)
  (fun s want d _ _ iha ihb L rec kk T H=>brec (ihb L rec kk (putS d .undef T) H) (iha L rec kk T H) (zfl want (s.get T))) c
def runK (L:Lk) (rec:Rec) (kk:Tr AV->AH->Option Out) (c:K2) (T:Tr AV) (H:AH):Option Out:=runK' c L rec kk T H
def appX (e z b:Nat) (xs:List AV) (H:AH):Option (AV×AH):=match xs with|s::x::_=>appF e z b s x H|_=>none
def appH (L:Lk) (ts:List TypeId):List AV->AH->Option (AV×AH) :=
 match ts with
 |t::t'::_=>(match L.under t',L.under t with
  |some (.slice _),some (.slice e)=>(match L.size e,L.bytes e,L.zero e with
   |some z,some b,some zv=>(match Nat.beq z 0 || !Nat.beq (len zv.cells) z with
    |false=>appX e z b
    |true=>zda .append L ts)
   |_,_,_=>zda .append L ts)
  |_,_=>zda .append L ts)
 |_=>zda .append L ts
def zam1 (L:Lk) (b:Builtin) (ts:List TypeId):List AV->AH->Option (AV×AH):=match b with| .append=>appH L ts|b=>zda b L ts
theorem zrd1 (L:Lk) (b:Builtin) (ts:List TypeId) (args:List AV) (H:AH):zam1 L b ts args H=zqb L b ts args H:=by
 rw [← zwl];cases b<;>try rfl
 show appH L ts args H=_
 cases ts with
 |nil=>rfl
 |cons t ts=>cases ts with
  |nil=>rfl
  |cons t' rest =>
   unfold appH;simp only;cases h1:L.under t' with
   |none=>rfl
   |some d'=>cases d' with
    |slice e0=>cases h2:L.under t with
     |none=>rfl
     |some d=>cases d with
      |slice e =>
       simp only;cases h3:L.size e with
       |none=>rfl
       |some z=>cases h4:L.bytes e with
        |none=>rfl
        |some b=>cases h5:L.zero e with
         |none=>rfl
         |some zv =>
          simp only;cases h6:(Nat.beq z 0 || !Nat.beq (len zv.cells) z) with
          |true=>rfl
          |false =>
           cases args with
           |nil=>rfl
           |cons s l=>cases l with
            |nil=>rfl
            |cons x l =>
             show appF e z b s x H=(match L.under t' with|some (.slice _)=>zxc L t s x H|some .string=>zxc L t s x H|some (.int _)=>zle L t s x H|_=>none)
             rw [h1,zmh1 h2 h3 h4 h5 h6]
      |_=>rfl
    |_=>rfl
def zfn (n:Nat):List AV->List AV:=nrecF (α:=List AV) (β:=List AV) (fun _=> []) (fun _ ih xs=>hd xs::ih (tl xs)) n
def restN (n:Nat):List AV->List AV:=nrecF (α:=List AV) (β:=List AV) (fun xs=>xs) (fun _ ih xs=>ih (tl xs)) n
def unitF (o:Option AH):Option (AV×AH):=orec none (fun H'=>some (.undef,H')) o
def pickF (xs:List AV):Option AV:=zpl1 none (fun b=>some (brec (hd (tl (tl xs))) (hd (tl xs)) b)) (hd xs)
def zxv (H:AH):Option (AV×AH):=hNew (.map [] 0) (fun n H'=>some (.map n,H')) H
def node (L:Lk) (o:Oper) (w:Bool) (k:K2):K2 :=
 match zja L o with
 |false=>(match o.op with
  | .move x=>orec .fail (fun x=>.mv x (dOf o.dst) k) (opd x)
  | .assign x=>orec .fail (fun x=>.mv x (dOf o.dst) k) (opd x)
  | .binOp op t x y _=>orec .fail (fun a=>orec .fail (fun b=>.p2 (binF op (evBin L op t x y)) a b (dOf o.dst) k) (opd y)) (opd x)
  | .unOp op _ x=>(match op with
   | .not=>orec .fail (fun x=>.p1 notF x (dOf o.dst) k) (opd x)
   |op=>orec .fail (fun x=>.p1 (evUn op) x (dOf o.dst) k) (opd x))
  | .pick c a b=>orec (.gl o (dOf o.dst) k) (fun xs=>.ln (fun xs _=>pickF xs) xs (dOf o.dst) k) (mapO opd [c,a,b])
  | .lookup t x ix ok=>orec .fail (fun xs=>.ln (fun xs H=>zob L t (hd xs) (hd (tl xs)) ok H) xs (dOf o.dst) k) (mapO opd [x,ix])
  | .typeAssert x _ t ok=>orec .fail (fun x=>.p1 (fun v=>zde L v t ok) x (dOf o.dst) k) (opd x)
  | .makeFunc fn a b=>(match fn with
   | .func f=>orec .fail (fun xs=>orec .fail (fun ys=>.ln (fun zs _=>some (.fn (.func f) (zfn a.size zs) (restN a.size zs))) (xs ++ ys) (dOf o.dst) k) (mapO opd b.toList)) (mapO opd a.toList)
   |_=>.gl o (dOf o.dst) k)
  | .load t a=>(match L.isAgg t with
   |some true=>(match L.size t with
    |some s=>orec .fail (fun x=>.r1 (ldN s) x (dOf o.dst) k) (opd a)
    |none=>.fail)
   |some false=>orec .fail (fun x=>.r1 ld1 x (dOf o.dst) k) (opd a)
   |none=>.fail)
  | .indexAddr t x ix=>(match L.under t with
   |some (.slice e)=>(match L.size e with
    |some z=>orec .fail (fun a=>orec .fail (fun b=>.p2 (ixS z) a b (dOf o.dst) k) (opd ix)) (opd x)
    |none=>.fail)
   |some (.array n e)=>(match L.size e with
    |some z=>orec .fail (fun a=>orec .fail (fun b=>.p2 (ixA n z) a b (dOf o.dst) k) (opd ix)) (opd x)
    |none=>.fail)
   |_=>.fail)
  | .fieldAddr s x f=>(match L.under s with
   |some (.struct fields)=>(match nth fields.toList f with
    |some fd=>(match L.size fd.type with
     |some z=>brec (orec .fail (fun x=>.p1 (fa fd.offset) x (dOf o.dst) k) (opd x)) .fail (Nat.beq z 0)
     |none=>.fail)
    |none=>.fail)
   |_=>.fail)
  | .extract x ix=>orec .fail (fun x=>.p1 (exN ix) x (dOf o.dst) k) (opd x)
  | .field t x f=>orec .fail (fun x=>.p1 (fun v=>zwi L t v f) x (dOf o.dst) k) (opd x)
  | .index t x ix=>orec .fail (fun a=>orec .fail (fun b=>.p2 (zxd L t) a b (dOf o.dst) k) (opd ix)) (opd x)
  | .makeInterface t x=>orec .fail (fun x=>.p1 (zva L t) x (dOf o.dst) k) (opd x)
  | .nilCheck x=>orec .fail (fun x=>.p1 nilF x (dOf o.dst) k) (opd x)
  | .slice t x lo hi mx=>orec .fail (fun xs=>.ln (fun xs _=>zua L t lo.isSome hi.isSome mx.isSome xs) xs (dOf o.dst) k) (mapO opd (x::(lo.toList ++ (hi.toList ++ mx.toList))))
  | .convert _ d x=>(match L.under d with
   |some (.int ki)=>orec .fail (fun x=>.p1 (cvI ki) x (dOf o.dst) k) (opd x)
   |_=>.gl o (dOf o.dst) k)
  | .build t ps=>orec .fail (fun xs=>.ln (fun xs _=>zsa L t (zipF (ps.toList.map fun p=>p.1) xs)) xs (dOf o.dst) k) (mapO opd (ps.toList.map fun p=>p.2))
  | .call c=>(match c.callee with
   | .builtin b=>orec .fail (fun xs=>.ln (fun xs H=>fstO (zda b L c.argTypes.toList xs H)) xs (dOf o.dst) k) (mapO opd c.args.toList)
   |_=>.gl o (dOf o.dst) k)
  |_=>.gl o (dOf o.dst) k)
 |true=>(match o.op with
  | .alloc e=>(match L.zero e,L.size e with
   |some z,some s=>.al w (alF z.toC e s) (dOf o.dst) k
   |_,_=>.fail)
  | .box e x=>(match L.size e with
   |some s=>orec .fail (fun x=>.m1 w (fun v H=>alF v.toC e s H) x (dOf o.dst) k) (opd x)
   |none=>.fail)
  | .store t a x=>(match L.size t with
   |some s=>brec
     (orec .fail (fun a=>orec .fail (fun b=>.st w (stN s) a b (dOf o.dst) k) (opd x)) (opd a))
     (orec .fail (fun a=>orec .fail (fun b=>.st w (st1 L t) a b (dOf o.dst) k) (opd x)) (opd a)) (Nat.beq s 1)
   |none=>.fail)
  | .convert s d x=>(match L.under s,L.under d with
   |some _,some (.int ki)=>orec .fail (fun x=>.p1 (cvI ki) x (dOf o.dst) k) (opd x)
   |_,_=>orec .fail (fun x=>.m1 w (zmb L s d) x (dOf o.dst) k) (opd x))
  | .buildSlice t n ps=>orec .fail (fun xs=>(match L.under t with
   |some (.slice e)=>(match L.size e,L.zero e with
    |some s,some z=>(match Nat.ble (n*s) 16777216 && Nat.beq (len z.cells) s with
     |true=>.hn w (fun xs H=>bsF s n z e (zipF (ps.toList.map fun p=>p.1) xs) H) xs (dOf o.dst) k
     |false=>.fail)
    |_,_=>.fail)
   |_=>.fail)) (mapO opd (ps.toList.map fun p=>p.2))
  | .mapUpdate t m ky x=>orec .fail (fun xs=>.hn w (fun xs H=>unitF (zqa L t (hd xs) (hd (tl xs)) (hd (tl (tl xs))) H)) xs (dOf o.dst) k) (mapO opd [m,ky,x])
  | .insert t m ky x=>orec .fail (fun xs=>.hn w (fun xs H=>unitF (zqa L t (hd xs) (hd (tl xs)) (hd (tl (tl xs))) H)) xs (dOf o.dst) k) (mapO opd [m,ky,x])
  | .makeMap _ r=>(match r with
   |none=>.al w zxv (dOf o.dst) k
   |some _=>.gh w o (dOf o.dst) k)
  | .makeSlice t l c=>orec .fail (fun xs=>.hn w (fun xs H=>zqc L t (hd xs) (hd (tl xs)) H) xs (dOf o.dst) k) (mapO opd [l,c])
  | .call c=>(match c.callee with
   | .value f=>(match f with
    | .func g=>orec .fail (fun xs=>.cl w g xs (dOf o.dst) k) (mapO opd c.args.toList)
    |f=>orec .fail (fun xs=>.cn w (fun xs _=>zec (hd xs) (tl xs)) xs (dOf o.dst) k) (mapO opd (f::c.args.toList)))
   | .invoke r name=>orec .fail (fun xs=>.cn w (fun xs H=>zgd L (hd xs) name (tl xs) H) xs (dOf o.dst) k) (mapO opd (r::c.args.toList))
   | .builtin b=>orec .fail (fun xs=>.hn w (zam1 L b c.argTypes.toList) xs (dOf o.dst) k) (mapO opd c.args.toList))
  |_=>.gh w o (dOf o.dst) k)
end
section
variable {L:Lk}{rec:Rec}{kk:Tr AV->AH->Option Out}
theorem zfp {T:Tr AV}{o:Oper}{H:AH}{r:AV×AH}(hl:zja L o=false) (h:zwa L rec T o H=some r):r.2=H:=by
 unfold zwa at h;split at h
 ·cases h
 ·next nx hnx =>
  have hv:∃v,nx= .val v H:=by
   unfold zja zdh at hl;cases hp:zal L o.op with
   |true=>obtain ⟨v,hv,_⟩:=zcy hp hnx;exact ⟨v,hv⟩
   |false =>
    rw [hp] at hl;cases hr:zsj o.op with
    |true=>obtain ⟨v,hv,_⟩:=zdy hr hnx;exact ⟨v,hv⟩
    |false=>rw [hr] at hl;cases hl
  obtain ⟨v,rfl⟩:=hv;simp only [qe2] at h;rw [← h]
def zgc (L:Lk) (rec:Rec) (kk:Tr AV->AH->Option Out) (o:Oper) (k:K2) (T:Tr AV) (H:AH):Option Out :=
 match zwa L rec T o H with
 |some r=>runK L rec kk k (putT T o.dst r.1) H
 |none=>none
def zlc (L:Lk) (rec:Rec) (kk:Tr AV->AH->Option Out) (o:Oper) (w:Bool) (k:K2) (T:Tr AV) (H:AH):Option Out :=
 match zwa L rec T o (hIn w H) with
 |some r=>runK L rec kk k (putT T o.dst r.1) (hOut w H r.2)
 |none=>none
theorem zph (o:Out):dflt (Tr.getLo .d0 .d0 o.T)=zrg o:=by
 unfold zrg;have:o.T.get 0=Tr.getLo .d0 .d0 o.T:=Tr.get_lo _ dC
 rw [this];cases Tr.getLo .d0 .d0 o.T<;>rfl
theorem zgp (o:Oper) (k:K2) (T:Tr AV) (H:AH):runK L rec kk (.gl o (dOf o.dst) k) T H=zgc L rec kk o k T H:=by
 show orec none (fun r=>Prod.rec (motive:=fun _=>Option Out) (fun v _=>runK L rec kk k (putS (dOf o.dst) v T) H) r) (zwa L rec T o H)=_
 unfold zgc;cases zwa L rec T o H with
 |none=>rfl
 |some r=>show runK L rec kk k (putS (dOf o.dst) r.1 T) H=_;rw [zfc]
theorem run_gh (o:Oper) (w:Bool) (k:K2) (T:Tr AV) (H:AH):runK L rec kk (.gh w o (dOf o.dst) k) T H=zlc L rec kk o w k T H:=by
 show orec none (fun r=>Prod.rec (motive:=fun _=>Option Out) (fun v H'=>runK L rec kk k (putS (dOf o.dst) v T) (hOut w H H')) r) (zwa L rec T o (hIn w H))=_
 unfold zlc;cases zwa L rec T o (hIn w H) with
 |none=>rfl
 |some r=>show runK L rec kk k (putS (dOf o.dst) r.1 T) (hOut w H r.2)=_;rw [zfc]
theorem zqh {o:Oper}{T:Tr AV}{H:AH}{x:Option AV}(h:evOp L T o H=val1 x H) (k:K2):zgc L rec kk o k T H=orec none (fun v=>runK L rec kk k (putS (dOf o.dst) v T) H) x:=by
 unfold zgc zwa;rw [h];cases x with
 |none=>rfl
 |some v=>show runK L rec kk k (putT T o.dst v) H=_;rw [← zfc];rfl
theorem run_mv (x:O2) (o:Oper) (k:K2) (T:Tr AV) (H:AH) (h:evOp L T o H=val1 (some (x.ev T)) H):runK L rec kk (.mv x (dOf o.dst) k) T H=zgc L rec kk o k T H:=by
 rw [zqh h];rfl
theorem zgn (f:AV->Option AV) (x:O2) (o:Oper) (k:K2) (T:Tr AV) (H:AH) (h:evOp L T o H=val1 (f (x.ev T)) H):runK L rec kk (.p1 f x (dOf o.dst) k) T H=zgc L rec kk o k T H:=by
 rw [zqh h];rfl
theorem zbm1 (f:AV->AV->Option AV) (x y:O2) (o:Oper) (k:K2) (T:Tr AV) (H:AH) (h:evOp L T o H=val1 (f (x.ev T) (y.ev T)) H):runK L rec kk (.p2 f x y (dOf o.dst) k) T H=zgc L rec kk o k T H:=by
 rw [zqh h];rfl
theorem run_r1 (f:AV->AH->Option AV) (x:O2) (o:Oper) (k:K2) (T:Tr AV) (H:AH) (h:evOp L T o H=val1 (f (x.ev T) H) H):runK L rec kk (.r1 f x (dOf o.dst) k) T H=zgc L rec kk o k T H:=by
 rw [zqh h];rfl
theorem zyv (f:List AV->AH->Option AV) (xs:List O2) (o:Oper) (k:K2) (T:Tr AV) (H:AH) (h:evOp L T o H=val1 (f (evs xs T) H) H):runK L rec kk (.ln f xs (dOf o.dst) k) T H=zgc L rec kk o k T H:=by
 rw [zqh h];rfl
theorem zla {o:Oper}{T:Tr AV}{H:AH}(h:evOp L T o H=none) (k:K2):zgc L rec kk o k T H=none:=by
 unfold zgc zwa;rw [h]
theorem zxa {o:Oper}{T:Tr AV}{H:AH}{w:Bool}(h:evOp L T o (hIn w H)=none) (k:K2):zlc L rec kk o w k T H=none:=by
 unfold zlc zwa;rw [h]
theorem zns (T:Tr AV) (l:List (Nat×Operand)):mapO (fun p=>match opnd T p.2 with|some v=>some (p.1,v)|none=>none) l=(match mapO opd (l.map fun p=>p.2) with|some xs=>some (zipF (l.map fun p=>p.1) (evs xs T))|none=>none):=by
 induction l with
 |nil=>rfl
 |cons a l ih =>
  show obind (match opnd T a.2 with|some v=>some (a.1,v)|none=>none) (fun b=>obind (mapO (fun p=>match opnd T p.2 with|some v=>some (p.1,v)|none=>none) l) fun bs=>some (b::bs))=match obind (opd a.2) (fun b=>obind (mapO opd (l.map fun p=>p.2)) fun bs=>some (b::bs)) with|some xs=>some (zipF (a.1::l.map fun p=>p.1) (evs xs T))|none=>none
  rw [zoa,ih];cases opd a.2 with
  |none=>rfl
  |some x=>cases mapO opd (l.map fun p=>p.2)<;>rfl
theorem zli {α β:Type}(f:α->Option β):mapO f []=some []:=rfl
theorem zmd {α β:Type}(f:α->Option β) (a:α) (l:List α):mapO f (a::l)=obind (f a) fun b=>obind (mapO f l) fun bs=>some (b::bs):=rfl
theorem zos (L:Lk) (T:Tr AV) (H:AH) (t:TypeId) (x:Operand) (lo hi mx:Option Operand):(match opnd T x,mapO (opnd T) lo.toList,mapO (opnd T) hi.toList,mapO (opnd T) mx.toList with
  |some v,some a,some b,some c=>val1 (zgb L t v a.head? b.head? c.head?) H
  |_,_,_,_=>none)=(match mapO opd (x::(lo.toList ++ (hi.toList ++ mx.toList))) with|some xs=>val1 (zua L t lo.isSome hi.isSome mx.isSome (evs xs T)) H|none=>none):=by
 rcases lo with _|l<;>rcases hi with _|h<;>rcases mx with _|m <;>
  simp only [Option.toList,qm1,qn2,zli,zmd,zoa]
 ·cases opd x<;>rfl
 ·cases opd x<;>cases opd m<;>rfl
 ·cases opd x<;>cases opd h<;>rfl
 ·cases opd x<;>cases opd h<;>cases opd m<;>rfl
 ·cases opd x<;>cases opd l<;>rfl
 ·cases opd x<;>cases opd l<;>cases opd m<;>rfl
 ·cases opd x<;>cases opd l<;>cases opd h<;>rfl
 ·cases opd x<;>cases opd l<;>cases opd h<;>cases opd m<;>rfl
theorem zcm1 {L:Lk}{T:Tr AV}{H:AH}{o:Oper}{t:TypeId}{x:Operand}{lo hi mx:Option Operand}(ho:o.op= .slice t x lo hi mx) :
  evOp L T o H=(match mapO opd (x::(lo.toList ++ (hi.toList ++ mx.toList))) with|some xs=>val1 (zua L t lo.isSome hi.isSome mx.isSome (evs xs T)) H|none=>none):=by
 rw [← zos];unfold evOp;rw [ho];rfl
theorem evs_len (xs:List O2) (T:Tr AV):(evs xs T).length=xs.length:=by
 induction xs with
 |nil=>rfl
 |cons a xs ih=>show (evs xs T).length+1=xs.length+1;rw [ih]
theorem zpy (xs ys:List O2) (T:Tr AV):evs (xs ++ ys) T=evs xs T ++ evs ys T:=by
 induction xs with
 |nil=>rfl
 |cons a xs ih=>show a.ev T::evs (xs ++ ys) T=a.ev T::(evs xs T ++ evs ys T);rw [ih]
theorem zdm1 {α β:Type}{f:α->Option β}{l:List α}:∀{r:List β},mapO f l=some r->l.length=r.length:=by
 induction l with
 |nil=>intro r h;cases h;rfl
 |cons a l ih =>
  intro r h;rw [zmd] at h;cases hf:f a with
  |none=>rw [hf] at h;cases h
  |some b =>
   rw [hf] at h;cases hm:mapO f l with
   |none=>rw [hm] at h;cases h
   |some bs=>rw [hm] at h;cases h;simp [ih hm]
theorem zhp (xs ys:List AV):zfn xs.length (xs ++ ys)=xs:=by
 induction xs with
 |nil=>rfl
 |cons a xs ih=>show a::zfn xs.length (xs ++ ys)=a::xs;rw [ih]
theorem zwq (xs ys:List AV):restN xs.length (xs ++ ys)=ys:=by
 induction xs with
 |nil=>rfl
 |cons a xs ih=>exact ih
theorem zmk (o:Oper) (w:Bool) (k:K2) (T:Tr AV) (H:AH) (hl:zja L o=false):runK L rec kk (node L o w k) T H=zgc L rec kk o k T H:=by
 obtain ⟨dst,op,ty,pos,after,guard⟩:=o;unfold node;rw [hl];cases op with
 |move x =>
  have he:evOp L T ⟨dst,.move x,ty,pos,after,guard⟩ H=val1 (opnd T x) H:=rfl;rw [zoa] at he;cases hx:opd x with
  |none=>rw [hx] at he;simp only [hx];exact (zla he k).symm
  |some a=>rw [hx] at he;simp only [hx];exact run_mv a _ k T H he
 |assign x =>
  have he:evOp L T ⟨dst,.assign x,ty,pos,after,guard⟩ H=val1 (opnd T x) H:=rfl;rw [zoa] at he;cases hx:opd x with
  |none=>rw [hx] at he;simp only [hx];exact (zla he k).symm
  |some a=>rw [hx] at he;simp only [hx];exact run_mv a _ k T H he
 |binOp op t x y yt =>
  have he:evOp L T ⟨dst,.binOp op t x y yt,ty,pos,after,guard⟩ H=(match opnd T x,opnd T y with|some v,some u=>val1 (evBin L op t x y v u) H|_,_=>none):=rfl
  rw [zoa,zoa] at he;cases hx:opd x with
  |none=>rw [hx] at he;simp only [hx];exact (zla he k).symm
  |some a =>
   rw [hx] at he;cases hy:opd y with
   |none=>rw [hy] at he;simp only [hx,hy];exact (zla he k).symm
   |some b =>
    rw [hy] at he;simp only [hx,hy];exact zbm1 (binF op (evBin L op t x y)) a b ⟨dst,.binOp op t x y yt,ty,pos,after,guard⟩ k T H (by rw [zcg];exact he)
 |unOp op t x =>
  cases op with
  |not =>
   have he:evOp L T ⟨dst,.unOp .not t x,ty,pos,after,guard⟩ H=(match opnd T x with|some v=>val1 (evUn .not v) H|none=>none):=rfl
   rw [zoa] at he;cases hx:opd x with
   |none=>rw [hx] at he;simp only [hx];exact (zla he k).symm
   |some a =>
    rw [hx] at he;simp only [hx];refine zgn _ a _ k T H (he.trans ?_);simp only;congr 1;cases a.ev T<;>first|rfl|(next b=>cases b<;>rfl)
  |_ =>
   have he:∀op,evOp L T ⟨dst,.unOp op t x,ty,pos,after,guard⟩ H=(match opnd T x with|some v=>val1 (evUn op v) H|none=>none):=fun _=>rfl
   simp only [zoa] at he;cases hx:opd x with
   |none=>rw [hx] at he;simp only [hx];exact (zla (he _) k).symm
   |some a=>rw [hx] at he;simp only [hx];exact zgn _ a _ k T H (he _)
 |pick c a b =>
  have he:evOp L T ⟨dst,.pick c a b,ty,pos,after,guard⟩ H=(match opnd T c with|some (.bool true)=>val1 (opnd T a) H|some (.bool false)=>val1 (opnd T b) H|_=>none):=rfl
  rw [zoa,zoa,zoa] at he;simp only [zmd,zli];cases hx:opd c with
  |none=>exact zgp _ k T H
  |some x =>
   cases hy:opd a with
   |none=>exact zgp _ k T H
   |some y =>
    cases hz:opd b with
    |none=>exact zgp _ k T H
    |some z =>
     rw [hx,hy,hz] at he;refine zyv (fun xs _=>pickF xs) [x,y,z] ⟨dst,.pick c a b,ty,pos,after,guard⟩ k T H (he.trans ?_)
     show _=val1 (zpl1 none (fun b=>some (brec (z.ev T) (y.ev T) b)) (x.ev T)) H
     simp only;cases x.ev T<;>first|rfl|(next c=>cases c<;>rfl)
 |lookup t x ix ok =>
  have he:evOp L T ⟨dst,.lookup t x ix ok,ty,pos,after,guard⟩ H=(match opnd T x,opnd T ix with|some v,some u=>val1 (zob L t v u ok H) H|_,_=>none):=rfl
  rw [zoa,zoa] at he;simp only [zmd,zli];cases hx:opd x with
  |none=>rw [hx] at he;exact (zla he k).symm
  |some a =>
   rw [hx] at he;cases hy:opd ix with
   |none=>rw [hy] at he;exact (zla he k).symm
   |some b=>rw [hy] at he;exact zyv (fun xs H=>zob L t (hd xs) (hd (tl xs)) ok H) [a,b] ⟨dst,.lookup t x ix ok,ty,pos,after,guard⟩ k T H he
 |typeAssert x ty0 t ok =>
  have he:evOp L T ⟨dst,.typeAssert x ty0 t ok,ty,pos,after,guard⟩ H=(match opnd T x with|some v=>val1 (zde L v t ok) H|none=>none):=rfl
  rw [zoa] at he;cases hx:opd x with
  |none=>rw [hx] at he;simp only [hx];exact (zla he k).symm
  |some a=>rw [hx] at he;simp only [hx];exact zgn (fun v=>zde L v t ok) a ⟨dst,.typeAssert x ty0 t ok,ty,pos,after,guard⟩ k T H he
 |makeFunc fn a b =>
  cases fn with
  |func f =>
   have he:evOp L T ⟨dst,.makeFunc (.func f) a b,ty,pos,after,guard⟩ H=(match opnds T a.toList,opnds T b.toList with|some x,some y=>some (.val (.fn (.func f) x y) H)|_,_=>none):=by
    unfold evOp;simp only;cases opnds T a.toList<;>cases opnds T b.toList<;>rfl
   rw [zqe,zqe] at he;simp only;cases hx:mapO opd a.toList with
   |none=>rw [hx] at he;exact (zla he k).symm
   |some xs =>
    rw [hx] at he;cases hy:mapO opd b.toList with
    |none=>rw [hy] at he;exact (zla he k).symm
    |some ys =>
     rw [hy] at he;refine zyv (fun zs _=>some (.fn (.func f) (zfn a.size zs) (restN a.size zs))) (xs ++ ys) ⟨dst,.makeFunc (.func f) a b,ty,pos,after,guard⟩ k T H (he.trans ?_)
     simp only;have hl:=evs_len xs T;have hl2:=zdm1 hx;rw [zpy];have hsz:a.size=(evs xs T).length:=by rw [hl,← hl2];simp
     rw [hsz,zhp,zwq];rfl
  |_=>exact zgp _ k T H
 |load t a =>
  have he:evOp L T ⟨dst,.load t a,ty,pos,after,guard⟩ H=(match opnd T a with|some v=>val1 (zwe L t v H) H|none=>none):=rfl
  rw [zoa] at he;cases hg:L.isAgg t with
  |none =>
   simp only [hg];refine (zla ?_ k).symm;rw [he];cases opd a with
   |none=>rfl
   |some x=>simp only;unfold zwe zub;simp only [hg];cases x.ev T<;>rfl
  |some g =>
   cases g with
   |true =>
    cases hs:L.size t with
    |none =>
     simp only [hg,hs];refine (zla ?_ k).symm;rw [he];cases opd a with
     |none=>rfl
     |some x=>simp only;unfold zwe zub;simp only [hg,hs];cases x.ev T<;>rfl
    |some s =>
     simp only [hg,hs];cases hx:opd a with
     |none=>rw [hx] at he;exact (zla he k).symm
     |some x=>rw [hx] at he;exact run_r1 (ldN s) x ⟨dst,.load t a,ty,pos,after,guard⟩ k T H (by rw [ldN_eq hg hs];exact he)
   |false =>
    simp only [hg];cases hx:opd a with
    |none=>rw [hx] at he;exact (zla he k).symm
    |some x=>rw [hx] at he;exact run_r1 ld1 x ⟨dst,.load t a,ty,pos,after,guard⟩ k T H (by rw [ld1_eq hg];exact he)
 |indexAddr t x ix =>
  have he:evOp L T ⟨dst,.indexAddr t x ix,ty,pos,after,guard⟩ H=(match opnd T x,opnd T ix with|some v,some u=>val1 (zfb L t v u) H|_,_=>none):=rfl
  rw [zoa,zoa] at he;have hno:(∀a b,zfb L t a b=none)->zgc L rec kk ⟨dst,.indexAddr t x ix,ty,pos,after,guard⟩ k T H=none:=fun h=>by
   refine zla ?_ k;rw [he];cases opd x<;>cases opd ix<;>first|rfl|(simp only;rw [h];rfl)
  have fin:∀f:AV->AV->Option AV,(∀a b,f a b=zfb L t a b) ->
    runK L rec kk (orec K2.fail (fun a=>orec .fail (fun b=>.p2 f a b (dOf dst) k) (opd ix)) (opd x)) T H=zgc L rec kk ⟨dst,.indexAddr t x ix,ty,pos,after,guard⟩ k T H:=fun f hf=>by
   cases hx:opd x with
   |none=>rw [hx] at he;exact (zla he k).symm
   |some a =>
    rw [hx] at he;cases hy:opd ix with
    |none=>rw [hy] at he;exact (zla he k).symm
    |some b=>rw [hy] at he;exact zbm1 f a b ⟨dst,.indexAddr t x ix,ty,pos,after,guard⟩ k T H (by rw [hf];exact he)
  cases hu:L.under t with
  |none=>simp only [hu];refine (hno fun a b=> ?_).symm;unfold zfb;rw [hu];cases natOf b<;>cases a<;>rfl
  |some d =>
   cases d with
   |slice e =>
    cases hz:L.size e with
    |none=>simp only [hu,hz];refine (hno fun a b=> ?_).symm;unfold zfb;rw [hu];cases natOf b<;>cases a<;>simp only [hz]
    |some z=>simp only [hu,hz];exact fin _ (fun a b=>ixS_eq hu hz a b)
   |array n e =>
    cases hz:L.size e with
    |none=>simp only [hu,hz];refine (hno fun a b=> ?_).symm;unfold zfb;rw [hu];cases natOf b<;>cases a<;>simp only [hz]
    |some z=>simp only [hu,hz];exact fin _ (fun a b=>ixA_eq hu hz a b)
   |_=>simp only [hu];refine (hno fun a b=> ?_).symm;unfold zfb;rw [hu];cases natOf b<;>cases a<;>rfl
 |fieldAddr s x f =>
  have he:evOp L T ⟨dst,.fieldAddr s x f,ty,pos,after,guard⟩ H=(match opnd T x with|some v=>val1 (zpb L s v f) H|none=>none):=rfl
  rw [zoa] at he;have hno:(∀a,zpb L s a f=none)->zgc L rec kk ⟨dst,.fieldAddr s x f,ty,pos,after,guard⟩ k T H=none:=fun h=>by
   refine zla ?_ k;rw [he];cases opd x<;>first|rfl|(simp only;rw [h];rfl)
  cases hu:L.under s with
  |none=>simp only [hu];refine (hno fun a=> ?_).symm;unfold zpb;rw [hu];cases a<;>rfl
  |some d =>
   cases d with
   |struct fields =>
    cases hf:nth fields.toList f with
    |none=>simp only [hu,hf];refine (hno fun a=> ?_).symm;unfold zpb;rw [hu];cases a<;>simp only [hf]
    |some fd =>
     cases hz:L.size fd.type with
     |none=>simp only [hu,hf,hz];refine (hno fun a=> ?_).symm;unfold zpb;rw [hu];cases a<;>simp only [hf,hz]
     |some z =>
      simp only [hu,hf,hz];cases h0:Nat.beq z 0 with
      |true=>refine (hno fun a=> ?_).symm;unfold zpb;rw [hu];cases a<;>simp only [hf,hz,h0]
      |false =>
       cases hx:opd x with
       |none=>rw [hx] at he;exact (zla he k).symm
       |some a=>rw [hx] at he;exact zgn (fa fd.offset) a ⟨dst,.fieldAddr s x f,ty,pos,after,guard⟩ k T H (by rw [fa_eq hu hf hz h0];exact he)
   |_=>simp only [hu];refine (hno fun a=> ?_).symm;unfold zpb;rw [hu];cases a<;>rfl
 |extract x ix =>
  have he:evOp L T ⟨dst,.extract x ix,ty,pos,after,guard⟩ H=(match opnd T x with|some (.tup vs)=>val1 (nth vs ix) H|_=>none):=rfl
  rw [zoa] at he;cases hx:opd x with
  |none=>rw [hx] at he;simp only [hx];exact (zla he k).symm
  |some a =>
   rw [hx] at he;simp only [hx];refine zgn _ a _ k T H (he.trans ?_);simp only;cases a.ev T<;>first|rfl|(show val1 _ H=val1 (nthF _ _) H;rw [zlh1])
 |field t x f =>
  have he:evOp L T ⟨dst,.field t x f,ty,pos,after,guard⟩ H=(match opnd T x with|some v=>val1 (zwi L t v f) H|none=>none):=rfl
  rw [zoa] at he;cases hx:opd x with
  |none=>rw [hx] at he;simp only [hx];exact (zla he k).symm
  |some a=>rw [hx] at he;simp only [hx];exact zgn (fun v=>zwi L t v f) a _ k T H he
 |index t x ix =>
  have he:evOp L T ⟨dst,.index t x ix,ty,pos,after,guard⟩ H=(match opnd T x,opnd T ix with|some v,some u=>val1 (zxd L t v u) H|_,_=>none):=rfl
  rw [zoa,zoa] at he;cases hx:opd x with
  |none=>rw [hx] at he;simp only [hx];exact (zla he k).symm
  |some a =>
   rw [hx] at he;cases hy:opd ix with
   |none=>rw [hy] at he;simp only [hx,hy];exact (zla he k).symm
   |some b=>rw [hy] at he;simp only [hx,hy];exact zbm1 (zxd L t) a b _ k T H he
 |makeInterface t x =>
  have he:evOp L T ⟨dst,.makeInterface t x,ty,pos,after,guard⟩ H=(match opnd T x with|some v=>val1 (zva L t v) H|none=>none):=rfl
  rw [zoa] at he;cases hx:opd x with
  |none=>rw [hx] at he;simp only [hx];exact (zla he k).symm
  |some a=>rw [hx] at he;simp only [hx];exact zgn (zva L t) a _ k T H he
 |nilCheck x =>
  have he:evOp L T ⟨dst,.nilCheck x,ty,pos,after,guard⟩ H=(match opnd T x with
   |some (.ptr i o)=>some (.val (.ptr i o) H)
   |some (.ifc t v)=>some (.val (.ifc t v) H)
   |some (.fn (.func f) a b)=>some (.val (.fn (.func f) a b) H)
   |some (.yld l)=>some (.val (.yld l) H)
   |_=>none):=rfl
  rw [zoa] at he;cases hx:opd x with
  |none=>rw [hx] at he;simp only [hx];exact (zla he k).symm
  |some a =>
   rw [hx] at he;simp only [hx];refine zgn nilF a _ k T H (he.trans ?_);simp only;cases a.ev T<;>first|rfl|(next f _ _=>cases f<;>rfl)
 |slice t x lo hi mx =>
  have he:evOp L T ⟨dst,.slice t x lo hi mx,ty,pos,after,guard⟩ H=(match opnd T x,mapO (opnd T) lo.toList,mapO (opnd T) hi.toList,mapO (opnd T) mx.toList with
   |some v,some a,some b,some c=>val1 (zgb L t v a.head? b.head? c.head?) H
   |_,_,_,_=>none):=rfl
  rw [zos] at he;cases hx:mapO opd (x::(lo.toList ++ (hi.toList ++ mx.toList))) with
  |none=>rw [hx] at he;simp only [hx];exact (zla he k).symm
  |some xs=>rw [hx] at he;simp only [hx];exact zyv (fun xs _=>zua L t lo.isSome hi.isSome mx.isSome xs) xs _ k T H he
 |convert s d x =>
  have he:evOp L T ⟨dst,.convert s d x,ty,pos,after,guard⟩ H=(match opnd T x with|some v=>val2 (zmb L s d v H)|none=>none):=rfl
  rw [zoa] at he;cases hd:L.under d with
  |none=>simp only [hd];exact zgp _ k T H
  |some dd =>
   cases dd with
   |int ki =>
    simp only [hd];have hs:∃ks,L.under s=some (.int ks):=by
     unfold zja zdh zal zsj at hl;simp only [hd] at hl;cases hs:L.under s with
     |none=>rw [hs] at hl;cases hl
     |some sd =>
      rw [hs] at hl;cases sd<;>first|exact ⟨_,rfl⟩|cases hl
    obtain ⟨ks,hs⟩:=hs;cases hx:opd x with
    |none=>rw [hx] at he;exact (zla he k).symm
    |some a =>
     rw [hx] at he;refine zgn (cvI ki) a ⟨dst,.convert s d x,ty,pos,after,guard⟩ k T H (he.trans ?_);have hc:zmb L s d (a.ev T) H=orec none (fun v=>some (v,H)) (cvI ki (a.ev T)):=by
      unfold zmb;rw [hs,hd];cases a.ev T<;>first|rfl|(show some (AV.int ki (fwrap ki _),H)=some (AV.int ki (fw ki _),H);rw [zie])
     show val2 (zmb L s d (a.ev T) H)=_
     rw [hc];cases cvI ki (a.ev T)<;>rfl
   |_=>simp only [hd];exact zgp _ k T H
 |build t ps =>
  have he:evOp L T ⟨dst,.build t ps,ty,pos,after,guard⟩ H=(match mapO (fun p=>match opnd T p.2 with|some v=>some (p.1,v)|none=>none) ps.toList with|some ps=>val1 (zsa L t ps) H|none=>none):=rfl
  rw [zns] at he;cases hx:mapO opd (ps.toList.map fun p=>p.2) with
  |none=>rw [hx] at he;simp only [hx];exact (zla he k).symm
  |some xs=>rw [hx] at he;simp only [hx];exact zyv (fun xs _=>zsa L t (zipF (ps.toList.map fun p=>p.1) xs)) xs _ k T H he
 |call c =>
  obtain ⟨callee,args,ats⟩:=c;cases callee with
  |builtin b =>
   have he:evOp L T ⟨dst,.call ⟨.builtin b,args,ats⟩,ty,pos,after,guard⟩ H=(match opnds T args.toList with|none=>none|some as=>val2 (zqb L b ats.toList as H)):=rfl
   rw [zqe] at he;simp only;cases hx:mapO opd args.toList with
   |none=>rw [hx] at he;exact (zla he k).symm
   |some xs =>
    rw [hx] at he;refine zyv (fun xs H=>fstO (zda b L ats.toList xs H)) xs ⟨dst,.call ⟨.builtin b,args,ats⟩,ty,pos,after,guard⟩ k T H ?_
    have hs:=fun r=>zfp (rec:=fun _=>none) (T:=T) (H:=H) (r:=r) hl
    simp only at he ⊢
    rw [zwl];unfold zwa at hs;rw [he] at hs ⊢
    cases hb:zqb L b ats.toList (evs xs T) H with
    |none=>rfl
    |some p =>
     rw [hb] at hs;have:=hs (p.1,p.2) rfl;show some (Next1.val p.1 p.2)=some (Next1.val p.1 H)
     rw [← this]
  |_=>exact zgp _ k T H
 |_=>exact zgp _ k T H
theorem zkf {o:Oper}{T:Tr AV}{H:AH}{w:Bool}{x:Option (AV×AH)}(h:evOp L T o (hIn w H)=val2 x) (k:K2) :
  zlc L rec kk o w k T H=orec none (fun r=>Prod.rec (motive:=fun _=>Option Out) (fun v H'=>runK L rec kk k (putS (dOf o.dst) v T) (hOut w H H')) r) x:=by
 unfold zlc zwa;rw [h];cases x with
 |none=>rfl
 |some r=>show runK L rec kk k (putT T o.dst r.1) (hOut w H r.2)=_;rw [← zfc];rfl
theorem zsd1 (f:List AV->AH->Option (AV×AH)) (xs:List O2) (o:Oper) (w:Bool) (k:K2) (T:Tr AV) (H:AH) (h:evOp L T o (hIn w H)=val2 (f (evs xs T) (hIn w H))):runK L rec kk (.hn w f xs (dOf o.dst) k) T H=zlc L rec kk o w k T H:=by
 rw [zkf h];rfl
theorem run_cn (f:List AV->AH->Option Next1) (xs:List O2) (o:Oper) (w:Bool) (k:K2) (T:Tr AV) (H:AH) (h:evOp L T o (hIn w H)=f (evs xs T) (hIn w H)):runK L rec kk (.cn w f xs (dOf o.dst) k) T H=zlc L rec kk o w k T H:=by
 show orec none (nextO rec (hIn w H) (fun v H'=>runK L rec kk k (putS (dOf o.dst) v T) (hOut w H H'))) (f (evs xs T) (hIn w H))=_
 unfold zlc zwa;rw [h];cases f (evs xs T) (hIn w H) with
 |none=>rfl
 |some nx =>
  cases nx with
  |val v H'=>show runK L rec kk k (putS (dOf o.dst) v T) (hOut w H H')=_;rw [zfc]
  |enter g args =>
   show orec none (outO (fun v H'=>runK L rec kk k (putS (dOf o.dst) v T) (hOut w H H'))) (rec (.call g args (hIn w H)))=_
   simp only;cases rec (.call g args (hIn w H)) with
   |none=>rfl
   |some out=>show runK L rec kk k (putS (dOf o.dst) (dflt (Tr.getLo .d0 .d0 out.T)) T) (hOut w H out.H)=_;rw [zph,zfc]
  |round l args =>
   show orec none (outO (fun v H'=>runK L rec kk k (putS (dOf o.dst) v T) (hOut w H H'))) (rec (.round l args (hIn w H)))=_
   simp only;cases rec (.round l args (hIn w H)) with
   |none=>rfl
   |some out=>show runK L rec kk k (putS (dOf o.dst) (dflt (Tr.getLo .d0 .d0 out.T)) T) (hOut w H out.H)=_;rw [zph,zfc]
theorem zqy {o:Oper}{w:Bool}{k:K2}{T:Tr AV}{H:AH}{t:TypeId}{m ky x:Operand}(he:evOp L T o (hIn w H)=(match opnd T m,opnd T ky,opnd T x with|some a,some b,some c=>unit1 (zqa L t a b c (hIn w H))|_,_,_=>none)) :
  runK L rec kk (orec .fail (fun xs=>.hn w (fun xs H=>unitF (zqa L t (hd xs) (hd (tl xs)) (hd (tl (tl xs))) H)) xs (dOf o.dst) k) (mapO opd [m,ky,x])) T H=zlc L rec kk o w k T H:=by
 rw [zoa,zoa,zoa] at he;simp only [zmd,zli];cases hx:opd m with
 |none=>rw [hx] at he;exact (zxa he k).symm
 |some a =>
  rw [hx] at he;cases hy:opd ky with
  |none=>rw [hy] at he;exact (zxa he k).symm
  |some b =>
   rw [hy] at he;cases hz:opd x with
   |none=>rw [hz] at he;exact (zxa he k).symm
   |some c =>
    rw [hz] at he;refine zsd1 (fun xs H=>unitF (zqa L t (hd xs) (hd (tl xs)) (hd (tl (tl xs))) H)) [a,b,c] o w k T H (he.trans ?_)
    show unit1 (zqa L t (a.ev T) (b.ev T) (c.ev T) (hIn w H))=val2 (unitF (zqa L t (a.ev T) (b.ev T) (c.ev T) (hIn w H)))
    cases zqa L t (a.ev T) (b.ev T) (c.ev T) (hIn w H)<;>rfl
theorem znk (o:Oper) (w:Bool) (k:K2) (T:Tr AV) (H:AH) (hl:zja L o=true):runK L rec kk (node L o w k) T H=zlc L rec kk o w k T H:=by
 obtain ⟨dst,op,ty,pos,after,guard⟩:=o;unfold node;rw [hl];cases op with
 |alloc e =>
  have he:evOp L T ⟨dst,.alloc e,ty,pos,after,guard⟩ (hIn w H)=(match L.zero e,L.size e with|some z,some s=>some (.val (.ptr (hIn w H).next 0) ((hIn w H).new (.cells z.toC e s false false)))|_,_=>none):=rfl
  cases hz:L.zero e with
  |none=>rw [hz] at he;simp only [hz];exact (zxa he k).symm
  |some z =>
   cases hs:L.size e with
   |none=>rw [hz,hs] at he;simp only [hz,hs];exact (zxa he k).symm
   |some s =>
    rw [hz,hs] at he;simp only [hz,hs];rw [zkf (x:=alF z.toC e s (hIn w H)) (by rw [he,zqd1];rfl)]
    rfl
 |box e x =>
  have he:evOp L T ⟨dst,.box e x,ty,pos,after,guard⟩ (hIn w H)=(match opnd T x,L.size e with|some v,some s=>some (.val (.ptr (hIn w H).next 0) ((hIn w H).new (.cells v.toC e s false false)))|_,_=>none):=rfl
  rw [zoa] at he;cases hs:L.size e with
  |none =>
   rw [hs] at he;simp only [hs];refine (zxa ?_ k).symm;rw [he];cases opd x<;>rfl
  |some s =>
   rw [hs] at he;simp only [hs];cases hx:opd x with
   |none=>rw [hx] at he;exact (zxa he k).symm
   |some a =>
    rw [hx] at he;rw [zkf (x:=alF (a.ev T).toC e s (hIn w H)) (by rw [he,zqd1];rfl)]
    rfl
 |store t a x =>
  have he:evOp L T ⟨dst,.store t a x,ty,pos,after,guard⟩ (hIn w H)=(match opnd T a,opnd T x with|some v,some u=>unit1 (zed L t v u (hIn w H))|_,_=>none):=rfl
  rw [zoa,zoa] at he;have fin:∀f:AV->AV->AH->Option AH,(∀a b H,f a b H=zed L t a b H) ->
    runK L rec kk (orec K2.fail (fun a=>orec .fail (fun b=>.st w f a b (dOf dst) k) (opd x)) (opd a)) T H=zlc L rec kk ⟨dst,.store t a x,ty,pos,after,guard⟩ w k T H:=fun f hf=>by
   cases ha:opd a with
   |none=>rw [ha] at he;exact (zxa he k).symm
   |some a =>
    rw [ha] at he;cases hx:opd x with
    |none=>rw [hx] at he;exact (zxa he k).symm
    |some b =>
     rw [hx] at he;rw [zkf (x:=orec none (fun H'=>some (AV.undef,H')) (f (a.ev T) (b.ev T) (hIn w H))) (by
      rw [he,hf];simp only;cases zed L t (a.ev T) (b.ev T) (hIn w H)<;>rfl)]
     show orec none (fun H'=>runK L rec kk k (putS (dOf dst) .undef T) (hOut w H H')) (f (a.ev T) (b.ev T) (hIn w H))=_
     cases f (a.ev T) (b.ev T) (hIn w H)<;>rfl
  cases hs:L.size t with
  |none =>
   simp only [hs];refine (zxa ?_ k).symm;rw [he];cases opd a<;>cases opd x<;>first
    |rfl
    |(simp only;unfold zed;rw [hs];cases O2.ev _ T<;>rfl)
  |some s =>
   simp only [hs];cases hb:Nat.beq s 1 with
   |true =>
    have hs1:=qf hb;subst hs1;exact fin _ (fun a b H=>zyl1 hs a b H)
   |false=>exact fin _ (fun a b H=>stN_eq hs a b H)
 |convert s d x =>
  have he:evOp L T ⟨dst,.convert s d x,ty,pos,after,guard⟩ (hIn w H)=(match opnd T x with|some v=>val2 (zmb L s d v (hIn w H))|none=>none):=rfl
  rw [zoa] at he;have other:runK L rec kk (orec K2.fail (fun x=>.m1 w (zmb L s d) x (dOf dst) k) (opd x)) T H=zlc L rec kk ⟨dst,.convert s d x,ty,pos,after,guard⟩ w k T H:=by
   cases hx:opd x with
   |none=>rw [hx] at he;exact (zxa he k).symm
   |some a=>rw [hx] at he;rw [zkf he];rfl
  cases hs:L.under s with
  |none=>simp only [hs];exact other
  |some sd =>
   cases hd:L.under d with
   |none=>simp only [hs,hd];exact other
   |some dd =>
    cases dd with
    |int ki =>
     simp only [hs,hd];cases hx:opd x with
     |none=>rw [hx] at he;exact (zxa he k).symm
     |some a =>
      rw [hx] at he;rw [zkf he];show orec none (fun v=>runK L rec kk k (putS (dOf dst) v T) H) (cvI ki (a.ev T))=_
      have hc:zmb L s d (a.ev T) (hIn w H)=orec none (fun v=>some (v,hIn w H)) (cvI ki (a.ev T)):=by
       unfold zmb;rw [hs,hd];cases a.ev T<;>first|rfl|(cases sd<;>rfl)|(show some (AV.int ki (fwrap ki _),hIn w H)=some (AV.int ki (fw ki _),hIn w H);rw [zie])
      rw [hc];cases cvI ki (a.ev T) with
      |none=>rfl
      |some v=>show runK L rec kk k (putS (dOf dst) v T) H=runK L rec kk k (putS (dOf dst) v T) (hOut w H (hIn w H));rw [zzl1]
    |_=>simp only [hs,hd];exact other
 |buildSlice t n ps =>
  have he:evOp L T ⟨dst,.buildSlice t n ps,ty,pos,after,guard⟩ (hIn w H)=(match mapO (fun p=>match opnd T p.2 with|some v=>some (p.1,v)|none=>none) ps.toList with|some ps=>val2 (ztb L t n ps (hIn w H))|none=>none):=rfl
  rw [zns] at he;cases hx:mapO opd (ps.toList.map fun p=>p.2) with
  |none=>rw [hx] at he;simp only [hx];exact (zxa he k).symm
  |some xs =>
   rw [hx] at he;simp only [hx];show runK L rec kk (match L.under t with
    |some (.slice e)=>(match L.size e,L.zero e with
     |some s,some z=>(match Nat.ble (n*s) 16777216 && Nat.beq (len z.cells) s with
      |true=>K2.hn w (fun xs H=>bsF s n z e (zipF (ps.toList.map fun p=>p.1) xs) H) xs (dOf dst) k
      |false=>.fail)
     |_,_=>.fail)
    |_=>.fail) T H=_
   have hno:(∀parts H,ztb L t n parts H=none)->zlc L rec kk ⟨dst,.buildSlice t n ps,ty,pos,after,guard⟩ w k T H=none:=fun h=>zxa (by rw [he];simp only;rw [h];rfl) k
   split
   ·next e hu =>
    split
    ·next s z hs hz =>
     split
     ·next hb=>exact zsd1 (fun xs H=>bsF s n z e (zipF (ps.toList.map fun p=>p.1) xs) H) xs ⟨dst,.buildSlice t n ps,ty,pos,after,guard⟩ w k T H (by rw [bsF_eq hu hs hz hb];exact he)
     ·next hb=>exact (hno fun parts H=>by unfold ztb;rw [hu];simp only [hs,hz,hb]).symm
    ·next hno2 =>
     refine (hno fun parts H=> ?_).symm
     unfold ztb;rw [hu];simp only
     try (split<;>first|rfl|(next s z hs hz=>exact (hno2 s z hs hz).elim))
   ·next hno2 =>
    refine (hno fun parts H=> ?_).symm
    unfold ztb
    try (split<;>first|rfl|(next e hu=>exact (hno2 e hu).elim))
 |mapUpdate t m ky x =>
  have he:evOp L T ⟨dst,.mapUpdate t m ky x,ty,pos,after,guard⟩ (hIn w H)=(match opnd T m,opnd T ky,opnd T x with|some a,some b,some c=>unit1 (zqa L t a b c (hIn w H))|_,_,_=>none):=rfl
  exact zqy he
 |insert t m ky x =>
  have he:evOp L T ⟨dst,.insert t m ky x,ty,pos,after,guard⟩ (hIn w H)=(match opnd T m,opnd T ky,opnd T x with|some a,some b,some c=>unit1 (zqa L t a b c (hIn w H))|_,_,_=>none):=rfl
  exact zqy he
 |makeMap t r =>
  cases r with
  |some x=>exact run_gh _ w k T H
  |none =>
   have he:evOp L T ⟨dst,.makeMap t none,ty,pos,after,guard⟩ (hIn w H)=some (.val (.map (hIn w H).next) ((hIn w H).new (.map [] 0))):=rfl;rw [zkf (x:=zxv (hIn w H)) (by rw [he];unfold zxv;rw [zzi];rfl)]
   rfl
 |makeSlice t l c =>
  have he:evOp L T ⟨dst,.makeSlice t l c,ty,pos,after,guard⟩ (hIn w H)=(match opnd T l,opnd T c with|some v,some u=>val2 (zqc L t v u (hIn w H))|_,_=>none):=rfl
  rw [zoa,zoa] at he;simp only [zmd,zli];cases hx:opd l with
  |none=>rw [hx] at he;exact (zxa he k).symm
  |some a =>
   rw [hx] at he;cases hy:opd c with
   |none=>rw [hy] at he;exact (zxa he k).symm
   |some b=>rw [hy] at he;exact zsd1 (fun xs H=>zqc L t (hd xs) (hd (tl xs)) H) [a,b] ⟨dst,.makeSlice t l c,ty,pos,after,guard⟩ w k T H he
 |call c =>
  obtain ⟨callee,args,ats⟩:=c;cases callee with
  |value f =>
   have dyn:runK L rec kk (orec K2.fail (fun xs=>.cn w (fun xs _=>zec (hd xs) (tl xs)) xs (dOf dst) k) (mapO opd (f::args.toList))) T H=zlc L rec kk ⟨dst,.call ⟨.value f,args,ats⟩,ty,pos,after,guard⟩ w k T H:=by
    have he:evOp L T ⟨dst,.call ⟨.value f,args,ats⟩,ty,pos,after,guard⟩ (hIn w H)=(match opnds T args.toList with|none=>none|some as=>(match opnd T f with|some g=>zec g as|none=>none)):=rfl
    rw [zqe,zoa] at he;simp only [zmd];cases hx:opd f with
    |none =>
     rw [hx] at he;refine (zxa (he.trans ?_) k).symm;cases mapO opd args.toList<;>rfl
    |some a =>
     rw [hx] at he;cases hm:mapO opd args.toList with
     |none=>rw [hm] at he;exact (zxa he k).symm
     |some xs=>rw [hm] at he;exact run_cn (fun xs _=>zec (hd xs) (tl xs)) (a::xs) ⟨dst,.call ⟨.value f,args,ats⟩,ty,pos,after,guard⟩ w k T H he
   cases f with
   |func g =>
    have he:evOp L T ⟨dst,.call ⟨.value (.func g),args,ats⟩,ty,pos,after,guard⟩ (hIn w H)=(match opnds T args.toList with|none=>none|some as=>some (.enter g ([] ++ as ++ []))):=rfl
    rw [zqe] at he;simp only;cases hm:mapO opd args.toList with
    |none=>rw [hm] at he;exact (zxa he k).symm
    |some xs =>
     rw [hm] at he;simp only [qm1,qw1] at he;show orec none (fun o=>Out.rec (motive:=fun _=>Option Out) (fun _ T' H'=>runK L rec kk k (putS (dOf dst) (dflt (Tr.getLo .d0 .d0 T')) T) (hOut w H H')) o) (rec (.call g (evs xs T) (hIn w H)))=_
     unfold zlc zwa;rw [he];simp only;cases rec (.call g (evs xs T) (hIn w H)) with
     |none=>rfl
     |some out =>
      show runK L rec kk k (putS (dOf dst) (dflt (Tr.getLo .d0 .d0 out.T)) T) (hOut w H out.H)=runK L rec kk k (putT T dst (zrg out)) (hOut w H out.H)
      rw [zph,zfc]
   |_=>exact dyn
  |invoke r name =>
   have he:evOp L T ⟨dst,.call ⟨.invoke r name,args,ats⟩,ty,pos,after,guard⟩ (hIn w H)=(match opnds T args.toList with|none=>none|some as=>(match opnd T r with|some v=>zgd L v name as (hIn w H)|none=>none)):=rfl
   rw [zqe,zoa] at he;simp only [zmd];cases hx:opd r with
   |none =>
    rw [hx] at he;refine (zxa (he.trans ?_) k).symm;cases mapO opd args.toList<;>rfl
   |some a =>
    rw [hx] at he;cases hm:mapO opd args.toList with
    |none=>rw [hm] at he;exact (zxa he k).symm
    |some xs=>rw [hm] at he;exact run_cn (fun xs H=>zgd L (hd xs) name (tl xs) H) (a::xs) ⟨dst,.call ⟨.invoke r name,args,ats⟩,ty,pos,after,guard⟩ w k T H he
  |builtin b =>
   have he:evOp L T ⟨dst,.call ⟨.builtin b,args,ats⟩,ty,pos,after,guard⟩ (hIn w H)=(match opnds T args.toList with|none=>none|some as=>val2 (zqb L b ats.toList as (hIn w H))):=rfl
   rw [zqe] at he;simp only;cases hm:mapO opd args.toList with
   |none=>rw [hm] at he;exact (zxa he k).symm
   |some xs=>rw [hm] at he;exact zsd1 (zam1 L b ats.toList) xs _ w k T H (by rw [zrd1];exact he)
 |_=>exact run_gh _ w k T H
end
end Go.Ev
end
