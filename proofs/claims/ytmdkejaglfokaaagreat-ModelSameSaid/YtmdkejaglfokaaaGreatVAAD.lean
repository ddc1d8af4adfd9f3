import Derived.Test.YtmdkejaglfokaaaGreatVAAC
import Derived.LoopNIn
import Derived.RangeFuncNested
import Derived.RowKit3
import Derived.Test.YtmdkejaglfokaaaGreatVAAA
noncomputable section
set_option maxHeartbeats 8000000
set_option linter.unusedSimpArgs false
set_option linter.unusedVariables false
namespace Go.Ev
section
variable {L:Lk}{P:Program}{B:Nat}{rec:Rec}{F:Fence}
def TG (f:Stp->Option AV):List Stp->Tr AV->Tr AV
 | [],T=>T
 |s::ss,T=>TG f ss (match f s with|some v=>putT T s.x.2.2.dst v|none=>T)
def vals (D0 D:Nat->Bool) (R:Nat->AV) (s:Stp):Option AV:=if D0 s.x.1=true then some s.v else if D s.x.1=true then some (R s.x.1) else none
theorem zcd1 (f:Stp->Option AV) (a b:List Stp):∀T,TG f (a ++ b) T=TG f b (TG f a T):=by
 induction a with
 |nil=>intro T;rfl
 |cons s a ih=>intro T;exact ih _
theorem zgs {f g:Stp->Option AV}{t:Nat}(ss:List Stp):∀(T T':Tr AV),(∀s∈ss,f s≠g s->s.x.2.2.dst≠some t)->getT T t=getT T' t->getT (TG f ss T) t=getT (TG g ss T') t:=by
 induction ss with
 |nil=>intro T T' _ h;exact h
 |cons s ss ih =>
  intro T T' hs h;refine ih _ _ (fun y hy=>hs y (by simp [hy])) ?_
  have h0:=hs s (by simp)
  by_cases hd:s.x.2.2.dst=some t
  ·have he:f s=g s:=by
    by_cases he:f s=g s
    ·exact he
    ·exact absurd hd (h0 he)
   rw [he];cases g s with
   |none=>exact h
   |some v=>simp only;rw [zxc,zxc,qj hd,qj hd]
  ·have k:∀(o:Option AV) (T:Tr AV),getT (match o with|some v=>putT T s.x.2.2.dst v|none=>T) t=getT T t:=by
    intro o T;cases o with
    |none=>rfl
    |some v=>simp only;rw [zxc,qg hd]
   rw [k,k,h]
theorem zah1 {f:Stp->Option AV}{t:Nat}(ss:List Stp):∀(T:Tr AV),(∀s∈ss,∀v,f s=some v->s.x.2.2.dst≠some t)->getT (TG f ss T) t=getT T t:=by
 induction ss with
 |nil=>intro T _;rfl
 |cons s ss ih =>
  intro T hs;refine (ih _ (fun y hy=>hs y (by simp [hy]))).trans ?_
  cases hf:f s with
  |none=>rfl
  |some v=>simp only;rw [zxc,qg (hs s (by simp) v hf)]
theorem TG_at {f:Stp->Option AV}{t:Nat}{a b:List Stp}{s:Stp}{v:AV}(T:Tr AV) (hd:s.x.2.2.dst=some t) (hv:f s=some v) (hb:∀y∈b,∀v,f y=some v->y.x.2.2.dst≠some t):getT (TG f (a ++ s::b) T) t=v:=by
 rw [zcd1];show getT (TG f b (match f s with|some v=>putT (TG f a T) s.x.2.2.dst v|none=>TG f a T)) t=v
 rw [hv,zah1 b _ hb];simp only;rw [zxc,qj hd]
theorem TG_TD (D:Nat->Bool) (ss:List Stp):∀T,TD D ss T=TG (fun s=>if D s.x.1=true then some s.v else none) ss T:=by
 induction ss with
 |nil=>intro T;rfl
 |cons s ss ih =>
  intro T;show TD D ss (if D s.x.1=true then putT T s.x.2.2.dst s.v else T)=_
  rw [ih];show _=TG _ ss (match (if D s.x.1=true then some s.v else none) with|some v=>putT T s.x.2.2.dst v|none=>T)
  split<;>rfl
theorem zdd1 {E:Env}{H:AH}{c:Nat}(h:Own E H c):Lives E H c:=by
 obtain ⟨i,b,hg,ho,_,he⟩:=h;exact ⟨i,b,hg,by cases b<;>first|rfl|(simp [ABlk.own] at ho),he⟩
theorem zzk1 {E:Env}{H:AH}{w:World}(hS:St B E H w){c:Nat}(h:Lives E H c):c<w.heap.size:=by
 obtain ⟨i,b,hg,hl,rfl⟩:=h;exact (hS.self.blk i b hg).obj hl
structure Pend (L:Lk) (B:Nat) (s:Stp) (D0:Nat->Bool) (E:Env) (H:AH) (w0 w:World) (c:Nat) (raw:AV):Prop where
 fl:zpd L s.x.2.2=true
 dep:Deps s.x.2.2 D0
 data:∃b z FV ex,FlS s b z FV/\zok L s.x.2.2=z/\(∀(E':Env) (i:Nat),E' i=⟨c,0,ex⟩->BRel E' i b w/\conc E' (FV i)=conc E' raw)
 base:B<=c
 ge:w0.heap.size<=c
 lt:c<w.heap.size
 dead:¬Lives E H c
theorem Deps.mono {o:Oper}{D D':Nat->Bool}(h:Deps o D) (hd:∀i,D i=true->D' i=true):Deps o D':=fun e he hb=>hd _ (h e he hb)
theorem Pend.next {s:Stp}{D0 D0':Nat->Bool}{E E1:Env}{H H1:AH}{w0 w w1:World}{c:Nat}{raw:AV}(h:Pend L B s D0 E H w0 w c raw) (hd:∀i,D0 i=true->D0' i=true) (hp:Post E H w E1 H1 w1):Pend L B s D0' E1 H1 w0 w1 c raw:=by
 obtain ⟨b,z,FV,ex,h1,h2,h3⟩:=h.data;refine ⟨h.fl,h.dep.mono hd,⟨b,z,FV,ex,h1,h2,fun E' i hi=>⟨(h3 E' i hi).1.congr fun _=> ?_,(h3 E' i hi).2⟩⟩,h.base,h.ge,qa1 h.lt hp.size,fun hl=> ?_⟩
 ·rw [hi];exact hp.frame c h.lt fun ho=>h.dead (zdd1 ho)
 ·rcases hp.lives c hl with hl|hl
  ·exact h.dead hl
  ·have:=h.lt;omega
structure Inv (L:Lk) (B:Nat) (all:List Oper) (T:Tr AV) (H:AH) (ss:List Stp) (zz:Bool) (E0:Env) (w0:World) (a0:Act) (D D0:Nat->Bool) (C:Nat->Nat) (R:Nat->AV) (E:Env) (w:World) (a:Act):Prop where
 closedD:zyo all D
 closed:zyo all D0
 sub:∀i,D0 i=true->D i=true
 pref:Pref L ss D0
 st:St B E (HD L D0 ss H) w
 wf:(HD L D0 ss H).Wf
 tmps:StT E (HD L D0 ss H).next (TG (vals D0 D R) ss T) a.tmps
 post:Post E0 (mz zz H) w0 E (mz zz (HD L D0 ss H)) w
 size:a.tmps.size=a0.tmps.size
 defs:a.defers=a0.defers
 mono:Mono L all H ss D0
 mark:∀s∈ss,zok L s.x.2.2=true->D0 s.x.1=true->(HD L D0 ss H).fz=true
 pend:∀s∈ss,D s.x.1=true->D0 s.x.1=false->Pend L B s D0 E (HD L D0 ss H) w0 w (C s.x.1) (R s.x.1)
 dist:∀s∈ss,∀t∈ss,D s.x.1=true->D0 s.x.1=false->D t.x.1=true->D0 t.x.1=false->s.x.1≠t.x.1->C s.x.1≠C t.x.1
theorem StT.congr {E:Env}{n:Nat}{T T':Tr AV}{tmps:Array Value}(h:StT E n T tmps) (he:∀t,getT T' t=getT T t):StT E n T' tmps:=by
 intro E' hE t;rw [he t];exact h E' hE t
theorem zfe {T T':Tr AV}{all:List Oper}{o:Oper}{H:AH}(h:∀t∈zei all o,getT T t=getT T' t):zva L rec T o H=zva L rec T' o H:=by
 unfold zva;rw [zay (L:=L) (T:=T) (T':=T') (o:=o) (H:=H) fun t ht=>h t (zbp ht)]
theorem Post.mzz {E E1:Env}{H H1:AH}{w w1:World}(h:Post E H w E1 H1 w1) (z:Bool):Post E (mz z H) w E1 (mz z H1) w1 :=
 ⟨h.ext,h.next,h.lo,h.hide,h.tape,h.os,h.output,h.size,h.frame,h.own,h.keep,h.loops,fun hf=>by
  have hf:(H1.fz || z)=false:=hf;rw [qt4] at hf;obtain ⟨k1,k2⟩:=h.froz hf.1;exact ⟨by show (H.fz || z)=false;rw [k1,hf.2];rfl,k2⟩,h.lives,h.dr⟩
theorem St.mzz {E:Env}{H:AH}{w:World}(h:St B E H w) (z:Bool):St B E (mz z H) w:=fun E' hE=>⟨(h E' hE).blk,(h E' hE).inj,(h E' hE).base,(h E' hE).size⟩
theorem mz_wf {H:AH}(h:H.Wf) (z:Bool):(mz z H).Wf:=⟨h.tree,h.lo,h.hide⟩
theorem bind_st {E:Env}{H:AH}{w:World}(hw:H.Wf) (hS:St B E H w){b:ABlk}{x:EB}(hb:∀E':Env,E' H.next=x->BRel E' H.next b w) (hdead:¬Lives E H x.blk) (hB:B<=x.blk):St B (E.add H.next x) (H.new b) w:=by
 intro E' hE;have hA:Agree H.next E E':=(Env.add_agree E H.next _).trans hE (qv3 _);have hn:E' H.next=x:=(hE H.next (qc1 _)).trans (Env.add_self _ _ _);have r:=hS E' hA;have dead:∀j d,H.get j=some d->d.live=true->(E' j).blk≠x.blk:=fun j d hg hl he=>hdead ⟨j,d,hg,hl,by rw [← he,hA j (hw.get_lt hg)]⟩
 refine ⟨fun i c hg=> ?_,fun i j c d hi hj hne hc hd=> ?_,fun i c hg hc=> ?_,r.size⟩
 ·rw [AH.new_get hw] at hg
  split at hg
  ·next h=>subst h;cases hg;exact hb E' hn
  ·exact r.blk i c hg
 ·rw [AH.new_get hw] at hi hj
  have hlc:c.live=true:=by cases c<;>first|rfl|(simp [ABlk.own] at hc)
  split at hi
  ·next h =>
   subst h;rw [qg (qz5 hne)] at hj;rw [hn];exact (dead j d hj hd).symm
  ·split at hj
   ·next h'=>subst h';rw [hn];exact dead i c hi hlc
   ·exact r.inj i j c d hi hj hne hc hd
 ·rw [AH.new_get hw] at hg
  split at hg
  ·next h=>subst h;rw [hn];exact hB
  ·exact r.base i c hg hc
theorem zed1 {E0 E:Env}{Ha Hb:AH}{w0 w:World}(hw:Hb.Wf) (hwa:Ha.Wf) (h:Post E0 Ha w0 E Hb w){b:ABlk}{x:EB}(hge:w0.heap.size<=x.blk) (q:Bool) (hq:q=false->Hb.fz=false) :
  Post E0 Ha w0 (E.add Hb.next x) {Hb.new b with fz:=q} w:=by
 have hadd:Agree Hb.next E (E.add Hb.next x):=Env.add_agree E Hb.next _;have hget:∀i,({Hb.new b with fz:=q}:AH).get i=(Hb.new b).get i:=fun _=>rfl
 refine ⟨h.ext.trans hadd h.next,qf5 h.next,h.lo,h.hide,h.tape,h.os,h.output,h.size,h.frame,fun c ho=> ?_,fun i hi=> ?_,h.loops,fun hf=>h.froz (hq hf),fun c ho=> ?_,h.dr⟩
 ·obtain ⟨i,d,hg,hd,hlo,he⟩:=ho
  rw [hget,AH.new_get hw] at hg;split at hg
  ·next hi=>subst hi;rw [Env.add_self] at he;right;rw [← he];exact hge
  ·refine h.own c ⟨i,d,hg,hd,hlo,?_⟩
   rw [← he,hadd i (hw.get_lt hg)]
 ·show (Hb.tree.set Hb.next b).get i=_
  rw [Tr.get_set,qg,h.keep i hi];rintro rfl;have hle:=h.next;rcases hi with hi|hi
  ·exact absurd hwa.lo oM
  ·rw [hwa.vis_ge hle] at hi;cases hi
 ·obtain ⟨i,d,hg,hd,he⟩:=ho
  rw [hget,AH.new_get hw] at hg;split at hg
  ·next hi=>subst hi;rw [Env.add_self] at he;right;rw [← he];exact hge
  ·refine h.lives c ⟨i,d,hg,hd,?_⟩
   rw [← he,hadd i (hw.get_lt hg)]
section
variable {all:List Oper}{T T1:Tr AV}{H H1:AH}{ss a b:List Stp}{s:Stp}{D D0:Nat->Bool}{zz:Bool}{E0 E:Env}{w0 w:World}{a0 act:Act}{C:Nat->Nat}{R:Nat->AV}
theorem At.pref' (h:At L rec all T H ss T1 H1 D a s b):Pref L ss (ins D s.x.1):=by
 intro a' t b' he hh hd y hy hyh;have up:∀z:Stp,D z.x.1=true->ins D s.x.1 z.x.1=true:=fun z hz=>by unfold ins;split<;>first|rfl|exact hz
 by_cases ht:t.x.1=s.x.1
 ·have hts:t=s:=h.other (by rw [he];simp) ht
  subst hts;have hfree:zbh L t.x.2.2=false:=by
   cases hx:zbh L t.x.2.2 with
   |false=>rfl
   |true=>exact (zpk hh hx).elim
  have hpos:=he.symm.trans h.eq;rw [qt6] at hpos;have hdup:∀(c:List Stp) (x:Stp),t∈c->(∀z∈c,Known2 L all z t)->False:=fun c x hc hk=>(hk t hc).pair.ne rfl
  rcases hpos with ⟨c,hc1,hc2⟩|⟨c,hc1,hc2⟩
  ·exact up y (h.hl hfree y (by rw [hc1];simp [hy]) hyh)
  ·cases c with
   |nil=>rw [qy1] at hc1;exact up y (h.hl hfree y (by rw [← hc1];exact hy) hyh)
   |cons z c =>
    exfalso
    simp only [qk2,qz2] at hc2;obtain ⟨rfl,hc2⟩:=hc2;have htb:t∈b:=by rw [hc2];simp
    exact (h.right t htb).pair.ne rfl
 ·have hdt:D t.x.1=true:=by
   have hd:(if t.x.1=s.x.1 then true else D t.x.1)=true:=hd
   rwa [qg ht] at hd
  exact up y (h.pref a' t b' he hh hdt y hy hyh)
theorem zdp {D:Nat->Bool}{k:Nat}{o:Oper}(hop:all[k]? =some o) (hc:zyo all D) (hd:Deps o D):zyo all (ins D k):=by
 intro i o' hi hdi e he hb;show (if e.on=k then true else D e.on)=true
 split
 ·rfl
 ·by_cases hk:i=k
  ·subst hk
   rw [hop] at hi;cases hi;exact hd e he hb
  ·have hdi:(if i=k then true else D i)=true:=hdi
   rw [qg hk] at hdi;exact hc i o' hi hdi e he hb
theorem Inv.bitP (hS:Steps L rec all T H ss T1 H1) (hI:Inv L B all T H ss zz E0 w0 a0 D D0 C R E w act){y:Stp}(hy:y∈ss) (hd:D y.x.1=true){j:Nat}(hj:D0 j=false):Nat.testBit y.x.2.1 j=false:=by
 cases hb:Nat.testBit y.x.2.1 j with
 |false=>rfl
 |true =>
  have hk:=hS.one y hy;have:D0 j=true:=by
   cases hd0:D0 y.x.1 with
   |true=>exact hk.anc D0 hI.closed (fun e he hbd=>hI.closed y.x.1 y.x.2.2 hk.op hd0 e he hbd) j hb
   |false=>exact hk.anc D0 hI.closed (hI.pend y hy hd hd0).dep j hb
  rw [hj] at this;cases this
theorem Inv.absorb (hS:Steps L rec all T H ss T1 H1) (hw0:H.Wf) (hI:Inv L B all T H ss zz E0 w0 a0 D D0 C R E w act) (heq:ss=a ++ s::b) (hD:D s.x.1=true) (hD0:D0 s.x.1=false) (hbef:∀y∈a,zia L y.x.2.2=true->D0 y.x.1=true) :
  ∃E',Inv L B all T H ss zz E0 w0 a0 D (ins D0 s.x.1) C R E' w act:=by
 have hs:s∈ss:=by rw [heq];simp
 have hP:=hI.pend s hs hD hD0;obtain ⟨bl,z,FV,ex,hfl,hz,hdata⟩:=hP.data;have hAt:At L rec all T H ss T1 H1 D0 a s b:=⟨hS,heq,hI.closed,hD0,hP.dep,fun _=>hbef,hI.pref⟩
 have hh:=zoi hP.fl;have e1:=hAt.heapNow hh;have e2:HD L (ins D0 s.x.1) ss H= {(HD L D0 ss H).new bl with fz:=(HD L D0 ss H).fz || z}:=by rw [hAt.heapThen hh,hfl.heap,e1]
 have up:∀i,D0 i=true->ins D0 s.x.1 i=true:=fun i hi=>by unfold ins;split<;>first|rfl|exact hi
 have dn:∀i,ins D0 s.x.1 i=true->i=s.x.1\/D0 i=true:=fun i hi=>by
  have hi:(if i=s.x.1 then true else D0 i)=true:=hi
  split at hi
  ·next h=>exact .inl h
  ·exact .inr hi
 have hst:St B (E.add (HD L D0 ss H).next ⟨C s.x.1,0,ex⟩) ((HD L D0 ss H).new bl) w:=bind_st hI.wf hI.st (fun E' hE'=>(hdata E' _ hE').1) hP.dead hP.base
 refine ⟨E.add (HD L D0 ss H).next ⟨C s.x.1,0,ex⟩,hI.closedD,hAt.closed,fun i hi=>(dn i hi).elim (fun h=>h▸hD) (hI.sub i),hAt.pref',?_,?_,?_,?_,hI.size,hI.defs,?_,?_,?_,?_⟩
 ·rw [e2];exact fun E' hE=>⟨(hst E' hE).blk,(hst E' hE).inj,(hst E' hE).base,(hst E' hE).size⟩
 ·rw [e2];exact ⟨(AH.new_wf hI.wf bl).tree,(AH.new_wf hI.wf bl).lo,(AH.new_wf hI.wf bl).hide⟩
 ·intro E'' hE t
  rw [e2] at hE;have hA:Agree (HD L D0 ss H).next E E'':=(Env.add_agree E _ _).trans hE (qv3 _);have hn:E'' (HD L D0 ss H).next=⟨C s.x.1,0,ex⟩:=(hE _ (qc1 _)).trans (Env.add_self _ _ _);rw [hI.tmps E'' hA t];by_cases hd:s.x.2.2.dst=some t
  ·have last:∀y∈b,D y.x.1=true->y.x.2.2.dst≠some t:=fun y hy hyd =>
    (zhf ((hAt.right y hy).pair.apart (hI.bitP hS (by rw [heq];simp [hy]) hyd hD0))).2.2 hd
   have v1:getT (TG (vals D0 D R) ss T) t=R s.x.1:=by
    rw [heq];refine TG_at T hd (by unfold vals;rw [qg (by rw [hD0];simp),qj hD]) fun y hy v hv=>last y hy ?_
    unfold vals at hv;split at hv
    ·next h=>exact hI.sub _ h
    ·split at hv
     ·next h=>exact h
     ·cases hv
   have v2:getT (TG (vals (ins D0 s.x.1) D R) ss T) t=s.v:=by
    rw [heq];refine TG_at T hd (by unfold vals;rw [qj (zfg _ _)]) fun y hy v hv=>last y hy ?_
    unfold vals at hv;split at hv
    ·next h=>exact (dn _ h).elim (fun h=>h▸hD) (hI.sub _)
    ·split at hv
     ·next h=>exact h
     ·cases hv
   rw [v1,v2,hfl.v,← e1];exact ((hdata E'' _ hn).2).symm
  ·congr 1
   refine zgs ss T T (fun y hy hne=> ?_) rfl
   by_cases hi:y.x.1=s.x.1
   ·rw [hAt.other hy hi];exact hd
   ·exfalso
    apply hne
    unfold vals ins;rw [qg hi]
 ·have:=zed1 (x:=⟨C s.x.1,0,ex⟩) (b:=bl) (mz_wf hI.wf zz) (mz_wf hw0 zz) hI.post hP.ge (((HD L D0 ss H).fz || z) || zz) (fun hq=>by
   show ((HD L D0 ss H).fz || zz)=false
   rw [qt4,qt4] at hq;rw [hq.1.1,hq.2];rfl)
  rw [e2];exact this
 ·refine hAt.mono hI.mono fun r _ hr _=>SubBl.toN hr fun _ i b' _ hg=> ?_
  rw [hfl.heap];have hwf:s.H.Wf:=by rw [← e1];exact hI.wf
  show (s.H.new bl).get i=_
  rw [AH.new_get hwf,qg (Nat.ne_of_lt (hwf.get_lt hg))];exact hg
 ·intro y hy hm hd
  rw [e2];show ((HD L D0 ss H).fz || z)=true
  rcases dn _ hd with hi|hi
  ·have:y=s:=hAt.other hy hi
   subst this;rw [hz] at hm;rw [hm,Bool.or_true]
  ·rw [hI.mark y hy hm hi];rfl
 ·intro y hy hd hd0
  have hne:y.x.1≠s.x.1:=fun h=>by rw [h,zfg] at hd0;cases hd0
  have hd0':D0 y.x.1=false:=by
   have hd0:(if y.x.1=s.x.1 then true else D0 y.x.1)=false:=hd0
   rwa [qg hne] at hd0
  have p:=hI.pend y hy hd hd0';refine ⟨p.fl,p.dep.mono up,p.data,p.base,p.ge,p.lt,?_⟩;rw [e2];rintro ⟨i,d,hg,hl,he⟩
  replace hg:((HD L D0 ss H).new bl).get i=some d:=hg
  rw [AH.new_get hI.wf] at hg;split at hg
  ·next hi =>
   subst hi;rw [Env.add_self] at he;exact hI.dist s hs y hy hD hD0 hd hd0' (qz5 hne) he
  ·refine p.dead ⟨i,d,hg,hl,?_⟩
   rw [← he,Env.add_agree E _ _ i (hI.wf.get_lt hg)]
 ·intro y hy t ht h1 h2 h3 h4 h5
  have dn':∀i,ins D0 s.x.1 i=false->D0 i=false:=fun i hi=>by
   cases h:D0 i with
   |false=>rfl
   |true=>rw [up i h] at hi;cases hi
  exact hI.dist y hy t ht h1 (dn' _ h2) h3 (dn' _ h4) h5
def Full (L:Lk) (ss:List Stp) (D D0:Nat->Bool):Prop:= ∀a f b,ss=a ++ f::b->D f.x.1=true->(∀y∈a,zia L y.x.2.2=true->D y.x.1=true)->D0 f.x.1=true
theorem Inv.sweep (hS:Steps L rec all T H ss T1 H1) (hw0:H.Wf):∀(rest pre:List Stp) (D0:Nat->Bool) (E:Env),ss=pre ++ rest->Inv L B all T H ss zz E0 w0 a0 D D0 C R E w act ->
  (∀a f b,pre=a ++ f::b->D f.x.1=true->(∀y∈a,zia L y.x.2.2=true->D y.x.1=true)->D0 f.x.1=true)-> ∃D0' E',Inv L B all T H ss zz E0 w0 a0 D D0' C R E' w act/\Full L ss D D0':=by
 intro rest
 induction rest with
 |nil =>
  intro pre D0 E he hI hp;rw [qy1] at he;subst he;exact ⟨D0,E,hI,hp⟩
 |cons f rest ih =>
  intro pre D0 E he hI hp;have hpre:∀(D1:Nat->Bool),(∀i,D0 i=true->D1 i=true)->(D f.x.1=true->(∀y∈pre,zia L y.x.2.2=true->D y.x.1=true)->D1 f.x.1=true) ->
    ∀a g b,pre ++ [f]=a ++ g::b->D g.x.1=true->(∀y∈a,zia L y.x.2.2=true->D y.x.1=true)->D1 g.x.1=true:=by
   intro D1 hup hf a g b hab hd hy;rcases qt6.1 hab with ⟨c,h1,h2⟩|⟨c,h1,h2⟩
   ·cases c with
    |nil =>
     simp only [qk1,qz2] at h2;obtain ⟨rfl,_⟩:=h2;rw [qy1] at h1;subst h1;exact hf hd hy
    |cons z c=>simp at h2
   ·cases c with
    |nil =>
     simp only [qk1,qz2] at h2;obtain ⟨rfl,_⟩:=h2;rw [qy1] at h1;subst h1;exact hf hd hy
    |cons z c =>
     simp only [qk2,qz2] at h2;obtain ⟨rfl,_⟩:=h2;exact hup _ (hp a g c h1 hd hy)
  by_cases hc:D f.x.1=true/\D0 f.x.1=false/\ ∀y∈pre,zia L y.x.2.2=true->D y.x.1=true
  ·obtain ⟨c1,c2,c3⟩:=hc
   obtain ⟨E',hI'⟩:=hI.absorb hS hw0 he c1 c2 fun y hy hh=>by
    obtain ⟨p1,p2,hpp⟩:=qr4 hy;exact hp p1 y p2 hpp (c3 y hy hh) fun z hz hzh=>c3 z (by rw [hpp];simp [hz]) hzh
   exact ih (pre ++ [f]) (ins D0 f.x.1) E' (by rw [he];simp) hI' (hpre _ (fun i hi=>by unfold ins;split<;>first|rfl|exact hi) fun _ _=>zfg _ _)
  ·refine ih (pre ++ [f]) D0 E (by rw [he];simp) hI (hpre _ (fun _ h=>h) fun h1 h2=> ?_)
   cases h0:D0 f.x.1 with
   |true=>rfl
   |false=>exact absurd ⟨h1,h0,h2⟩ hc
end
section
variable {all:List Oper}{T T1:Tr AV}{H H1:AH}{ss a b:List Stp}{s:Stp}{D D0:Nat->Bool}{zz:Bool}{E0 E:Env}{w0 w:World}{a0 act:Act}{C:Nat->Nat}{R:Nat->AV}
theorem Inv.anc0 (hS:Steps L rec all T H ss T1 H1) (hI:Inv L B all T H ss zz E0 w0 a0 D D0 C R E w act) (hF:Full L ss D D0) (heq:ss=a ++ s::b) (hdep:Deps s.x.2.2 D){y:Stp}(hy:y∈ss) (hb:Nat.testBit s.x.2.1 y.x.1=true):D0 y.x.1=true:=by
 have hk:=hS.one s (by rw [heq];simp)
 have hDa:∀j,Nat.testBit s.x.2.1 j=true->D j=true:=fun j hj=>hk.anc D hI.closedD hdep j hj
 have hin:∃z∈a,z.x.1=y.x.1:=by
  have hcl:zyo all (fun i=>a.any fun z=>Nat.beq z.x.1 i):=by
   intro i o hi hd e he hbd;simp only [qf4] at hd ⊢
   obtain ⟨z,hz,hzi⟩:=hd;have hzi:=qi hzi;subst hzi;have hop:=(hS.one z (by rw [heq];simp [hz])).op
   rw [hop] at hi;cases hi;obtain ⟨a1,a2,rfl⟩:=qr4 hz;obtain ⟨q,hq,hqe⟩:=hS.deps a1 z (a2 ++ s::b) (by rw [heq];simp) e he hbd
   exact ⟨q,by simp [hq],by rw [hqe];exact qr2 _⟩
  have hd:Deps s.x.2.2 (fun i=>a.any fun z=>Nat.beq z.x.1 i):=by
   intro e he hbd;obtain ⟨q,hq,hqe⟩:=hS.deps a s b heq e he hbd;exact qf4.2 ⟨q,hq,by rw [hqe];exact qr2 _⟩
  have:=hk.anc _ hcl hd y.x.1 hb;simp only [qf4] at this;obtain ⟨z,hz,hzi⟩:=this;exact ⟨z,hz,qi hzi⟩
 obtain ⟨z,hz,hzy⟩:=hin;rw [← hzy] at hb ⊢
 cases h0:D0 z.x.1 with
 |true=>rfl
 |false =>
  have hzs:z∈ss:=by rw [heq];simp [hz]
  have hzD:=hDa _ hb;have hP:=hI.pend z hzs hzD h0;obtain ⟨a1,a2,haa⟩:=qr4 hz;have hch:=hS.chain;rw [heq] at hch;have hpre:=hch.pre;rw [haa] at hpre;simp only [qe3,qp1,qp6,qi7,qy1,qg1,qi5] at hpre;have hfl:=flOk_ok hk.fl _ _ _ hpre hP.fl hb;have:=hF a1 z (a2 ++ s::b) (by rw [heq,haa];simp) hzD fun q hq hqh=>hDa _ (hfl q.x (by rw [ql6,qd3];exact ⟨q,hq,rfl⟩) hqh)
  rw [h0] at this;cases this
theorem zfd1 {L:Lk}{H H':AH}{i:Nat}(h:H'.get i=H.get i){t:TypeId}{k:AV}{ok:Bool}:zjb L t (.map i) k ok H'=zjb L t (.map i) k ok H:=by
 unfold zjb;simp only [h]
theorem zgd1 (hL:LOk0 L P) (hr:RecOk P B rec) (hF:Open F){ops:Array Oper}{Q:Exit->Act->World->Prop}
  (hS:Steps L rec ops.toList T H ss T1 H1) (hw0:H.Wf) (hzz:∀s∈ss,zok L s.x.2.2=true->zz=true) (heq:ss=a ++ s::b) (hnew:D s.x.1=false) (hdep:Deps s.x.2.2 D)
  (hI:Inv L B ops.toList T H ss zz E0 w0 a0 D D0 C R E w act) (hFull:Full L ss D D0) (hd:∀o∈ops.toList,∀d,o.dst=some d->d<a0.tmps.size){K:Act->World->Prop}
  (hK:∀E2 w2 a2 D2 C2 R2,Inv L B ops.toList T H ss zz E0 w0 a0 (ins D s.x.1) D2 C2 R2 E2 w2 a2->K a2 w2):wpOpIn F 0 P ops Q s.x.1 K act w:=by
 have hsm:s∈ss:=by rw [heq];simp
 have hk1:=hS.one s hsm;have h0:ops[s.x.1]? =some s.x.2.2:=by have:=hk1.op;simpa using this
 have hdo:∀d,s.x.2.2.dst=some d->d<act.tmps.size:=fun d hdd=>by
  rw [hI.size];exact hd _ (qj6 hk1.op) d hdd
 have hnew0:D0 s.x.1=false:=by
  cases h:D0 s.x.1 with
  |false=>rfl
  |true=>rw [hI.sub _ h] at hnew;cases hnew
 have bitS:∀y∈ss,D0 y.x.1=false->Nat.testBit s.x.2.1 y.x.1=false:=fun y hy hy0=>by
  cases hb:Nat.testBit s.x.2.1 y.x.1 with
  |false=>rfl
  |true=>rw [hI.anc0 hS hFull heq hdep hy hb] at hy0;cases hy0
 have hdep0:Deps s.x.2.2 D0:=by
  intro e he hbd;obtain ⟨q,hq,hqe⟩:=hS.deps a s b heq e he hbd;rw [← hqe];refine hI.anc0 hS hFull heq hdep (by rw [heq];simp [hq]) ?_
  rw [hqe,hk1.bits];exact zuk1 e he hbd
 have hleft:∀y∈a,Known2 L ops.toList y s:=by
  have:=hS.two;rw [heq,qw5] at this;exact fun y hy=>this.2.2 y hy s (by simp)
 have hright:∀y∈b,Known2 L ops.toList s y:=by
  have:=hS.two;rw [heq,qw5,qx6] at this;exact fun y hy=>this.2.1.1 y hy
 have hother:∀y∈ss,y.x.1=s.x.1->y=s:=by
  intro y hy hi;rw [heq,qs2,qe1] at hy;rcases hy with hy|rfl|hy
  ·exact absurd hi (hleft y hy).pair.ne
  ·rfl
  ·exact absurd hi.symm (hright y hy).pair.ne
 have lastR:∀y∈b,D y.x.1=true->clash ops.toList s.x.2.2 y.x.2.2=false:=fun y hy hyd=>(hright y hy).pair.apart (hI.bitP hS (by rw [heq];simp [hy]) hyd hnew0)
 have hlk0:∀t∈zei ops.toList s.x.2.2,getT (TG (vals D0 D R) ss T) t=getT (TD D0 ss T) t:=by
  intro t ht;rw [TG_TD];refine zgs ss T T (fun y hy hne=> ?_) rfl
  have hyp:D y.x.1=true/\D0 y.x.1=false:=by
   unfold vals at hne;cases h1:D0 y.x.1 with
   |true=>rw [h1] at hne;simp at hne
   |false =>
    cases h2:D y.x.1 with
    |true=>exact ⟨rfl,rfl⟩
    |false=>rw [h1,h2] at hne;simp at hne
  rw [heq,qs2,qe1] at hy;rcases hy with hy|rfl|hy
  ·exact fun hdst=>(zhf ((hleft y hy).pair.apart (bitS y (by rw [heq];simp [hy]) hyp.2))).1 hdst ht
  ·rw [hnew] at hyp;cases hyp.1
  ·exact fun hdst=>(zhf (lastR y hy hyp.1)).2.1 hdst ht
 have hlkT:∀t∈zei ops.toList s.x.2.2,getT (TD D0 ss T) t=getT s.T t:=by
  intro t ht;have hc:=hS.chain;rw [heq] at hc;rw [heq,zqh,(hc.at a).1,zzo]
  ·refine zdy a T T (fun y hy hdd=> ?_) rfl
   have hyd:D0 y.x.1=false:=by
    cases hh:D0 y.x.1 with
    |false=>rfl
    |true=>rw [hh] at hdd;exact absurd rfl hdd
   exact fun hdst=>(zhf ((hleft y hy).pair.apart (bitS y (by rw [heq];simp [hy]) hyd))).1 hdst ht
  ·intro y hy hyd hdst
   rcases qe1.1 hy with rfl|hy
   ·rw [hnew0] at hyd;cases hyd
   ·exact (zhf (lastR y hy (hI.sub _ hyd))).2.1 hdst ht
 have hlk:∀t∈zei ops.toList s.x.2.2,getT (TG (vals D0 D R) ss T) t=getT s.T t:=fun t ht=>(hlk0 t ht).trans (hlkT t ht)
 have valsD:∀(D0 D:Nat->Bool) (R:Nat->AV) (y:Stp) (v:AV),(∀i,D0 i=true->D i=true)->vals D0 D R y=some v->D y.x.1=true:=by
  intro D0 D R y v hsub hv;unfold vals at hv;split at hv
  ·next h=>exact hsub _ h
  ·split at hv
   ·next h=>exact h
   ·cases hv
 have subI:∀{D0':Nat->Bool},(∀i,D0' i=true->D i=true)-> ∀i,D0' i=true->ins D s.x.1 i=true:=fun h i hi=>by unfold ins;split<;>first|rfl|exact h i hi
 have insD:∀y:Stp,y≠s->y∈ss->ins D s.x.1 y.x.1=D y.x.1:=fun y hne hy=>qg fun h=>hne (hother y hy h)
 have temps:∀(D0':Nat->Bool) (R':Nat->AV) (v:AV),(∀i,D0' i=true->ins D s.x.1 i=true)->vals D0' (ins D s.x.1) R' s=some v->(∀y∈ss,y≠s->vals D0' (ins D s.x.1) R' y=vals D0 D R y) ->
   ∀t,getT (TG (vals D0' (ins D s.x.1) R') ss T) t=getT (putT (TG (vals D0 D R) ss T) s.x.2.2.dst v) t:=by
  intro D0' R' v hsub hv hsame t;rw [zxc];split
  ·next hdst =>
   rw [heq];refine TG_at T hdst hv fun y hy u hu=> ?_
   have hys:y≠s:=fun h=>(hright y hy).pair.ne (by rw [h])
   have hyd:=valsD _ _ _ y u hsub hu;rw [insD y hys (by rw [heq];simp [hy])] at hyd
   exact (zhf (lastR y hy hyd)).2.2 hdst
  ·next hdst =>
   refine zgs ss T T (fun y hy hne=> ?_) rfl
   by_cases hys:y=s
   ·rw [hys];exact hdst
   ·exact absurd (hsame y hy hys) hne
 unfold wpOpIn;simp only [h0];rw [zbs (hI.tmps E (Agree.refl _ _)) ops s.x.2.2,zap (all:=ops.toList) hlk];by_cases hall:zbh L s.x.2.2=false-> ∀y∈a,zia L y.x.2.2=true->D0 y.x.1=true
 ·have hAt:At L rec ops.toList T H ss T1 H1 D0 a s b:=⟨hS,heq,hI.closed,hnew0,hdep0,hall,hI.pref⟩
  have fin:∀(u:Value) (E2:Env) (w2:World),St B E2 (HD L (ins D0 s.x.1) ss H) w2->(HD L (ins D0 s.x.1) ss H).Wf->StV E2 (HD L (ins D0 s.x.1) ss H).next s.v u->Post E (HD L D0 ss H) w E2 (HD L (ins D0 s.x.1) ss H) w2->(∀r∈a,zad L r.x.2.2=true->Nat.testBit s.x.2.1 r.x.1=false->SubN L ops.toList r s.H s.H') ->
    K (act.put s.x.2.2.dst u) w2:=by
   intro u E2 w2 h1 h2 h3 h4 h5;have up:∀i,D0 i=true->ins D0 s.x.1 i=true:=fun i hi=>by unfold ins;split<;>first|rfl|exact hi
   have dn:∀y∈ss,ins D0 s.x.1 y.x.1=true->y=s\/D0 y.x.1=true:=fun y hy hi=>by
    have hi:(if y.x.1=s.x.1 then true else D0 y.x.1)=true:=hi
    split at hi
    ·next h=>exact .inl (hother y hy h)
    ·exact .inr hi
   have off:∀y∈ss,ins D s.x.1 y.x.1=true->ins D0 s.x.1 y.x.1=false->D y.x.1=true/\D0 y.x.1=false:=fun y hy hd hd0=>by
    have hne:y≠s:=fun h=>by rw [h,zfg] at hd0;cases hd0
    rw [insD y hne hy] at hd;refine ⟨hd,?_⟩;cases h:D0 y.x.1 with
    |false=>rfl
    |true=>rw [up _ h] at hd0;cases hd0
   have sub':∀i,ins D0 s.x.1 i=true->ins D s.x.1 i=true:=fun i hi=>by
    have hi:(if i=s.x.1 then true else D0 i)=true:=hi
    show (if i=s.x.1 then true else D i)=true
    split at hi
    ·next h=>rw [qj h]
    ·next h=>rw [qg h];exact hI.sub i hi
   refine hK E2 w2 _ (ins D0 s.x.1) C R ⟨zdp hk1.op hI.closedD hdep,hAt.closed,sub',hAt.pref',h1,h2,?_,hI.post.trans (h4.mzz zz),(zni _ _ _).trans hI.size,(zph _ _ _).trans hI.defs,hAt.mono hI.mono h5,?_,?_,?_⟩
   ·refine (StT.put (hI.tmps.up h4.ext h4.next) h3 hdo).congr (temps _ _ _ sub' (by unfold vals;rw [qj (zfg _ _)]) fun y hy hne=> ?_)
    unfold vals;rw [insD y hne hy,show ins D0 s.x.1 y.x.1=D0 y.x.1 from qg fun h=>hne (hother y hy h)]
   ·intro y hy hm hyd
    have mono:(HD L D0 ss H).fz=true->(HD L (ins D0 s.x.1) ss H).fz=true:=fun hz=>by
     cases hq:(HD L (ins D0 s.x.1) ss H).fz with
     |true=>rfl
     |false=>rw [(h4.froz hq).1] at hz;cases hz
    rcases dn y hy hyd with rfl|hy0
    ·have hfl:zpd L y.x.2.2=true:=by unfold zok at hm;rw [qm] at hm;exact hm.1
     obtain ⟨bl,z,FV,hfs,hz,_⟩:=zfy (P:=P) (F:=F) hL hk1.step hfl (ztv hm);rw [hAt.heapThen (zoi hfl),hfs.heap];show (y.H.fz || z)=true
     rw [← hz,hm,Bool.or_true]
    ·exact mono (hI.mark y hy hm hy0)
   ·intro y hy hyd hyd0
    obtain ⟨q1,q2⟩:=off y hy hyd hyd0;exact (hI.pend y hy q1 q2).next up h4
   ·intro y hy t ht q1 q2 q3 q4 q5
    obtain ⟨y1,y2⟩:=off y hy q1 q2;obtain ⟨t1,t2⟩:=off t ht q3 q4;exact hI.dist y hy t ht y1 y2 t1 t2 q5
  rcases hk1.step with ⟨hw,⟨hv,hH⟩,_⟩|⟨hw,hcase⟩
  ·rw [qg (by rw [hw];simp)]
   refine ⟨fun f _=>hF.1 f,?_⟩
   have he:HD L (ins D0 s.x.1) ss H=HD L D0 ss H:=by
    by_cases hh:zia L s.x.2.2=true
    ·rw [hAt.heapThen hh,hAt.heapNow hh,hH]
    ·exact hAt.heapLight (by simpa using hh)
   refine fin undef E w ?_ ?_ ?_ ?_ ?_
   ·rw [he];exact hI.st
   ·rw [he];exact hI.wf
   ·rw [hv];exact fun _ _=>rfl
   ·rw [he];exact Post.refl _ _ _
   ·intro r _ _ _;rw [hH];exact SubN.same
  ·rw [qj hw]
   rcases hcase with ⟨hh,⟨H2,hev⟩,hH⟩|⟨hh,hwt,hev⟩|⟨hh,hfar,hev⟩|⟨hh,hwt,hev⟩
   ·have he:=hAt.heapLight hh
    have hev2:zva L rec (TG (vals D0 D R) ss T) s.x.2.2 (HD L D0 ss H)=some (s.v,HD L D0 ss H):=by
     rw [zfe (all:=ops.toList) hlk];unfold zva at hev ⊢
     cases hop:evOp L s.T s.x.2.2 s.H with
     |none=>rw [hop] at hev;cases hev
     |some nx =>
      rw [hop] at hev;have key:∃v,nx= .val v s.H/\evOp L s.T s.x.2.2 (HD L D0 ss H)=some (.val v (HD L D0 ss H)):=by
       rcases zgy hh with hp|⟨hp,hr'⟩
       ·obtain ⟨v,h1,h2⟩:=zby hp hop
        exact ⟨v,h1,h2 _⟩
       ·obtain ⟨v,h1,h2⟩:=zzc1 (r:=s) hw hp hop
        refine ⟨v,h1,h2 _ (hI.mono a s b heq hr' hnew0 (hall ?_))⟩;cases hx:zbh L s.x.2.2 with
        |false=>rfl
        |true=>exact (zuv hr' hx).elim
      obtain ⟨v,rfl,h2⟩:=key;rw [h2];simp only [qz1,qs7] at hev ⊢
      exact ⟨hev.1,trivial⟩
    refine zsg hL hr hF hev2 hI.wf hI.st hI.tmps fun u w1 ⟨E1,hv,hS1,hp,hw1⟩=> ?_
    refine fin u E1 w1 ?_ ?_ ?_ ?_ ?_
    ·rw [he];exact hS1
    ·rw [he];exact hw1
    ·rw [he];exact hv
    ·rw [he];exact hp
    ·intro r _ _ _;rw [hH];exact SubN.same
   ·have e1:=hAt.heapNow hh
    have e2:=hAt.heapThen hh;have hev2:zva L rec (TG (vals D0 D R) ss T) s.x.2.2 (HD L D0 ss H)=some (s.v,s.H'):=by
     rw [zfe (all:=ops.toList) hlk,e1];exact hev
    refine zsg hL hr hF hev2 hI.wf hI.st hI.tmps fun u w1 ⟨E1,hv,hS1,hp,hw1⟩=> ?_
    refine fin u E1 w1 ?_ ?_ ?_ ?_ ?_
    ·rw [e2];exact hS1
    ·rw [e2];exact hw1
    ·rw [e2];exact hv
    ·rw [e2];exact hp
    ·intro r hra hr hb
     obtain ⟨a1,a2,haa⟩:=qr4 hra;have hch:=hAt.S.chain;rw [hAt.eq] at hch;have hpre:=hch.pre;rw [haa] at hpre;simp only [qe3,qp1,qp6,qi7,qy1,qg1,qi5] at hpre;exact (zvc1 _ _ hwt _ _ _ hpre hr hb).elim
   ·have e1:=hAt.heapNow hh
    have e2:=hAt.heapThen hh;have hev2:zva L rec (TG (vals D0 D R) ss T) s.x.2.2 (HD L D0 ss H)=some (s.v,s.H'):=by
     rw [zfe (all:=ops.toList) hlk,e1];exact hev
    refine zsg hL hr hF hev2 hI.wf hI.st hI.tmps fun u w1 ⟨E1,hv,hS1,hp,hw1⟩=> ?_
    refine fin u E1 w1 ?_ ?_ ?_ ?_ ?_
    ·rw [e2];exact hS1
    ·rw [e2];exact hw1
    ·rw [e2];exact hv
    ·rw [e2];exact hp
    ·intro r hra hr hb hwr
     obtain ⟨t,k,vo,j,o,hop,hgk,hrest⟩:=far_ok hfar;obtain ⟨a1,a2,haa⟩:=qr4 hra;have hch:=hAt.S.chain;rw [hAt.eq] at hch;have hpre:=hch.pre;rw [haa] at hpre;simp only [qe3,qp1,qp6,qi7,qy1,qg1,qi5] at hpre;have hsT:=(hch.at a).1;have hrT:r.T=TD tt a1 T:=by
      have hch2:=hch;rw [haa,qg1,qk2] at hch2;exact (hch2.at a1).1
     have same:∀k',(∀z∈(a2.map (·.x)).reverse ++ [r.x],z.2.2.dst≠some k')->getT s.T k'=getT r.T k':=fun k' h4=>by
      rw [hsT,haa,zqh,← hrT];refine zzo _ _ fun z hz _ hd=>h4 z.x ?_ hd
      rcases qe1.1 hz with rfl|hz
      ·simp
      ·rw [qs2];left;rw [ql6,qd3];exact ⟨z,hz,rfl⟩
     rcases hrest _ _ _ hpre hr hb with ⟨g,q,d,bb,h1,h2,h3,h4,h5,h6,h7⟩|⟨k',i',hrd,h3,h4⟩
     ·exfalso
      have hgt:=same d h7;have hrd:r.T.get d=some (.bool bb):=by
       unfold getT at hgt;rw [h5] at hgt;cases hc:r.T.get d with
       |none=>rw [hc] at hgt;cases hgt
       |some x=>rw [hc] at hgt;simp only [qu4] at hgt;rw [hgt]
      have hq:ops.toList[q.1]? =some q.2.2:=by
       rw [ql6,qd3] at h2;obtain ⟨z,hz,rfl⟩:=h2;exact (hAt.S.one z (by rw [hAt.eq,haa];simp [hz])).op
      unfold zac at hwr;obtain ⟨g1,g2⟩:=g;simp only at h3 h6;subst h3;rw [h1] at hwr;simp only [zcg,hq,h4,hrd] at hwr;cases bb<;>cases g2<;>first|(exact h6 rfl)|(cases hwr)
     have hgt:=same k' h4;have up:∀{v:AV},s.T.get k'=some v->r.T.get k'=some v:=fun {v} h2=>by
      unfold getT at hgt;rw [h2] at hgt;cases hc:r.T.get k' with
      |none =>
       rw [hc] at hgt;simp only [qu4,Option.getD_none] at hgt;subst hgt;rcases hrd with ⟨_,_,_,e⟩|⟨_,_,_,_,e⟩<;>(rw [h2] at e;cases e)
      |some x=>rw [hc] at hgt;simp only [qu4] at hgt;rw [hgt]
     have hoth:=zqv hop hgk hev h3;rcases hrd with ⟨t',o',h1,h2⟩|⟨t',x',ok',h1,h2⟩
     ·exact SubBl.toN hr (fun _ i b hn hg=>by
       have hii:i=i':=hn t' k' i' o' h1 (up h2);rw [hii] at hg ⊢
       rw [hoth];exact hg) hwr
     ·intro v hv
      unfold evOp at hv ⊢
      rw [h1] at hv ⊢
      have o:opnd r.T (.tmp k')=some (.map i'):=by
       show (match r.T.get k' with|some v=>some v|none=>some AV.undef)=_
       rw [up h2]
      simp only [o] at hv ⊢
      cases hx:opnd r.T x' with
      |none=>rw [hx] at hv;cases hv
      |some y =>
       rw [hx] at hv;simp only at hv ⊢
       rw [zfd1 hoth];cases he:zjb L t' (.map i') y ok' s.H with
       |none=>rw [he] at hv;cases hv
       |some q=>rw [he] at hv;simp only [val1,qz1,Next1.val.injEq] at hv ⊢;exact ⟨hv.1,trivial⟩
   ·have e1:=hAt.heapNow hh
    have e2:=hAt.heapThen hh;unfold zid at hev;split at hev
    ·next js hjs =>
     split at hev
     ·next r0 hev0 =>
      split at hev
      ·next hsame =>
       cases hev
       have hev2:zva L rec (TG (vals D0 D R) ss T) s.x.2.2 (HD L D0 ss H)=some (s.v,s.H'):=by
        rw [zfe (all:=ops.toList) hlk,e1];exact hev0
       have hjs':zce s.x L s.T s.pre []=some js:=by
        split at hjs
        ·exact hjs
        ·cases hjs
       refine zsg hL hr hF hev2 hI.wf hI.st hI.tmps fun u w1 ⟨E1,hv,hS1,hp,hw1⟩=> ?_
       refine fin u E1 w1 ?_ ?_ ?_ ?_ ?_
       ·rw [e2];exact hS1
       ·rw [e2];exact hw1
       ·rw [e2];exact hv
       ·rw [e2];exact hp
       ·intro r hra hr hb
        refine SubBl.toN hr fun hwr i b hn hg=> ?_
        obtain ⟨a1,a2,haa⟩:=qr4 hra;have hch:=hAt.S.chain;rw [hAt.eq] at hch;have hpre:=hch.pre;rw [haa] at hpre;simp only [qe3,qp1,qp6,qi7,qy1,qg1,qi5] at hpre;obtain ⟨t',k',i',o',h1,h2,h3,_,h4⟩:=zsv _ _ _ hjs' _ _ _ hpre hr hb;have hsT:=(hch.at a).1;have hrT:r.T=TD tt a1 T:=by
         have hch2:=hch;rw [haa,qg1,qk2] at hch2;exact (hch2.at a1).1
        have hgt:getT s.T k'=getT r.T k':=by
         rw [hsT,haa,zqh,← hrT];refine zzo _ _ fun z hz _ hd=>h4 z.x ?_ hd
         rcases qe1.1 hz with rfl|hz
         ·simp
         ·rw [qs2];left;rw [ql6,qd3];exact ⟨z,hz,rfl⟩
        have hrk:r.T.get k'=some (.ptr i' o'):=by
         unfold getT at hgt;rw [h2] at hgt;cases hc:r.T.get k' with
         |none=>rw [hc] at hgt;cases hgt
         |some x=>rw [hc] at hgt;simp only [qu4] at hgt;rw [hgt]
        have hii:i=i':=hn t' k' i' o' h1 hrk;rw [hii] at hg ⊢
        rw [zbd1 hsame i' h3];exact hg
      ·cases hev
     ·cases hev
    ·split at hev
     ·next r0 hev0 =>
      simp only [qz1,qs7] at hev;obtain ⟨hvv,hHH⟩:=hev;have hwf:({HD L D0 ss H with lo:=(HD L D0 ss H).next}:AH).Wf:=⟨hI.wf.tree,qn _,hI.wf.hide⟩
      have hev2:zva L rec (TG (vals D0 D R) ss T) s.x.2.2 {HD L D0 ss H with lo:=(HD L D0 ss H).next}=some (s.v,r0.2):=by
       rw [zfe (all:=ops.toList) hlk,e1,← hvv];exact hev0
      refine zsg hL hr hF hev2 hwf (hI.st.relo _) hI.tmps fun u w1 ⟨E1,hv,hS1,hp,hw1⟩=> ?_
      obtain ⟨r1,r2,r3⟩:=relo hI.wf hp hw1;rw [e1] at r2 r3;have e3:({r0.2 with lo:=(HD L D0 ss H).lo}:AH)=s.H':=by rw [e1,hHH]
      refine fin u E1 w1 ?_ ?_ ?_ ?_ ?_
      ·rw [e2,← hHH];exact hS1.relo _
      ·rw [e2,← hHH];exact r2
      ·rw [e2,← hHH];exact hv
      ·rw [e2,← e3];exact r1
      ·intro r _ hr _;rw [← hHH];exact r3.toN hr
     ·cases hev
 ·-- a float whose block is not told of yet
  have hall':zbh L s.x.2.2=false/\ ∃y∈a,zia L y.x.2.2=true/\D0 y.x.1=false:=by
   refine Classical.byContradiction fun hc=>hall fun hfree y hy hyh=> ?_
   cases h:D0 y.x.1 with
   |true=>rfl
   |false=>exact absurd ⟨hfree,y,hy,hyh,h⟩ hc
  obtain ⟨hfree,y0,hy0,hyh,hyd⟩:=hall';have hfl:zpd L s.x.2.2=true:=by
   have:=(hleft y0 hy0).pair.mem (bitS y0 (by rw [heq];simp [hy0]) hyd) hyh
   rcases this with h|h
   ·rw [hfree] at h;cases h
   ·exact h
  have hwd:zac ops.toList s.T s.x.2.2=true:=by
   rcases hk1.step with ⟨_,_,hlo⟩|⟨hw,_⟩
   ·exfalso
    unfold loose at hlo;rw [hfl,qo2] at hlo;have:=qj7.1 hlo y0.x (by
     have hch:=hS.chain;rw [heq] at hch;have hpre:=hch.pre;rw [hpre];simp only [qy1,ql6,qd3];exact ⟨y0,hy0,rfl⟩)
    rw [hyh,bitS y0 (by rw [heq];simp [hy0]) hyd] at this
    exact this rfl
   ·exact hw
  rw [qj hwd];obtain ⟨bl,z,FV,hfs,hz,hrun⟩:=zfy (P:=P) (F:=F) hL hk1.step hfl hwd;obtain ⟨u,w',ex,raw,o,q1,q2,q3,q4,q5⟩:=hrun E _ _ act w hI.tmps fun t ht=>hlk t (zbp ht)
  refine ⟨fun f _=>hF.1 f,?_⟩
  rw [q1];have hne:∀y∈ss,y≠s->y.x.1≠s.x.1:=fun y hy h h'=>h (hother y hy h')
  have hpw:Post E (mz zz (HD L D0 ss H)) w E (mz zz (HD L D0 ss H)) w':=q2.post fun hzz'=>q3 (by
   cases z with
   |false=>rfl
   |true=>rw [hzz s hsm hz] at hzz';cases hzz')
  refine hK E w' _ D0 (fun i=>if i=s.x.1 then w.heap.size else C i) (fun i=>if i=s.x.1 then raw else R i)
   ⟨zdp hk1.op hI.closedD hdep,hI.closed,subI hI.sub,hI.pref,q2.st hI.st,hI.wf,?_,hI.post.trans hpw,(zni _ _ _).trans hI.size,(zph _ _ _).trans hI.defs,hI.mono,hI.mark,?_,?_⟩
  ·refine (StT.put hI.tmps (v:=raw) (u:=u) (fun E' _=>q4 E') hdo).congr (temps _ _ _ (subI hI.sub) (by unfold vals;rw [qg (by rw [hnew0];simp),qj (zfg _ _)];simp) fun y hy hys=> ?_)
   unfold vals;simp only;rw [insD y hys hy,qg (hne y hy hys)]
  ·intro y hy hyD hyD0
   by_cases hys:y=s
   ·subst hys
    simp only [qc5];refine ⟨hfl,hdep0,⟨bl,z,FV,ex,hfs,hz,fun E' i hi=>⟨(q5 E' i hi).1 w' q2.self,(q5 E' i hi).2⟩⟩,?_,hI.post.size,by rw [q2.size];omega,fun hl=>absurd (zzk1 hI.st hl) (qu5 _)⟩
    exact hI.st.self.size
   ·rw [insD y hys hy] at hyD
    rw [qg (hne y hy hys),qg (hne y hy hys)];have p:=hI.pend y hy hyD hyD0;obtain ⟨b2,z2,FV2,ex2,h1,h2,h3⟩:=p.data;refine ⟨p.fl,p.dep,⟨b2,z2,FV2,ex2,h1,h2,fun E' i hi=>⟨(h3 E' i hi).1.congr fun _=> ?_,(h3 E' i hi).2⟩⟩,p.base,p.ge,by rw [q2.size];have:=p.lt;omega,p.dead⟩
    rw [hi];exact q2.lt p.lt
  ·intro y hy t ht k1 k2 k3 k4 k5
   by_cases hys:y=s
   ·subst hys
    have hts:t≠y:=fun h=>k5 (by rw [h])
    rw [insD t hts ht] at k3;rw [qj rfl,qg (hne t ht hts)];have:=(hI.pend t ht k3 k4).lt;omega
   ·by_cases hts:t=s
    ·subst hts
     rw [insD y hys hy] at k1;rw [qj rfl,qg (hne y hy hys)];have:=(hI.pend y hy k1 k2).lt;omega
    ·rw [insD y hys hy] at k1
     rw [insD t hts ht] at k3;rw [qg (hne y hy hys),qg (hne t ht hts)];exact hI.dist y hy t ht k1 k2 k3 k4 k5
end
def InvX (L:Lk) (B:Nat) (all:List Oper) (T:Tr AV) (H:AH) (ss:List Stp) (zz:Bool) (E0:Env) (w0:World) (a0:Act) (D:Nat->Bool) (w:World) (a:Act):Prop :=
 ∃E D0 C R,Inv L B all T H ss zz E0 w0 a0 D D0 C R E w a
theorem zhd1 (hL:LOk0 L P) (hm:P.follows .mixedOrders=true) (hr:RecOk P B rec) (hF:Open F) (ops:Array Oper){T:Tr AV}{H:AH}{T1:Tr AV}{H1:AH}{pl:List Ent}
  (hpl:plan L ops.toList=some pl) (h:zak L rec ops.toList pl [] T H=some (T1,H1))
  (E:Env) (w:World) (a:Act) (hw:H.Wf) (hS:St B E H w) (hT:StT E H.next T a.tmps) (hd:∀o∈ops.toList,∀d,o.dst=some d->d<a.tmps.size) (Q:Exit->Act->World->Prop)
  (hQ:∀E1 a1 w1,St B E1 H1 w1->StT E1 H1.next T1 a1.tmps->Post E H w E1 H1 w1->H1.Wf->a1.tmps.size=a.tmps.size->a1.defers=a.defers->Q .normal a1 w1) (t:Nat) :
  wpOpsIn F 0 P ops Q (Region.schedule (P.follows .mixedOrders) ops t) a {w with drawn:=w.drawn+1}:=by
 obtain ⟨ss,hmap,hch⟩:=zvq pl [] T H T1 H1 h;unfold plan at hpl;split at hpl
 ·next pl' han =>
  split at hpl
  ·next hcov =>
   cases hpl
   obtain ⟨k1,k2,_,k4⟩:=zov _ [] pl T H ss T1 H1 han hmap hch (fun y hy=>by cases hy)
   have hSteps:Steps L rec ops.toList T H ss T1 H1:=⟨hch,k1,k2,fun a s b he e hm hb=>(k4 a s b he e hm hb).elim (fun ⟨_,hy,_⟩=>by cases hy) id,fun i hi=>by
    obtain ⟨y,hy,hyi⟩:=zwc1 hcov i (by rw [zse];exact hi)
    rw [← hmap,qd3] at hy;obtain ⟨s,hs,rfl⟩:=hy;exact ⟨s,hs,hyi⟩⟩
   simp only [Region.schedule,hm,Bool.true_or,qc5];refine wpAnyIn_sound ops.size t _ a _ ?_;obtain ⟨zz,hzz,hzz2⟩:∃zz:Bool,(∀s∈ss,zok L s.x.2.2=true->zz=true)/\(zz=true-> ∃s∈ss,zok L s.x.2.2=true) :=
    ⟨ss.any fun s=>zok L s.x.2.2,fun s hs hm=>qf4.2 ⟨s,hs,hm⟩,fun h=>by obtain ⟨s,hs,hm⟩:=qf4.1 h;exact ⟨s,hs,hm⟩⟩
   have key:∀(fuel:Nat) (listed:Array Bool) (w2:World) (a2:Act),listed.size=ops.size->listed.toList.countP (fun x=> !x)<=fuel->InvX L B ops.toList T H ss zz E w a (fun i=>listed.getD i false) w2 a2 ->
     wpAnyIn F 0 P .any ops Q fuel listed a2 w2:=by
    have done:∀(listed:Array Bool) (w2:World) (a2:Act),listed.size=ops.size->InvX L B ops.toList T H ss zz E w a (fun i=>listed.getD i false) w2 a2->Region.ready .any ops listed= []->Q .normal a2 w2:=by
     intro listed w2 a2 hsz hIx hnil;obtain ⟨E2,D0,C,R,hI⟩:=hIx;have hall:∀(d c:List Stp),ss=c ++ d->(∀s∈c,listed.getD s.x.1 false=true)-> ∀s∈ss,listed.getD s.x.1 false=true:=by
      intro d
      induction d with
      |nil=>intro c hc hs s hm;rw [hc,qy1] at hm;exact hs s hm
      |cons x d ih =>
       intro c hc hs;refine ih (c ++ [x]) (by rw [hc];simp) fun y hy=> ?_
       rw [qs2,qn1] at hy;rcases hy with hy|rfl
       ·exact hs y hy
       ·cases hx:listed.getD y.x.1 false with
        |true=>rfl
        |false =>
         exfalso
         have hop:=(k1 y (by rw [hc];simp)).op
         have hop':ops[y.x.1]? =some y.x.2.2:=by simpa using hop
         have hlt:y.x.1<ops.size:=(qn2.1 hop').1;have hmem:y.x.1∈Region.ready .any ops listed:=by
          unfold Region.ready;rw [List.mem_filter];refine ⟨qc3.2 hlt,?_⟩;rw [hop'];simp only [qd4,qu4,qm,qh4];refine ⟨?_,?_⟩
          ·simp only [qm1] at hx ⊢
           rw [qs1 oM] at hx ⊢
           exact hx
          ·rw [← Array.all_toList,qb1]
           intro e he;cases hb:Region.binds .any e with
           |false=>rfl
           |true =>
            obtain ⟨z,hz,hze⟩:=hSteps.deps c y d hc e he hb;rw [← hze,hs z hz];rfl
         rw [hnil] at hmem;cases hmem
     have hD:=hall ss [] rfl (fun _ hs=>by cases hs)
     obtain ⟨e1,e2⟩:=hch.end;obtain ⟨D1,E3,hI,hFull⟩:=hI.sweep hSteps hw ss [] D0 E2 rfl (fun a f b h=>by simp at h)
     have hD1:∀s∈ss,D1 s.x.1=true:=fun s hs=>by
      obtain ⟨p1,p2,hpp⟩:=qr4 hs;exact hFull p1 s p2 hpp (hD s hs) fun y hy _=>hD y (by rw [hpp];simp [hy])
     have eH:HD L D1 ss H=H1:=by
      rw [e2];exact zcs ss H fun s hs _=>hD1 s hs
     have h1:=hI.st;have h2:=hI.tmps;have h3:=hI.post;have h4:=hI.wf;have h5:=hI.mark;rw [eH] at h1 h2 h3 h4 h5;have h3':Post E H w E3 H1 w2:=⟨h3.ext,h3.next,h3.lo,h3.hide,h3.tape,h3.os,h3.output,h3.size,h3.frame,h3.own,h3.keep,h3.loops,fun hf=>by
      cases hzb:zz with
      |true =>
       obtain ⟨s,hs,hm⟩:=hzz2 hzb;rw [h5 s hs hm (hD1 s hs)] at hf;cases hf
      |false =>
       have:=h3.froz (by show (H1.fz || zz)=false;rw [hf,hzb];rfl)
       rw [hzb] at this;exact ⟨by have h:=this.1;show H.fz=false;have h:(H.fz || false)=false:=h;rwa [Bool.or_false] at h,this.2⟩,h3.lives,h3.dr⟩
     refine hQ E3 a2 w2 h1 (h2.congr fun t=> ?_) h3' h4 hI.size hI.defs
     rw [e1,TG_TD];refine zgs ss T T (fun s hs hne=>absurd ?_ hne) rfl
     unfold vals;rw [qj (hD1 s hs),qj rfl]
    intro fuel
    induction fuel with
    |zero =>
     intro listed w2 a2 hsz hc hI;have hnil:Region.ready .any ops listed= []:=by
      rw [List.eq_nil_iff_forall_not_mem];intro i hi;unfold Region.ready at hi;rw [List.mem_filter] at hi;simp only [qm,qh4] at hi;obtain ⟨hr1,hr2,_⟩:=hi;have hlt:=qc3.1 hr1;have h0:listed.toList.countP (fun x=> !x)=0:=oM
      rw [List.countP_eq_zero] at h0;simp only [qm1] at hr2;rw [qs1 oM] at hr2
      exact h0 listed[i] (by simp) (by simpa using hr2)
     exact ⟨hnil,done listed w2 a2 hsz hI hnil⟩
    |succ fuel ih =>
     intro listed w2 a2 hsz hc hIx;refine ⟨done listed w2 a2 hsz hIx,fun i hi=> ?_⟩
     obtain ⟨E2,D0,C,R,hI0⟩:=hIx;obtain ⟨D1,E3,hI,hFull⟩:=hI0.sweep hSteps hw ss [] D0 E2 rfl (fun a f b h=>by simp at h)
     unfold Region.ready at hi;rw [List.mem_filter] at hi;simp only [qm,qh4] at hi;obtain ⟨hr1,hr2,hr3⟩:=hi;have hlt:=qc3.1 hr1;obtain ⟨s,hs,hsi⟩:=hSteps.all i (by simpa using hlt)
     obtain ⟨c,d,hcd⟩:=qr4 hs;have hop:=(k1 s hs).op;have hop':ops[s.x.1]? =some s.x.2.2:=by simpa using hop
     have hnew:listed[i]' oM=false:=by
      simp only [qm1] at hr2;rw [qs1 oM] at hr2
      exact hr2
     have hnew2:(fun i=>listed.getD i false) s.x.1=false:=by
      show listed.getD s.x.1 false=false
      rw [hsi];simp only [qm1];rw [qs1 oM]
      exact hnew
     have hdeps:Deps s.x.2.2 (fun i=>listed.getD i false):=by
      intro e he hb;rw [← hsi,hop'] at hr3;simp only [qd4,qu4] at hr3;rw [← Array.all_toList,qb1] at hr3;have:=hr3 e he;rw [hb] at this
      simpa using this
     rw [← hsi];refine zgd1 hL hr hF hSteps hw hzz hcd hnew2 hdeps hI hFull hd fun E4 w3 a3 D4 C4 R4 hI3=> ?_
     refine ih _ w3 a3 (by simpa using hsz) ?_ ?_
     ·rw [hsi,Array.toList_setIfInBounds,List.countP_set (by simpa using (by omega:i<listed.size))]
      simp only [Array.getElem_toList,hnew,qo5,qc5,ql5,qj1,qq3];omega
     ·have:(fun j=>(listed.setIfInBounds s.x.1 true).getD j false)=ins (fun i=>listed.getD i false) s.x.1:=by
       funext j
       unfold ins;simp only [qm1,qa3];by_cases hj:s.x.1=j
       ·subst hj
        rw [qj rfl,qj rfl,qj (by rw [hsi];omega)]
        rfl
       ·rw [qg hj,qg (fun e=>hj e.symm)]
      rw [this];exact ⟨E4,D4,C4,R4,hI3⟩
   have hf:(fun i=>(Array.replicate ops.size false).getD i false)=fun _=>false:=by
    funext i
    simp only [qm1,Array.getElem?_replicate];split<;>rfl
   refine key ops.size _ _ a (by simp) ?_ ?_
   ·exact qx2 List.countP_le_length (by simp)
   ·rw [hf]
    have eH:HD L (fun _=>false) ss H=H:=zds ss H fun _ _ _=>rfl
    refine ⟨E,fun _=>false,fun _=>0,fun _=>.undef,fun _ _ _ hf=>(by cases hf),fun _ _ _ hf=>(by cases hf),fun _ h=>h,fun _ _ _ _ _ hf=>(by cases hf),?_,?_,?_,?_,rfl,rfl,?_,fun _ _ _ hf=>(by cases hf),fun _ _ hf=>(by cases hf),fun _ _ _ _ hf=>(by cases hf)⟩
    ·rw [eH];exact hS.drawn _
    ·rw [eH];exact hw
    ·rw [eH]
     refine hT.congr fun t=>zah1 ss T fun s _ v hv=> ?_
     unfold vals at hv;simp at hv
    ·rw [eH];exact Post.drawn _ (qv3 _)
    ·intro c s d hcd hrd _ hl
     rw [eH];have hc2:=hch;rw [hcd] at hc2;rw [(hc2.at c).2,zey]
     ·exact SubN.same
     ·intro y hy
      cases hyh:zia L y.x.2.2 with
      |false=>rfl
      |true=>have:=hl y hy hyh;cases this
  ·cases hpl
 ·cases hpl
end
def mark (r:Nat):Deferred:= {target:=.collected r,args:= #[]}
def zid1 (d:Deferred):Option Nat:=match d.target with| .collected r=>some r|_=>none
def ztf (l:List Deferred):List Nat:=l.filterMap zid1
def zzg (l:List Deferred):List Deferred:=l.filter fun d=>(zid1 d).isNone
theorem zej (mk:List Nat) (l:List Deferred):ztf (mk.map mark ++ l)=mk ++ ztf l:=by
 induction mk with
 |nil=>rfl
 |cons r mk ih=>show r::ztf (mk.map mark ++ l)=_;rw [ih];rfl
theorem zep (mk:List Nat) (l:List Deferred):zzg (mk.map mark ++ l)=zzg l:=by
 induction mk with
 |nil=>rfl
 |cons r mk ih=>show zzg (mk.map mark ++ l)=_;exact ih
structure ND where
 n:Nat
 ds:List Df
def DfR (E:Env) (n:Nat) (x:Df) (d:Deferred):Prop:= ∃cap:Array Value,d.target= .fn (.func x.1) cap/\StL E n x.2 (d.args ++ cap).toList
inductive DfL (E:Env) (n:Nat):List Df->List Deferred->Prop where
 |nil:DfL E n [] []
 |cons {x d xs ds}:DfR E n x d->DfL E n xs ds->DfL E n (x::xs) (d::ds)
theorem DfL.up {E E1:Env}{n m:Nat}{xs:List Df}{ds:List Deferred}(h:DfL E n xs ds) (ha:Agree n E E1) (hle:n<=m):DfL E1 m xs ds:=by
 induction h with
 |nil=>exact .nil
 |cons h _ ih=>obtain ⟨cap,h1,h2⟩:=h;exact .cons ⟨cap,h1,h2.up ha hle⟩ ih
structure DefOk (N:ND) (E:Env) (H:AH) (w:World) (l:List Deferred):Prop where
 real:DfL E H.next N.ds (zzg l)
 nodup:(ztf l).Nodup
 blk:∀r∈ztf l,N.n<=r/\r<w.heap.size/\w.heap[r]? =some (.deferred (some []))/\ ¬Own E H r
theorem DefOk.nil (n:Nat) (E:Env) (H:AH) (w:World):DefOk ⟨n, []⟩ E H w []:=⟨.nil,List.nodup_nil,fun _ h=>by cases h⟩
theorem DefOk.post {N:ND}{E E1:Env}{H H1:AH}{w w1:World}{l:List Deferred}(h:DefOk N E H w l) (hp:Post E H w E1 H1 w1):DefOk N E1 H1 w1 l:=by
 obtain ⟨he,hn,hr⟩:=h;refine ⟨he.up hp.ext hp.next,hn,fun r hm=> ?_⟩
 obtain ⟨h0,h1,h2,h3⟩:=hr r hm;refine ⟨h0,qa1 h1 hp.size,(hp.frame r h1 h3).trans h2,fun ho=> ?_⟩
 rcases hp.own r ho with h|h
 ·exact h3 h
 ·omega
inductive ExR:Ex->Exit->Prop where
 |normal:ExR .normal .normal
 |exit (id:Nat):ExR (.exit id) (.exit id)
 |ret:ExR .ret .ret
 |goto (l:Nat):ExR (.goto l) (.goto l)
structure Behind (B:Nat) (N:ND) (E:Env) (H:AH) (w:World) (a:Act) (out:Out) (e:Exit) (a1:Act) (w1:World):Prop where
 intro ::
 env:∃E1,St B E1 out.H w1/\StT E1 out.H.next out.T a1.tmps/\Post E H w E1 out.H w1/\DefOk N E1 out.H w1 a1.defers
 wf:out.H.Wf
 ex:ExR out.ex e
 size:a1.tmps.size=a.tmps.size
structure Ahead (B:Nat) (F:Fence) (N:ND) (E:Env) (T:Tr AV) (H:AH) (w:World) (a:Act):Prop where
 wf:H.Wf
 st:St B E H w
 tmps:StT E H.next T a.tmps
 defs:DefOk N E H w a.defers
 base:N.n<=w.heap.size
 rnd:∀l,F.round=some l-> ∃r:Loop,w.heap[l]? =some (Obj.loop r)
theorem Behind.trans {B:Nat}{N:ND}{E E1:Env}{H H1:AH}{w w1:World}{a a1:Act}{out:Out}{e:Exit}{a2:Act}{w2:World}
  (hp:Post E H w E1 H1 w1) (hs:a1.tmps.size=a.tmps.size) (h:Behind B N E1 H1 w1 a1 out e a2 w2):Behind B N E H w a out e a2 w2:=by
 obtain ⟨⟨E2,h1,h2,h3,h4⟩,h5,h6,h7⟩:=h;exact ⟨⟨E2,h1,h2,hp.trans h3,h4⟩,h5,h6,h7.trans hs⟩
structure CodeRec (P:Program) (B m:Nat) (rec:Rec):Prop extends RecOk P B rec where
 loop:∀body T H out,rec (.loop body T H)=some out-> ∀F,Open F-> ∀(N:ND) (n:Nat),wfC n body=true-> ∀E w a,Ahead B F N E T H w a->n<=a.tmps.size-> ∀Q,
  (∀e a1 w1,Behind B N E H w a out e a1 w1->Q e a1 w1)->Code.roundsIn F 0 P body Q m a w
 range:∀g ps assign body T H out,rec (.range g ps.toList assign body T H)=some out-> ∀F,Open F-> ∀(N:ND) (n:Nat),(∀d∈ps.toList,d<n)->wfC n assign=true->wfC n body=true-> ∀x E w a,Ahead B F N E T H w a->n<=a.tmps.size ->
  StV E H.next g (a.eval x)-> ∀Q,(∀e a1 w1,Behind B N E H w a out e a1 w1->Q e a1 w1)->(Code.rangeFunc x ps assign body).wpIn F 0 P Q a w
section
variable {L:Lk}{P:Program}{B:Nat}{rec:Rec}{F:Fence}
theorem zbe {b:Frame}{a:Act}{k:List Item}{cs:List Frame}{w:World}{c:Code}:step P (lone (b.atR a (.code (.scope c)::k)) cs w)= .next (lone (b.atR a (.code c:: .inScope c::k)) cs w) :=
 qs5 (by simp [stepG,stepG.exec,Frame.atR])
theorem zfp {b:Frame}{a:Act}{k:List Item}{cs:List Frame}{w:World}{c:Code}:step P (lone (b.atR a (.inScope c::k)) cs w)= .next (lone (b.atR a k) cs w) :=
 qs5 (by simp [stepG,stepG.exec,Frame.atR])
def noGoto (Q:Exit->Act->World->Prop):Exit->Act->World->Prop
 | .goto _,_,_=>False
 |e,a,w=>Q e a w
theorem zhy {n:Nat}{Q:Exit->Act->World->Prop}{a:Act}{w:World}{c:Code}(h:c.wpIn F n P (noGoto Q) a w):(Code.scope c).wpIn F n P Q a w:=by
 intro b k cs hro hb hr;have h0:(lone (b.atR a (.code (.scope c)::k)) cs w).fenced P F:=fenced_calm hb hr rfl;obtain ⟨e,a₁,w₁,hq,harr⟩:=h b (.inScope c::k) cs hro hb hr;cases e with
 |normal=>exact ⟨.normal,a₁,w₁,hq,.head h0 zbe (StepsIn.trans harr (.one (fenced_calm hb hr rfl) zfp))⟩
 |exit id =>
  have hx:exitTo id (.inScope c::k)=exitTo id k:=by simp [exitTo]
  exact ⟨.exit id,a₁,w₁,hq,fun k' hk=>.head h0 zbe (harr.1 k' (by rw [hx];exact hk)),
   fun hr' hk=>let ⟨k₁,h1,h2⟩:=harr.2 hr' (by rw [hx];exact hk);⟨k₁,h1,.head h0 zbe h2⟩⟩
 |goto l=>exact hq.elim
 |ret=>exact ⟨_,a₁,w₁,hq,.of_steps (.one h0 zbe) harr⟩
 |panic ch=>exact ⟨_,a₁,w₁,hq,.of_steps (.one h0 zbe) harr⟩
 |outgrown=>exact ⟨_,a₁,w₁,hq,.of_steps (.one h0 zbe) harr⟩
theorem zvv (hL:LOk0 L P) (hm:P.follows .mixedOrders=true) (hr:RecOk P B rec) (hF:Open F){id:Nat}{ops:Array Oper}{draw:Bool}{T:Tr AV}{H:AH}{T1:Tr AV}{H1:AH}(h:zbf L rec ops.toList draw T H=some (T1,H1))
  {n:Nat}(hwf:wfOps n ops=true){N:ND}{E:Env}{w:World}{a:Act}(hA:Ahead B F N E T H w a) (hn:n<=a.tmps.size){Q:Exit->Act->World->Prop}(hQ:∀e a1 w1,Behind B N E H w a ⟨.normal,T1,H1⟩ e a1 w1->a1.defers=a.defers->Q e a1 w1) :
  (Code.region id ops draw).wpIn F 0 P Q a w:=by
 have hd:∀o∈ops.toList,∀d,o.dst=some d->d<a.tmps.size:=by
  intro o ho d hod;unfold wfOps at hwf;have:=qb1.1 hwf o ho;rw [hod] at this;have h2:d+1<=n:=qf1 this;exact qa1 h2 hn
 have fin:∀E1 a1 w1,St B E1 H1 w1->StT E1 H1.next T1 a1.tmps->Post E H w E1 H1 w1->H1.Wf->a1.tmps.size=a.tmps.size->a1.defers=a.defers->Q .normal a1 w1:=fun E1 a1 w1 h1 h2 h3 h4 h5 h6 =>
  hQ _ _ _ ⟨⟨E1,h1,h2,h3,by rw [h6];exact hA.defs.post h3⟩,h4,.normal,h5⟩ h6
 unfold zbf at h;split at h
 ·have hx:=ztk1 hL hr hF ops ops.toList 0 (fun j=>by simp) T H T1 H1 h E w a hA.wf hA.st hA.tmps hd Q fin
  rw [qq6,← List.range_eq_range'] at hx;exact fun b k cs hro hb hr=>let ⟨e,a',w',q,r⟩:=hx b k cs hro hb hr;⟨e,a',w',q,.of_steps (.one (fenced_calm hb hr rfl) stepR_region) r⟩
 ·split at h
  ·next pl hpl =>
   refine wpIn_region_draw fun t=> ?_
   exact zhd1 hL hm hr hF ops hpl h E w a hA.wf hA.st hA.tmps hd Q fin t
  ·cases h
theorem zpj (hL:LOk0 L P) (hm:P.follows .mixedOrders=true){m:Nat}(hr:CodeRec P B m rec) (n:Nat) (c:Code):∀(F:Fence),Open F-> ∀(T:Tr AV) (H:AH) (out:Out),zzb L rec c T H=some out->wfC n c=true-> ∀(N:ND) (E:Env) (w:World) (a:Act),Ahead B F N E T H w a->n<=a.tmps.size-> ∀(Q:Exit->Act->World->Prop),
  (∀e a1 w1,Behind B N E H w a out e a1 w1->Q e a1 w1)->c.wpIn F 0 P Q a w:=by
 induction c with
 |skip =>
  intro F hF T H out h _ N E w a hA _ Q hQ;cases h;exact wpIn_skip (hQ _ _ _ ⟨⟨E,hA.st,hA.tmps,Post.refl _ _ _,hA.defs⟩,hA.wf,.normal,rfl⟩)
 |region id ops draw =>
  intro F hF T H out h hwf N E w a hA hn Q hQ;have h':(match zbf L rec ops.toList draw T H with|some r=>some (⟨.normal,r.1,r.2⟩:Out)|none=>none)=some out:=h
  split at h'
  ·next r hr'=>cases h';exact zvv hL hm hr.toRecOk hF hr' hwf hA hn fun e a1 w1 hb _=>hQ e a1 w1 hb
  ·cases h'
 |seq x y ihx ihy =>
  intro F hF T H out h hwf N E w a hA hn Q hQ;simp only [wfC,qm] at hwf;have h':(match zzb L rec x T H with|some o=>(match o.ex with| .normal=>zzb L rec y o.T o.H|_=>some o)|none=>none)=some out:=h
  split at h'
  ·next o ho =>
   refine wpIn_seq (ihx F hF T H o ho hwf.1 N E w a hA hn _ fun e a1 w1 hb=> ?_)
   obtain ⟨⟨E1,h1,h2,h3,h4⟩,h5,h6,h7⟩:=hb;generalize hex:o.ex=ex at h' h6;cases h6 with
   |normal=>exact ihy F hF o.T o.H out h' hwf.2 N E1 w1 a1 ⟨h5,h1,h2,h4,qx2 hA.base h3.size,fun l hl=>let ⟨r,hr⟩:=hA.rnd l hl;h3.loops l r hr⟩ oM Q fun e2 a2 w2 hb2=>hQ e2 a2 w2 (hb2.trans h3 h7)
   |exit id=>cases h';exact hQ _ _ _ ⟨⟨E1,h1,h2,h3,h4⟩,h5,by rw [hex];exact .exit id,h7⟩
   |ret=>cases h';exact hQ _ _ _ ⟨⟨E1,h1,h2,h3,h4⟩,h5,by rw [hex];exact .ret,h7⟩
   |goto l=>cases h';exact hQ _ _ _ ⟨⟨E1,h1,h2,h3,h4⟩,h5,by rw [hex];exact .goto l,h7⟩
  ·cases h'
 |cond x y z ihy ihz =>
  intro F hF T H out h hwf N E w a hA hn Q hQ;simp only [wfC,qm] at hwf;have h':(match opnd T x with|some (.bool true)=>zzb L rec y T H|some (.bool false)=>zzb L rec z T H|_=>none)=some out:=h
  split at h'
  ·next hx=>exact wpIn_cond_true (by rw [zlc (hA.tmps E (Agree.refl _ _)) hx];rfl) (ihy F hF T H out h' hwf.1 N E w a hA hn Q hQ)
  ·next hx=>exact wpIn_cond_false (by rw [zlc (hA.tmps E (Agree.refl _ _)) hx];rfl) (ihz F hF T H out h' hwf.2 N E w a hA hn Q hQ)
  ·cases h'
 |block id x ih =>
  intro F hF T H out h hwf N E w a hA hn Q hQ;have h':(match zzb L rec x T H with
   |some o=>(match o.ex with| .exit i=>(match Nat.beq i id with|true=>some (⟨.normal,o.T,o.H⟩:Out)|false=>some o)|_=>some o)
   |none=>none)=some out:=h
  split at h'
  ·next o ho =>
   refine wpIn_block (ih F hF T H o ho hwf N E w a hA hn _ fun e a1 w1 hb=> ?_)
   obtain ⟨⟨E1,h1,h2,h3,h4⟩,h5,h6,h7⟩:=hb;generalize hex:o.ex=ex at h' h6;cases h6 with
   |normal=>cases h';exact hQ _ _ _ ⟨⟨E1,h1,h2,h3,h4⟩,h5,by rw [hex];exact .normal,h7⟩
   |exit i =>
    simp only at h';show if i=id then Q .normal a1 w1 else Q (.exit i) a1 w1
    split at h'
    ·next hb=>cases h';rw [qj (qi hb)];exact hQ _ _ _ ⟨⟨E1,h1,h2,h3,h4⟩,h5,.normal,h7⟩
    ·next hb=>cases h';rw [qg (qw4 hb)];exact hQ _ _ _ ⟨⟨E1,h1,h2,h3,h4⟩,h5,by rw [hex];exact .exit i,h7⟩
   |ret=>cases h';exact hQ _ _ _ ⟨⟨E1,h1,h2,h3,h4⟩,h5,by rw [hex];exact .ret,h7⟩
   |goto l=>cases h';exact hQ _ _ _ ⟨⟨E1,h1,h2,h3,h4⟩,h5,by rw [hex];exact .goto l,h7⟩
  ·cases h'
 |loop x ih =>
  intro F hF T H out h hwf N E w a hA hn Q hQ;exact wpIn_loop_rounds m (hr.loop x T H out h F hF N n hwf E w a hA hn Q hQ)
 |rangeFunc f ps as bd _ _ =>
  intro F hF T H out h hwf N E w a hA hn Q hQ;simp only [wfC,qm] at hwf;have h':(match opnd T f with|some g=>rec (.range g ps.toList as bd T H)|none=>none)=some out:=h
  split at h'
  ·next g hg =>
   exact hr.range g ps as bd T H out h' F hF N n (fun d hd=>qf1 (qb1.1 hwf.1.1 d hd)) hwf.1.2 hwf.2 f E w a hA hn (zqb hA.tmps hg) Q hQ
  ·cases h'
 |exit id =>
  intro F hF T H out h _ N E w a hA _ Q hQ;cases h;exact wpIn_exit (hQ _ _ _ ⟨⟨E,hA.st,hA.tmps,Post.refl _ _ _,hA.defs⟩,hA.wf,.exit id,rfl⟩)
 |scope x ih =>
  intro F hF T H out h hwf N E w a hA hn Q hQ;have h':(match zzb L rec x T H with|some o=>(match o.ex with| .goto _=>none|_=>some o)|none=>none)=some out:=h
  split at h'
  ·next o ho =>
   refine zhy (ih F hF T H o ho hwf N E w a hA hn _ fun e a1 w1 hb=> ?_)
   obtain ⟨⟨E1,h1,h2,h3,h4⟩,h5,h6,h7⟩:=hb;generalize hex:o.ex=ex at h' h6;cases h6 with
   |normal=>cases h';exact hQ _ _ _ ⟨⟨E1,h1,h2,h3,h4⟩,h5,by rw [hex];exact .normal,h7⟩
   |exit i=>cases h';exact hQ _ _ _ ⟨⟨E1,h1,h2,h3,h4⟩,h5,by rw [hex];exact .exit i,h7⟩
   |ret=>cases h';exact hQ _ _ _ ⟨⟨E1,h1,h2,h3,h4⟩,h5,by rw [hex];exact .ret,h7⟩
   |goto l=>cases h'
  ·cases h'
 |label l =>
  intro F hF T H out h _ N E w a hA _ Q hQ;cases h;exact wpIn_label (hQ _ _ _ ⟨⟨E,hA.st,hA.tmps,Post.refl _ _ _,hA.defs⟩,hA.wf,.normal,rfl⟩)
 |goto l =>
  intro F hF T H out h _ N E w a hA _ Q hQ;cases h;exact wpIn_goto (hQ _ _ _ ⟨⟨E,hA.st,hA.tmps,Post.refl _ _ _,hA.defs⟩,hA.wf,.goto l,rfl⟩)
 |ret =>
  intro F hF T H out h _ N E w a hA _ Q hQ;cases h;exact wpIn_ret (hQ _ _ _ ⟨⟨E,hA.st,hA.tmps,Post.refl _ _ _,hA.defs⟩,hA.wf,.ret,rfl⟩)
 |refuse s=>intro F hF T H out h;cases h
end
section
variable {L:Lk}{P:Program}{B:Nat}{rec:Rec}{F:Fence}
theorem zwq (l:List AV):∀(j:Nat) (T:Tr AV) (t:Nat),getT (zub l j T) t=if j<=t/\t<j+l.length then (l[t - j]?).getD .undef else getT T t:=by
 induction l with
 |nil=>intro j T t;rw [qg (by simp)];rfl
 |cons v l ih =>
  intro j T t;show getT (zub l (j+1) (T.set j v)) t=_
  rw [ih,zrm];by_cases h0:t=j
  ·subst h0
   rw [qg oM,qj rfl,qj (by simp)]
   simp
  ·by_cases h1:j+1<=t/\t<j+1+l.length
   ·rw [qj h1,qj (by simp;omega)]
    obtain ⟨d,hd⟩:∃d,t - j=d+1:=⟨t - j - 1,oM⟩
    rw [hd,show t - (j+1)=d from oM]
    simp
   ·rw [qg h1,qg h0,qg (by simp;omega)]
theorem StT.args {E:Env}{n:Nat}{args:List AV}{us:List Value}(h:StL E n args us) (m:Nat):StT E n (zub args 0 .nil) (us.toArray ++ Array.replicate m undef):=by
 intro E' hE t;have hu:=h E' hE;rw [zwq,hu];have hg:getT (.nil:Tr AV) t= .undef:=by unfold getT;rw [Tr.get_nil];rfl
 by_cases ht:t<args.length
 ·rw [qj oM]
  simp only [qm1];rw [Array.getElem?_append_left (by simp [zpa];exact ht)]
  simp [zma?,qr ht]
 ·rw [qg oM,hg]
  simp only [qm1];rw [Array.getElem?_append_right (by simp [zpa];omega),Array.getElem?_replicate]
  split<;>rfl
theorem TRel.params {E:Env}{m:Nat}(ps:List Tmp):∀(args:List AV) (T:Tr AV) (tmps:Array Value),TRel E T tmps->(∀d∈ps,d<m)->m<=tmps.size ->
  TRel E (zjc (ps.zip args) T) ((ps.zip (concL E args)).foldl (fun tmps (p:Tmp×Value)=>tmps.setIfInBounds p.1 p.2) tmps)/\((ps.zip (concL E args)).foldl (fun tmps (p:Tmp×Value)=>tmps.setIfInBounds p.1 p.2) tmps).size=tmps.size:=by
 induction ps with
 |nil=>intro args T tmps h _ _;exact ⟨h,rfl⟩
 |cons p ps ih =>
  intro args T tmps h hp hm;cases args with
  |nil=>exact ⟨h,rfl⟩
  |cons v args =>
   have hlt:=hp p (by simp)
   have:=ih args (T.set p v) (tmps.setIfInBounds p (conc E v)) (fun t=>by
    rw [zrm];simp only [qm1,qa3];by_cases ht:t=p
    ·subst ht;rw [qj rfl,qj rfl,qj (qa1 hlt hm)];rfl
    ·rw [qg (fun e=>ht e.symm),qg ht]
     have:=h t
     simpa [qm1] using this) (fun d hd=>hp d (by simp [hd])) (by simpa using hm)
   exact ⟨this.1,this.2.trans (by simp)⟩
def resOf (L:Lk) (T:Tr AV) (H:AH) (r:ResultVar):Option AV:=match r with
 | .tmp t=>(match T.get t with|some v=>some v|none=>some AV.undef)
 | .cell a t=>(match T.get a with|some v=>zvb L t v H|none=>none)
theorem zwv {α:Type}{E:Env}{w:World}(g:α->Option AV) (f:α->Sem Value) (hf:∀r v,g r=some v->(f r).run P w= .ok (conc E v) w):∀(l:List α) (vs:List AV),mapO g l=some vs->(l.mapM f).run P w= .ok (concL E vs) w:=by
 intro l
 induction l with
 |nil=>intro vs h;cases h;simp [qt,concL]
 |cons r l ih =>
  intro vs h;have h':obind (g r) (fun b=>obind (mapO g l) fun bs=>some (b::bs))=some vs:=h
  cases hr:g r with
  |none=>rw [hr] at h';cases h'
  |some v =>
   rw [hr] at h';cases hl:mapO g l with
   |none=>rw [hl] at h';cases h'
   |some us =>
    rw [hl] at h';cases h';rw [List.mapM_cons];simp only [qk,hf r v hr,qd,ih us hl,qt];rfl
def tupOf (vs:List AV):AV:=match vs with| [v]=>v|vs=>.tup vs
theorem zxq (hL:LOk0 L P){fn:Func}{T:Tr AV}{H:AH}{E:Env}{w:World}{tmps:Array Value}{vs:List AV}(hR:HRel B E H w) (hT:TRel E T tmps) (h:zmb L T H fn.results.toList=some vs) :
  (results fn tmps).run P w= .ok (conc E (tupOf vs)) w:=by
 have h':mapO (resOf L T H) fn.results.toList=some vs:=h;unfold results;rw [Array.mapM_eq_mapM_toList];simp only [qk,Sem.run_map];rw [zwv (E:=E) (resOf L T H) _ (fun r v hv=> ?_) _ vs h']
 ·simp only [qd,qt]
  congr 1
  cases vs with
  |nil=>rfl
  |cons v vs =>
   cases vs with
   |nil=>rfl
   |cons u vs=>rw [dif_neg (by simp [concL])];rfl
 ·unfold resOf at hv
  cases r with
  |tmp t =>
   simp only at hv ⊢
   have:=hT t;unfold getT at this;rw [qt,this];congr 2;cases hg:T.get t with
   |none=>rw [hg] at hv;cases hv;rfl
   |some v'=>rw [hg] at hv;cases hv;rfl
  |cell a t =>
   simp only at hv ⊢
   cases hg:T.get a with
   |none=>rw [hg] at hv;cases hv
   |some v' =>
    rw [hg] at hv;simp only at hv;have hta:=hT a;unfold getT at hta;rw [hg] at hta;have hl:=zum (P:=P) hL hR hv;rw [hta];unfold zvb at hv;split at hv
    ·exact hl
    ·cases hv
end
structure LOk (L:Lk) (P:Program):Prop extends LOk0 L P where
 func : ∀ f fn, L.func f = some fn → P.funcs[f]? = some fn ∧ (fn.name == "runtime.NumGoroutine") = false ∧ ∀ c, fn.body = some c → wfC fn.ntmps c = true
 mixed:P.follows .mixedOrders=true
def ExtOk (L:Lk) (P:Program) (B:Nat):Prop:= ∀f g,L.ext f=some g-> ∀args H p,g args H=some p-> ∀E w us,H.Wf->St B E H w->StL E H.next args us->CallOk P B E H w f us p.1 p.2
section
variable {L:Lk}{P:Program}{B:Nat}{rec:Rec}{F:Fence}
theorem zif (hL:LOk L P){f:FuncId}{fn:Func}{c:Code}(hf:L.func f=some fn) (hb:fn.body=some c) (us:Array Value) (w:World):(callFunc f us).run P w= .ok (.enter f us) w:=by
 obtain ⟨h1,h2,_⟩:=hL.func f fn hf;unfold callFunc;simp only [qk,program,Sem.run,qd,h1,h2,hb,Option.isNone_some,qj1,qq3];rfl
theorem St.other {E:Env}{H:AH}{w:World}(h:St B E H w){r:Nat}{x y:Option (List Deferred)}(hr:w.heap[r]? =some (.deferred x)):St B E H (w.putObj r (.deferred y)):=by
 intro E' hE;have k:=h E' hE;refine ⟨fun i b hg=>(k.blk i b hg).congr fun hl=>World.putObj_heap_other fun he=> ?_,k.inj,k.base,by rw [World.putObj_size];exact k.size⟩
 have hb:=k.blk i b hg;cases b with
 |cells vs e z op ro=>obtain ⟨cs,e,fz,h1,_⟩:=hb;rw [he,hr] at h1;cases h1
 |map es c=>simp only [BRel] at hb;rw [he,hr] at hb;cases hb
 |loop st p T n ps a b=>obtain ⟨r',h1,_⟩:=hb;rw [he,hr] at h1;cases h1
 |miter m s n l=>have hb:=hb.2;rw [he,hr] at hb;cases hb
 |chan c b=>obtain ⟨s,r,h1⟩:=hb;rw [he,hr] at h1;cases h1
 |glob g v=>obtain ⟨_,cs,e,fz,h1,_⟩:=hb;rw [he,hr] at h1;cases h1
 |defd=>cases hl
theorem Post.other {E E1:Env}{H H1:AH}{w w1:World}(h:Post E H w E1 H1 w1){r:Nat}{x y:Option (List Deferred)}(hr:w.heap.size<=r) (hx:w1.heap[r]? =some (.deferred x)):Post E H w E1 H1 (w1.putObj r (.deferred y)):=by
 refine ⟨h.ext,h.next,h.lo,h.hide,h.tape,h.os,h.output,by rw [World.putObj_size];exact h.size,fun c hc hn=> ?_,h.own,h.keep,fun c l hc=> ?_,fun hf=>⟨(h.froz hf).1,fun a=>(zji (fun z off hz=>by rw [hx] at hz;cases hz;rfl) a).trans ((h.froz hf).2 a)⟩,h.lives,h.dr⟩
 ·rw [World.putObj_heap_other oM];exact h.frame c hc hn
 ·have hlt:=(qn2.1 hc).1
  rw [World.putObj_heap_other oM];exact h.loops c l hc
theorem ziy (d:Deferred) (f:FuncId) (cap:Array Value) (h:d.target= .fn (.func f) cap):invoke d.target d.args=callFunc f (d.args ++ cap):=by rw [h];rfl
def DcOk (L:Lk) (P:Program) (B:Nat) (rec:Rec) (x:Df):Prop:= ∀(H1 H1':AH),zxw L rec x H1=some H1'-> ∀(E1:Env) (w1:World) (us:List Value),H1.Wf->St B E1 H1 w1->StL E1 H1.next x.2 us ->
 (callFunc x.1 us.toArray).run P w1= .ok (.enter x.1 us.toArray) w1/\CallsDIn Fence.wide 0 P x.1 us.toArray .returning w1 fun e u' w2=>(∃v,e= .returned v)/\u'= .returning/\ ∃E2,St B E2 H1' w2/\Post E1 H1 w1 E2 H1' w2/\H1'.Wf
theorem zjd1 (hL:LOk0 L P){fn:Func}{T:Tr AV}{vs:List AV}{E:Env}{H:AH}{w:World}{H2:AH}{tmps:Array Value}{N:Nat}(hN:w.heap.size<=N) (hres:zmb L T H2 fn.results.toList=some vs)
  (l:List Deferred) :
  ∀(ds:List Df) (E1:Env) (H1:AH) (w1:World),(∀x∈ds,DcOk L P B rec x)->zqg1 L rec ds H1=some H2->H1.Wf->StT E1 H1.next T tmps->DefOk ⟨N,ds⟩ E1 H1 w1 l->St B E1 H1 w1->Post E H w E1 H1 w1 ->
   LeavesInM Fence.wide 0 P fn tmps (fun e w1=> ∃u,e= .returned u/\Done B E H w (tupOf vs) H2 u w1) l .returning w1:=by
 induction l with
 |nil =>
  intro ds E1 H1 w1 _ hlv hwf hT hD hS hp;have hds:ds= []:=by
   have:=hD.real;cases ds with
   |nil=>rfl
   |cons x xs=>cases this
  subst hds;cases hlv;have hr:∀E',Agree H2.next E1 E'->(results fn tmps).run P w1= .ok (conc E' (tupOf vs)) w1:=fun E' hE=>by
   exact zxq hL (hS E' hE) (hT E' hE) hres
  refine ⟨conc E1 (tupOf vs),hr E1 (Agree.refl _ _),conc E1 (tupOf vs),rfl,E1,fun E' hE=> ?_,hS,hp,hwf⟩
  have h1:=hr E1 (Agree.refl _ _);rw [hr E' hE] at h1;exact (qt5 h1).1.symm
 |cons d l ih =>
  intro ds E1 H1 w1 hcall hlv hwf hT hD hS hp;refine ⟨(fun h=>by cases h),?_⟩
  obtain ⟨h1,h2,h3⟩:=hD;cases hm:zid1 d with
  |some r =>
   left
   have e1:ztf (d::l)=r::ztf l:=by unfold ztf;rw [List.filterMap_cons,hm]
   have e2:zzg (d::l)=zzg l:=by unfold zzg;rw [List.filter_cons,hm];rfl
   have htar:d.target= .collected r:=by
    unfold zid1 at hm;split at hm
    ·next r' hr'=>cases hm;exact hr'
    ·cases hm
   rw [e1] at h2 h3;rw [e2] at h1;rw [qe4] at h2;obtain ⟨k0,k1,k2,k3⟩:=h3 r (by simp)
   refine ⟨r,w1.putObj r (.deferred none),htar,run_takeDeferred k2,?_⟩;refine ih ds E1 H1 _ hcall hlv hwf hT ⟨h1,h2.2,fun r' hr'=> ?_⟩ (hS.other k2) (hp.other (qx2 hN k0) k2)
   obtain ⟨j0,j1,j2,j3⟩:=h3 r' (by simp [hr'])
   refine ⟨j0,by rw [World.putObj_size];exact j1,?_,j3⟩
   rw [World.putObj_heap_other (fun e=>h2.1 (by rw [← e];exact hr'))]
   exact j2
  |none =>
   right
   have e1:ztf (d::l)=ztf l:=by unfold ztf;rw [List.filterMap_cons,hm]
   have e2:zzg (d::l)=d::zzg l:=by unfold zzg;rw [List.filter_cons,hm];rfl
   rw [e2] at h1;rw [e1] at h2 h3;cases h1 with
   | @cons x _ xs _ hx hxs =>
    obtain ⟨cap,htar,hus⟩:=hx;have hlv':(match zxw L rec x H1 with|some H'=>zqg1 L rec xs H'|none=>none)=some H2:=hlv
    split at hlv'
    ·next H1' hdc =>
     obtain ⟨hrun,hci⟩:=hcall x (by simp) H1 H1' hdc E1 w1 _ hwf hS hus
     have harr:(d.args ++ cap).toList.toArray=d.args ++ cap:=rfl;rw [harr] at hrun hci;have hrun':(callFunc x.1 (d.args ++ cap)).run P w1= .ok (.enter x.1 (d.args ++ cap)) w1:=hrun;have hci':=hci;refine ⟨zoh zgf _,.func x.1,cap,x.1,d.args ++ cap,htar,by rw [ziy d _ _ htar];exact hrun',fun _ _=>trivial,hci'.mono fun e u' w2 ⟨⟨v,he⟩,hu,E2,q1,q2,q3⟩=> ?_⟩
     subst he;subst hu;exact ih xs E2 H1' w2 (fun y hy=>hcall y (by simp [hy])) hlv' q3 (hT.up q2.ext q2.next) ((⟨hxs,h2,h3⟩:DefOk ⟨N,xs⟩ E1 H1 w1 l).post q2) q1 (hp.trans q2)
    ·cases hlv'
theorem call_ok (hL:LOk L P){m:Nat}(hr:CodeRec P B m rec){f:FuncId}{fn:Func}{c:Code}{args:List AV}{H:AH}{o:Out}{vs:List AV}(hf:L.func f=some fn) (hb:fn.body=some c)
  (hlen:args.length<=fn.ntmps) (hc:zzb L rec c (zub args 0 .nil) H=some o) (hex:o.ex= .ret\/o.ex= .normal) (hres:zmb L o.T o.H fn.results.toList=some vs){E:Env}{w:World}{us:List Value}(hw:H.Wf) (hS:St B E H w) (hus:StL E H.next args us):CallOk P B E H w f us (tupOf vs) o.H:=by
 unfold CallOk;rw [zif hL hf hb];obtain ⟨h1,h2,h3⟩:=hL.func f fn hf;have hul:us.length=args.length:=by rw [hus E (Agree.refl _ _),zpa]
 refine callsIn_of_wp_marks h1 hb trivial ?_ rfl;refine zpj hL.toLOk0 hL.mixed hr fn.ntmps c Fence.wide zgf _ H o hc (h3 c hb) ⟨w.heap.size, []⟩ E w _ ⟨hw,hS,StT.args hus _,DefOk.nil _ _ _ _,qn _,fun l hl=>by cases hl⟩ ?_ _ ?_
 ·simp;omega
 ·intro e a1 w1 ⟨⟨E1,k1,k2,k3,k4⟩,k5,k6,k7⟩
  have fin:LeavesInM Fence.wide 0 P fn a1.tmps (fun e w1=> ∃u,e= .returned u/\Done B E H w (tupOf vs) o.H u w1) a1.defers .returning w1 :=
   zjd1 (rec:=fun _=>none) hL.toLOk0 (qn _) hres a1.defers [] E1 o.H w1 (fun x hx=>by cases hx) rfl k5 k2 k4 k1 k3
  rcases hex with hex|hex<;>rw [hex] at k6<;>cases k6<;>exact fin
end
section
variable {L:Lk}{P:Program}{B:Nat}{rec:Rec}{F:Fence}
theorem HRel.loopOf {E:Env}{H:AH}{w:World}(h:HRel B E H w){l:Nat}{st:LoopState}{pe:Option Code}{T:Tr AV}{n:Nat}{ps:List Tmp}{as bd:Code}(hg:H.get l=some (.loop st pe T n ps as bd)) :
  ∃r:Loop,w.heap[(E l).blk]? =some (.loop r)/\r.state=st/\r.pending=pe/\TRel E T r.tmps/\r.params.toList=ps/\r.assign=as/\r.body=bd /\
   (∃m,m<=r.tmps.size/\wfC m as=true/\wfC m bd=true/\ ∀d∈ps,d<m):=h.blk l _ hg
theorem zjy {E:Env}{H:AH}{w:World}(hw:H.Wf) (hS:St B E H w){l:Nat}{st:LoopState}{pe:Option Code}{T:Tr AV}{n:Nat}{ps:List Tmp}{as bd:Code}(hg:H.get l=some (.loop st pe T n ps as bd)) (hlo:H.lo<=l)
  {r:Loop}(hr:w.heap[(E l).blk]? =some (.loop r)) (st':LoopState) (pe':Option Code) :
  St B E (H.put l (.loop st' pe' T n ps as bd)) (w.putObj (E l).blk (.loop {r with state:=st',pending:=pe'}))/\Post E H w E (H.put l (.loop st' pe' T n ps as bd)) (w.putObj (E l).blk (.loop {r with state:=st',pending:=pe'}))/\(H.put l (.loop st' pe' T n ps as bd)).Wf :=
 zsm hw hS hg rfl hlo _ _ (fun r' _=>⟨_,rfl⟩) (fun x off hx=>by rw [hr] at hx;cases hx;rfl) fun E' hE=>by
  have hei:E' l=E l:=hE l (hw.get_lt hg);obtain ⟨r2,k1,k2,k3,k4,k5,k6,k7,k8⟩:=(hS E' hE).loopOf hg;rw [hei,hr] at k1;cases k1;exact ⟨{r with state:=st',pending:=pe'},by rw [hei];exact zld hr,rfl,rfl,k4,k5,k6,k7,k8⟩
theorem zyq (hL:LOk L P){m:Nat}(hr:CodeRec P B m rec){l:Nat}{args:List AV}{H:AH}{out:Out}{T:Tr AV}{n:Nat}{ps:List Tmp}{assign body:Code}
  (hlo:H.lo<=l) (hg:H.get l=some (.loop .ready none T n ps assign body)) (hlen:args.length=ps.length){o1:Out}(h1:zzb L rec assign (zjc (ps.zip args) T) H=some o1) (hx1:o1.ex= .normal)
  {T2:Tr AV}{n2:Nat}{ps2:List Tmp}{as2 bd2:Code}(hg1:o1.H.get l=some (.loop .ready none T2 n2 ps2 as2 bd2)){o2:Out}
  (h2:zzb L rec body o1.T (o1.H.put l (.loop .busy none T2 n2 ps2 as2 bd2))=some o2){pe:Option Code}{T3:Tr AV}{n3:Nat}{ps3:List Tmp}{as3 bd3:Code}(hg2:o2.H.get l=some (.loop .busy pe T3 n3 ps3 as3 bd3))
  (hout:(o2.ex= .normal/\out=out1 (.bool true) (o2.H.put l (.loop .ready none T3 n3 ps3 as3 bd3)))\/(∃id,o2.ex= .exit id/\out=out1 (.bool false) (o2.H.put l (.loop .done (some (.exit id)) T3 n3 ps3 as3 bd3))) \/
   (o2.ex= .ret/\out=out1 (.bool false) (o2.H.put l (.loop .done (some .ret) T3 n3 ps3 as3 bd3))))
  {E:Env}{w:World}{us:List Value}(hw:H.Wf) (hS:St B E H w) (hus:StL E H.next args us) :
  ∃g tmps as bd w',(Instr.yield (E l).blk us.toArray).run P w= .ok (.round (E l).blk g tmps as bd) w' /\
   ∀F,Open F->F.round=none->RoundIn F 0 P (E l).blk g tmps as bd w' fun e w1=> ∃u,e= .returned u/\Done B E H w (zvg out) out.H u w1:=by
 have hlt:=hw.get_lt hg;obtain ⟨r,k1,k2,k3,k4,k5,k6,k7,mm,k8,k9,k10,k11⟩:=hS.self.loopOf hg;have hul:us.length=args.length:=by rw [hus E (Agree.refl _ _),zpa]
 have hsz:us.toArray.size=r.params.size:=by
  rw [← qq6,← qq6 (xs:=r.params),k5];simp;omega
 refine ⟨_,_,_,_,_,run_yield k1 hsz,fun F hF hro=> ?_⟩
 have hfold:∀u:List Value,(r.params.zip u.toArray).foldl (fun tmps (t,a)=>tmps.setIfInBounds t a) r.tmps=(ps.zip u).foldl (fun tmps (p:Tmp×Value)=>tmps.setIfInBounds p.1 p.2) r.tmps:=by
  intro u;rw [← Array.foldl_toList];congr 1;rw [Array.toList_zip,k5]
 have hto:Open (F.inRound (E l).blk):=hF.inRound _;rw [hfold us];refine roundIn_of_wpIn (hF.1 _) ?_;have hT0:StT E H.next (zjc (ps.zip args) T) ((ps.zip us).foldl (fun tmps (p:Tmp×Value)=>tmps.setIfInBounds p.1 p.2) r.tmps):=fun E' hE=>by
  have hei:E' l=E l:=hE l hlt;obtain ⟨r',q1,q2,q3,q4,q5,q6,q7,_⟩:=(hS E' hE).loopOf hg;rw [hei,k1] at q1;cases q1;rw [hus E' hE];exact (TRel.params (m:=mm) ps args T r.tmps q4 k11 k8).1
 have hs0:((ps.zip us).foldl (fun tmps (p:Tmp×Value)=>tmps.setIfInBounds p.1 p.2) r.tmps).size=r.tmps.size:=by
  rw [hus E (Agree.refl _ _)];exact (TRel.params (m:=mm) ps args T r.tmps k4 k11 k8).2
 refine zpj hL.toLOk0 hL.mixed hr mm r.assign (F.inRound (E l).blk) hto (zjc (ps.zip args) T) H o1 (by rw [k6];exact h1) (by rw [k6];exact k9) ⟨w.heap.size, []⟩ E w _
  ⟨hw,hS,hT0,DefOk.nil _ _ _ _,qn _,fun l' hl'=>by cases hl';exact ⟨r,k1⟩⟩ (by rw [hs0];exact k8) _ ?_
 intro e a1 w1 ⟨⟨E1,j1,j2,j3,j4⟩,j5,j6,j7⟩;rw [hx1] at j6;cases j6;have hE1:E1 l=E l:=j3.ext l hlt;obtain ⟨r1,p1,p2,p3,p4,p5,p6,p7,_⟩:=j1.self.loopOf hg1;rw [hE1] at p1;refine ⟨_,run_beginRound p1 p2,?_⟩;have hb:=zjy j5 j1 hg1 (by rw [j3.lo];exact hlo) (by rw [hE1];exact p1) .busy none
 rw [hE1] at hb;have hrec:({r1 with state:=.busy}:Loop)= {r1 with state:=.busy,pending:=none}:=by rw [← p3]
 rw [hrec];obtain ⟨b1,b2,b3⟩:=hb;refine zpj hL.toLOk0 hL.mixed hr mm r.body (F.inRound (E l).blk) hto o1.T _ o2 (by rw [k7];exact h2) (by rw [k7];exact k10) ⟨w.heap.size, []⟩ E1 _ a1
  ⟨b3,b1,j2,j4.post b2,qx2 j3.size b2.size,fun l' hl'=>by
   cases hl'
   obtain ⟨r',hr'⟩:=j3.loops _ r k1;exact b2.loops _ r' hr'⟩ (by rw [j7];show mm<=Array.size _;rw [hs0];exact k8) _ ?_
 intro e2 a2 w2 ⟨⟨E2,i1,i2,i3,i4⟩,i5,i6,i7⟩;have hE2:E2 l=E l:=(i3.ext l (qa1 hlt j3.next)).trans hE1;obtain ⟨r2,q1,q2,q3,_⟩:=i1.self.loopOf hg2;have hlo2:o2.H.lo<=l:=by rw [i3.lo,b2.lo,j3.lo];exact hlo
 have fin:∀(st':LoopState) (pe':Option Code) (bv:Bool),out=out1 (.bool bv) (o2.H.put l (.loop st' pe' T3 n3 ps3 as3 bd3)) ->
   ∃u,Ending.returned (.bool bv)= .returned u/\Done B E H w (zvg out) out.H u (w2.putObj (E l).blk (.loop {r2 with state:=st',pending:=pe'})):=by
  intro st' pe' bv he;have hp:=zjy i5 i1 hg2 hlo2 q1 st' pe';rw [hE2] at hp;refine ⟨_,rfl,E2,?_,?_,?_,?_⟩
  ·rw [he];exact fun _ _=>rfl
  ·rw [he];exact hp.1
  ·rw [he];exact ((j3.trans b2).trans i3).trans hp.2.1
  ·rw [he];exact hp.2.2
 rw [hE2] at q1;rcases hout with ⟨hx,he⟩|⟨id,hx,he⟩|⟨hx,he⟩
 ·rw [hx] at i6;cases i6
  exact ⟨_,_,run_endRound none q1,fin .ready none true he⟩
 ·rw [hx] at i6;cases i6
  exact ⟨_,_,run_endRound (some (.exit id)) q1,fin .done (some (.exit id)) false he⟩
 ·rw [hx] at i6;cases i6
  exact ⟨_,_,run_endRound (some .ret) q1,fin .done (some .ret) false he⟩
end
section
variable {L:Lk}{P:Program}{B:Nat}{rec:Rec}{F:Fence}
theorem St.junk {E:Env}{H:AH}{w:World}(h:St B E H w) (o:Obj):St B E H (wNew w o):=by
 intro E' hE;have k:=h E' hE;exact ⟨fun i b hg=>(k.blk i b hg).congr fun hl=>zdj ((k.blk i b hg).obj hl),k.inj,k.base,by rw [zng];exact qf5 k.size⟩
theorem Post.junk (E:Env) (H:AH) (w:World) (o:Obj) (hz:∀off,objFz o off=false:=by intro off;simp [objFz]):Post E H w E H (wNew w o) :=
 ⟨Agree.refl _ _,qn _,rfl,rfl,rfl,rfl,rfl,by rw [zng];omega,fun c hc _=>zdj hc,fun _ h=>.inl h,fun _ _=>rfl,fun c r h=>⟨r,(zdj (qn2.1 h).1).trans h⟩,fun h=>⟨h,zyr hz⟩,fun _ h=>.inl h,qn _⟩
theorem St.not_own {E:Env}{H:AH}{w:World}(h:St B E H w){c:Nat}{x:Option (List Deferred)}(hc:w.heap[c]? =some (.deferred x)):¬Own E H c:=by
 rintro ⟨i,b,hg,hb,_,he⟩;have hr:=h.self.blk i b hg;cases b with
 |cells vs e z op ro=>obtain ⟨cs,e,fz,h1,_⟩:=hr;rw [he,hc] at h1;cases h1
 |map es c=>simp only [BRel] at hr;rw [he,hc] at hr;cases hr
 |loop st p T n ps a b=>obtain ⟨r',h1,_⟩:=hr;rw [he,hc] at h1;cases h1
 |miter m s n l=>have hr:=hr.2;rw [he,hc] at hr;cases hr
 |chan c b=>obtain ⟨s,r,h1⟩:=hr;rw [he,hc] at h1;cases h1
 |glob g v=>cases hb
 |defd=>cases hb
theorem zal1 {N:ND}{E:Env}{T:Tr AV}{H:AH}{w:World}{a:Act}(hA:Ahead B F N E T H w a) (ps:Array Tmp) (assign body:Code) :
  ∃(mk:List Nat) (w0:World) (D:Nat),(∀fn,(Instr.enterLoop fn a.tmps ps assign body F.round).run P w= .ok (w0.heap.size,mk.map mark) (wNew w0 (.loop {state:=.ready,pending:=none,fn,tmps:=a.tmps,params:=ps,assign,body,defers:=D}))) /\
   St B E H w0/\Post E H w E H w0/\(mk= []\/(mk= [w.heap.size]/\w0.heap[w.heap.size]? =some (.deferred (some [])))):=by
 cases hro:F.round with
 |none =>
  refine ⟨[w.heap.size],wNew w (.deferred (some [])),w.heap.size,fun fn=> ?_,hA.st.junk _,Post.junk _ _ _ _,.inr ⟨rfl,zog⟩⟩
  rw [run_enterLoop_outer,zng];rfl
 |some l0 =>
  obtain ⟨r,hr⟩:=hA.rnd l0 hro;refine ⟨[],w,r.defers,fun fn=> ?_,hA.st,Post.refl _ _ _,.inl rfl⟩
  rw [run_enterLoop_inner hr];rfl
theorem zhn {α β:Type}{r:Result α}{f:α->World->Result β}{b:β}{w':World}(h:r.andThen f= .ok b w'):∃x w1,r= .ok x w1/\f x w1= .ok b w':=by
 cases r with
 |ok x w1=>exact ⟨x,w1,rfl,h⟩
 |halt x w1=>cases h
theorem zbl1 (hL:LOk L P){m:Nat}(hr:CodeRec P B m rec) (hF:Open F){g:AV}{ps:Array Tmp}{assign body:Code}{T:Tr AV}{H:AH}{f:FuncId}{args:List AV}{fn:Func}{c:Code}{o out:Out}
  (hcf:zdc g [.yld H.next]=some (.enter f args)) (hf:L.func f=some fn) (hb:fn.body=some c) (hcall:rec (.call f args (H.new (.loop .ready none T 0 ps.toList assign body)))=some o) (hlo:o.H.lo<=H.next)
  {st:LoopState}{pend:Option Code}{T5:Tr AV}{n5:Nat}{ps5:List Tmp}{as5 bd5:Code}(hgl:o.H.get H.next=some (.loop st pend T5 n5 ps5 as5 bd5)) (hst:st≠ .busy)
  (hout:(pend=none/\out=⟨.normal,T,o.H.put H.next .defd⟩)\/(∃id,pend=some (.exit id)/\out=⟨.exit id,T,o.H.put H.next .defd⟩)\/(pend=some .ret/\out=⟨.ret,T,o.H.put H.next .defd⟩))
  {N:ND}{n:Nat}(hps:∀d∈ps.toList,d<n) (hwa:wfC n assign=true) (hwb:wfC n body=true){x:Operand}{E:Env}{w:World}{a:Act}(hA:Ahead B F N E T H w a) (hn:n<=a.tmps.size) (hx:StV E H.next g (a.eval x))
  {Q:Exit->Act->World->Prop}(hQ:∀e a1 w1,Behind B N E H w a out e a1 w1->Q e a1 w1):(Code.rangeFunc x ps assign body).wpIn F 0 P Q a w:=by
 obtain ⟨mk,w0,D,hent,hS0,hP0,hmk⟩:=zal1 (P:=P) hA ps assign body;refine wpIn_rangeFunc fun fnid hfn=> ?_
 obtain ⟨rc,hrc⟩:∃rc:Loop,rc= {state:=.ready,pending:=none,fn:=fnid,tmps:=a.tmps,params:=ps,assign,body,defers:=D}:=⟨_,rfl⟩
 have hent:=hent fnid;rw [← hrc] at hent;obtain ⟨n1,n2,n3⟩:=zav hA.wf hS0 (.loop .ready none T 0 ps.toList assign body) (.loop rc) 0 (fun E' hE he=>by
  refine ⟨rc,?_,by rw [hrc],by rw [hrc],?_,by rw [hrc],by rw [hrc],by rw [hrc],n,?_,hwa,hwb,hps⟩
  ·rw [he];exact zog
  ·rw [hrc];exact hA.tmps E' hE
  ·rw [hrc];exact hn)
 have hadd:E.add H.next ⟨w0.heap.size,0,0⟩ H.next=⟨w0.heap.size,0,0⟩:=Env.add_self _ _ _;have hus0:StL (E.add H.next ⟨w0.heap.size,0,0⟩) (H.new (.loop .ready none T 0 ps.toList assign body)).next [.yld H.next] [.func (.yield w0.heap.size) #[] #[]]:=fun E' hE=>by
  have:E' H.next=⟨w0.heap.size,0,0⟩:=(hE H.next (qc1 _)).trans hadd;simp [concL,conc,this]
 have how:=zvl (P:=P) (B:=B) (w:=wNew w0 (.loop rc)) n3 (hx.up n2.ext n2.next) hus0 hcf;obtain ⟨us,hus,hrun⟩:=how;rw [zif hL hf hb,qk] at hrun;obtain ⟨d,w1',hd1,hd2⟩:=zhn hrun;have hcl:=hr.call f args _ o hcall _ _ us n3 n1 hus;unfold CallOk at hcl;rw [zif hL hf hb] at hcl;refine ⟨w0.heap.size,mk.map mark,wNew w0 (.loop rc),d,w1',f,us.toArray,wNew w0 (.loop rc),hent,?_,fun f' _=>hF.1 f',hd2,zoh hF 0,?_⟩
 ·have:(resolve a.eval (rangeCall x w0.heap.size) 0)=Deferred.ofValue (a.eval x) [Value.func (.yield w0.heap.size) #[] #[]].toArray:=by
   simp [resolve,rangeCall,Act.eval]
  rw [this];exact hd1
 refine (zmk zgf hF hcl).mono fun e w3 ⟨u,he,E3,_,q1,q2,q3⟩=> ?_
 subst he;have hE3:E3 H.next=⟨w0.heap.size,0,0⟩:=(q2.ext H.next (qc1 _)).trans hadd;obtain ⟨r3,p1,p2,p3,_⟩:=q1.self.loopOf hgl;obtain ⟨z1,z2,z3⟩:=zsm q3 q1 hgl rfl hlo .defd (.loop {r3 with state:=.exhausted}) (fun _ _=>⟨_,rfl⟩) (fun x off hx=>by rw [p1] at hx;cases hx;rfl) (fun _ _=>trivial)
 have hbe:∀e',ExR out.ex e'->out.T=T->out.H=o.H.put H.next .defd->Behind B N E H w a out e' {a with defers:=mk.map mark ++ a.defers} (w3.putObj (E3 H.next).blk (.loop {r3 with state:=.exhausted})):=by
  intro e' hex hT hH;have hpost:Post E H w E3 (o.H.put H.next .defd) (w3.putObj (E3 H.next).blk (.loop {r3 with state:=.exhausted})):=((hP0.trans n2).trans q2).trans z2
  refine ⟨⟨E3,by rw [hH];exact z1,?_,by rw [hH];exact hpost,?_⟩,by rw [hH];exact z3,hex,rfl⟩
  ·rw [hT,hH];exact hA.tmps.up hpost.ext hpost.next
  ·rw [hH]
   obtain ⟨e1,e2,e3⟩:=hA.defs;have hlt:∀r∈ztf a.defers,r<w.heap.size:=fun r hr=>(e3 r hr).2.1
   obtain ⟨e1',e2',e3'⟩:=hA.defs.post hpost;refine ⟨by rw [zep];exact e1',?_,?_⟩
   ·rw [zej]
    rcases hmk with rfl|⟨rfl,hdf⟩
    ·exact e2'
    ·rw [qi5,qe4]
     exact ⟨fun hm=>qu5 _ (hlt _ hm),e2'⟩
   ·rw [zej]
    rcases hmk with rfl|⟨rfl,hdf⟩
    ·exact e3'
    ·have hd0:(wNew w0 (.loop rc)).heap[w.heap.size]? =some (.deferred (some [])):=(zdj (qn2.1 hdf).1).trans hdf
     have hd3:(w3.putObj (E3 H.next).blk (.loop {r3 with state:=.exhausted})).heap[w.heap.size]? =some (.deferred (some [])):=((q2.trans z2).frame _ (qn2.1 hd0).1 (n1.not_own hd0)).trans hd0
     intro r hr;rcases qe1.1 hr with rfl|hr
     ·exact ⟨hA.base,(qn2.1 hd3).1,hd3,z1.not_own hd3⟩
     ·exact e3' r hr
 refine ⟨pend,w3.putObj (E3 H.next).blk (.loop {r3 with state:=.exhausted}),?_,?_⟩
 ·have:=run_endLoop (P:=P) p1 (by rw [p2];exact hst)
  rw [hE3] at this ⊢
  rw [← p3];exact this
 ·rcases hout with ⟨hp,he⟩|⟨id,hp,he⟩|⟨hp,he⟩
  ·rw [hp]
   exact hQ _ _ _ (hbe .normal (by rw [he];exact .normal) (by rw [he]) (by rw [he]))
  ·rw [hp]
   exact wpIn_exit (hQ _ _ _ (hbe (.exit id) (by rw [he];exact .exit id) (by rw [he]) (by rw [he])))
  ·rw [hp]
   exact wpIn_ret (hQ _ _ _ (hbe .ret (by rw [he];exact .ret) (by rw [he]) (by rw [he])))
end
section
variable {L:Lk}{P:Program}{B:Nat}
theorem zzq (hL:LOk L P) (hX:ExtOk L P B):∀n,CodeRec P B n (evReq L n):=by
 intro n
 induction n with
 |zero=>exact ⟨⟨fun _ _ _ _ h=>(by cases h),fun _ _ _ _ h=>(by cases h)⟩,fun _ _ _ _ h=>(by cases h),fun _ _ _ _ _ _ _ h=>(by cases h)⟩
 |succ n ih =>
  refine ⟨⟨?_,?_⟩,?_,?_⟩
  ·intro f args H out h E w us hw hS hus
   have h:(match zcq L f args H with
    |some p=>some (out1 p.1 p.2)
    |none=>match L.dfn f with
    |true=>none
    |false=>match L.func f with
     |none=>none
     |some fn=>match fn.body with
      |none=>none
      |some c=>match Nat.ble (len args) fn.ntmps with
       |false=>none
       |true=>match zzb L (evReq L n) c (zub args 0 .nil) H with
        |none=>none
        |some o=>match o.ex with
         | .ret| .normal=>(match zmb L o.T o.H fn.results.toList with
          |some vs=>(match vs with| [v]=>some (out1 v o.H)|vs=>some (out1 (.tup vs) o.H))
          |none=>none)
         |_=>none)=some out:=h
   split at h
   ·next p hp =>
    cases h
    unfold zcq at hp;split at hp
    ·next g hg=>exact hX f g hg args H p hp E w us hw hS hus
    ·cases hp
   ·split at h
    ·cases h
    split at h
    ·cases h
    ·next fn hfn =>
     split at h
     ·cases h
     ·next c hc =>
      split at h
      ·cases h
      ·next hlen =>
       rw [zse] at hlen;split at h
       ·cases h
       ·next o ho =>
        have fin:(o.ex= .ret\/o.ex= .normal)->(match zmb L o.T o.H fn.results.toList with
          |some vs=>(match vs with| [v]=>some (out1 v o.H)|vs=>some (out1 (.tup vs) o.H))
          |none=>none)=some out->CallOk P B E H w f us (zvg out) out.H:=by
         intro hex h;split at h
         ·next vs hvs =>
          have he:out=out1 (tupOf vs) o.H:=by
           cases vs with
           |nil=>cases h;rfl
           |cons v vs=>cases vs with
            |nil=>cases h;rfl
            |cons v' vs=>cases h;rfl
          rw [he];exact call_ok hL ih hfn hc (qf1 hlen) ho hex hvs hw hS hus
         ·cases h
        split at h
        ·next hex=>exact fin (.inl hex) h
        ·next hex=>exact fin (.inr hex) h
        ·cases h
  ·intro l args H out h E w us hw hS hus
   have h:(match Nat.ble H.lo l,H.get l with
    |true,some (.loop .ready none T _ ps assign body)=>(match Nat.beq (len args) (len ps) with
     |false=>none
     |true=>match zzb L (evReq L n) assign (zjc (ps.zip args) T) H with
      |none=>none
      |some o1=>match o1.ex with
       | .normal=>(match o1.H.get l with
        |some (.loop .ready none T2 n2 ps2 as2 bd2)=>(match zzb L (evReq L n) body o1.T (o1.H.put l (.loop .busy none T2 n2 ps2 as2 bd2)) with
         |none=>none
         |some o2=>match o2.H.get l with
          |some (.loop .busy _ T n ps assign body)=>(match o2.ex with
           | .normal=>some (out1 (.bool true) (o2.H.put l (.loop .ready none T n ps assign body)))
           | .exit id=>some (out1 (.bool false) (o2.H.put l (.loop .done (some (.exit id)) T n ps assign body)))
           | .ret=>some (out1 (.bool false) (o2.H.put l (.loop .done (some .ret) T n ps assign body)))
           | .goto _=>none)
          |_=>none)
        |_=>none)
       |_=>none)
    |_,_=>none)=some out:=h
   split at h
   ·next T k ps assign body hlo hg =>
    split at h
    ·cases h
    ·next hlen =>
     have hlen:=qi hlen;rw [zse,zse] at hlen;split at h
     ·cases h
     ·next o1 ho1 =>
      split at h
      ·next hx1 =>
       split at h
       ·next T2 n2 ps2 as2 bd2 hg1 =>
        split at h
        ·cases h
        ·next o2 ho2 =>
         split at h
         ·next pe T3 n3 ps3 as3 bd3 hg2 =>
          refine zyq hL ih (qf1 hlo) hg hlen ho1 hx1 hg1 ho2 hg2 ?_ hw hS hus;split at h
          ·next hx=>cases h;exact .inl ⟨hx,rfl⟩
          ·next id hx=>cases h;exact .inr (.inl ⟨id,hx,rfl⟩)
          ·next hx=>cases h;exact .inr (.inr ⟨hx,rfl⟩)
          ·cases h
         ·cases h
       ·cases h
      ·cases h
   ·cases h
  ·intro body T H out h F hF N m hwf E w a hA hm Q hQ
   have h:(match zzb L (evReq L n) body T H with
    |none=>none
    |some o=>match o.ex with
     | .normal=>evReq L n (.loop body o.T o.H)
     |_=>some o)=some out:=h
   split at h
   ·cases h
   ·next o ho =>
    rw [roundsIn_succ];refine zpj hL.toLOk0 hL.mixed ih m body F hF T H o ho hwf N E w a hA hm _ fun e a1 w1 hb=> ?_
    obtain ⟨⟨E1,h1,h2,h3,h4⟩,h5,h6,h7⟩:=hb;generalize hex:o.ex=ex at h h6;cases h6 with
    |normal=>exact ih.loop body o.T o.H out h F hF N m hwf E1 w1 a1 ⟨h5,h1,h2,h4,qx2 hA.base h3.size,fun l hl=>let ⟨r,hr⟩:=hA.rnd l hl;h3.loops l r hr⟩ oM Q fun e2 a2 w2 hb2=>hQ e2 a2 w2 (hb2.trans h3 h7)
    |exit id=>cases h;exact hQ _ _ _ ⟨⟨E1,h1,h2,h3,h4⟩,h5,by rw [hex];exact .exit id,h7⟩
    |ret=>cases h;exact hQ _ _ _ ⟨⟨E1,h1,h2,h3,h4⟩,h5,by rw [hex];exact .ret,h7⟩
    |goto l=>cases h;exact hQ _ _ _ ⟨⟨E1,h1,h2,h3,h4⟩,h5,by rw [hex];exact .goto l,h7⟩
  ·intro g ps assign body T H out h F hF N m hps hwa hwb x E w a hA hm hx Q hQ
   have h:(match zdc g [.yld H.next] with
    |some (.enter f args)=>(match L.func f with
     |none=>none
     |some fn=>match fn.body with
      |none=>none
      |some _=>match evReq L n (.call f args (H.new (.loop .ready none T 0 ps.toList assign body))) with
       |none=>none
       |some o=>match Nat.ble o.H.lo H.next,o.H.get H.next with
        |true,some (.loop st pend _ _ _ _ _)=>(match st with
         | .busy=>none
         |_=>match pend with
          |none=>some ⟨.normal,T,o.H.put H.next .defd⟩
          |some (.exit id)=>some ⟨.exit id,T,o.H.put H.next .defd⟩
          |some .ret=>some ⟨.ret,T,o.H.put H.next .defd⟩
          |_=>none)
        |_,_=>none)
    |_=>none)=some out:=h
   split at h
   ·next f args hcf =>
    split at h
    ·cases h
    ·next fn hfn =>
     split at h
     ·cases h
     ·next c hc =>
      split at h
      ·cases h
      ·next o ho =>
       split at h
       ·next st pend T5 n5 ps5 as5 bd5 hlo hg =>
        have go:=fun hst hout=>zbl1 (out:=out) hL ih hF hcf hfn hc ho (qf1 hlo) hg hst hout hps hwa hwb hA hm hx hQ
        split at h
        ·cases h
        ·next hne =>
         split at h
         ·cases h;exact go hne (.inl ⟨rfl,rfl⟩)
         ·cases h;exact go hne (.inr (.inl ⟨_,rfl,rfl⟩))
         ·cases h;exact go hne (.inr (.inr ⟨rfl,rfl⟩))
         ·cases h
       ·cases h
   ·cases h
end
def H0:AH:= {tree:=.nil,next:=0,lo:=0,hide:= []}
theorem zkd1 (i:Nat):H0.get i=none:=by
 unfold AH.get H0;cases AH.vis {tree:=.nil,next:=0,lo:=0,hide:= []} i with
 |false=>rfl
 |true=>exact Tr.get_nil i
theorem H0_wf:H0.Wf:=⟨fun i b h=>(by rw [show H0.tree.get i=none from Tr.get_nil i] at h;cases h),qn _,fun r hr=>by cases hr⟩
theorem H0_st (E:Env) (w:World):St w.heap.size E H0 w:=fun E' _ =>
 ⟨fun i b h=>(by rw [zkd1] at h;cases h),fun i j b c h=>(by rw [zkd1] at h;cases h),fun i b h=>(by rw [zkd1] at h;cases h),qn _⟩
open Go.RowKit
section
variable {L:Lk}{P:Program}
def zin (o:Option Out):Bool :=
 match o with
 |some o=>(match zvg o with| .bool b=>(match b with|true=>(match o.H.fz with|true=>false|false=>true)|false=>false)|_=>false)
 |none=>false
theorem zxv {o:Option Out}(h:zin o=true):∃out,o=some out/\zvg out= .bool true/\out.H.fz=false:=by
 unfold zin at h;split at h
 ·next out =>
  split at h
  ·next b hb =>
   split at h
   ·split at h
    ·cases h
    ·next hz=>exact ⟨out,rfl,hb,hz⟩
   ·cases h
  ·cases h
 ·cases h
end
def fitFn (fn : Func) : Bool := !(fn.name == "runtime.NumGoroutine") && (match fn.body with | some c => wfC fn.ntmps c | none => true)
def lkOf (P:Program) (fs:Tr Func) (ts:Tr TypeInfo):Lk :=
 {func:=fun f=>fs.get f,info:=fun t=>ts.get t,plainEq:=fun t=> !P.stoodInHeld t && !P.eqGuardType P.depth t,ext:=fun _=>none}
theorem lkOf_ok {P:Program}(hm:P.follows .mixedOrders=true) (hf:P.funcs.toList.all fitFn=true):LOk (lkOf P (Tr.ofList P.funcs.toList) (Tr.ofList P.types.toList)) P where
 info t i h:=by
  have h:(Tr.ofList P.types.toList).get t=some i:=h;rw [Tr.get_ofList] at h;have h2:P.types[t]? =some i:=by simpa using h
  unfold Tables.info?
  rw [qj (qn2.1 h2).1];exact h2
 plainEq t h:=by
  have h:(!P.stoodInHeld t && !P.eqGuardType P.depth t)=true:=h
  simpa using h
 func f fn h:=by
  have h:(Tr.ofList P.funcs.toList).get f=some fn:=h;rw [Tr.get_ofList] at h;have h2:=qb1.1 hf fn (qj6 h);unfold fitFn at h2;rw [qm] at h2;refine ⟨by simpa using h,by simpa using h2.1,fun c hc=> ?_⟩
  have:=h2.2;rw [hc] at this;exact this
 mixed:=hm
 zt t z h:=by cases h
noncomputable section
def orec {α β:Type}(n:β) (f:α->β) (o:Option α):β:=Option.rec (motive:=fun _=>β) n f o
def irec {β:Type}(f g:Nat->β) (n:Int):β:=Int.rec (motive:=fun _=>β) f g n
def zrec {β:Type}(z:β) (f:Nat->β) (n:Nat):β:=Nat.rec (motive:=fun _=>β) z (fun n _=>f n) n
def zcl1 (n:Option AV) (f:Bool->Option AV) (x:AV):Option AV :=
 @AV.rec (fun _=>Option AV->(Bool->Option AV)->Option AV) (fun _=>Unit) (fun a _ f=>f a) (fun _ _ n _=>n) (fun _ n _=>n) (fun n _=>n) (fun _ _ n _=>n) (fun n _=>n) (fun _ _ _ _ _ n _=>n) (fun n _=>n) (fun _ n _=>n) (fun _ _ _ _ _ n _=>n) (fun _ n _=>n) (fun n _=>n) (fun _ _ _ n _=>n) (fun n _=>n) (fun _ _ n _=>n) (fun _ _ n _=>n) (fun _ _ n _=>n) (fun _ _ _ n _=>n) () (fun _ _ _ _=>()) x n f
def avBoolB (n:Bool) (f:Bool->Bool) (x:AV):Bool :=
 @AV.rec (fun _=>Bool->(Bool->Bool)->Bool) (fun _=>Unit) (fun a _ f=>f a) (fun _ _ n _=>n) (fun _ n _=>n) (fun n _=>n) (fun _ _ n _=>n) (fun n _=>n) (fun _ _ _ _ _ n _=>n) (fun n _=>n) (fun _ n _=>n) (fun _ _ _ _ _ n _=>n) (fun _ n _=>n) (fun n _=>n) (fun _ _ _ n _=>n) (fun n _=>n) (fun _ _ n _=>n) (fun _ _ n _=>n) (fun _ _ n _=>n) (fun _ _ _ n _=>n) () (fun _ _ _ _=>()) x n f
def zxl (n:Option Out) (f:Bool->Option Out) (x:AV):Option Out :=
 @AV.rec (fun _=>Option Out->(Bool->Option Out)->Option Out) (fun _=>Unit) (fun a _ f=>f a) (fun _ _ n _=>n) (fun _ n _=>n) (fun n _=>n) (fun _ _ n _=>n) (fun n _=>n) (fun _ _ _ _ _ n _=>n) (fun n _=>n) (fun _ n _=>n) (fun _ _ _ _ _ n _=>n) (fun _ n _=>n) (fun n _=>n) (fun _ _ _ n _=>n) (fun n _=>n) (fun _ _ n _=>n) (fun _ _ n _=>n) (fun _ _ n _=>n) (fun _ _ _ n _=>n) () (fun _ _ _ _=>()) x n f
def avInt (n:Option AV) (f:IntKind->Int->Option AV) (x:AV):Option AV :=
 @AV.rec (fun _=>Option AV->(IntKind->Int->Option AV)->Option AV) (fun _=>Unit) (fun _ n _=>n) (fun a b _ f=>f a b) (fun _ n _=>n) (fun n _=>n) (fun _ _ n _=>n) (fun n _=>n) (fun _ _ _ _ _ n _=>n) (fun n _=>n) (fun _ n _=>n) (fun _ _ _ _ _ n _=>n) (fun _ n _=>n) (fun n _=>n) (fun _ _ _ n _=>n) (fun n _=>n) (fun _ _ n _=>n) (fun _ _ n _=>n) (fun _ _ n _=>n) (fun _ _ _ n _=>n) () (fun _ _ _ _=>()) x n f
def avPtr (n:Option AV) (f:Nat->Nat->Option AV) (x:AV):Option AV :=
 @AV.rec (fun _=>Option AV->(Nat->Nat->Option AV)->Option AV) (fun _=>Unit) (fun _ n _=>n) (fun _ _ n _=>n) (fun _ n _=>n) (fun n _=>n) (fun a b _ f=>f a b) (fun n _=>n) (fun _ _ _ _ _ n _=>n) (fun n _=>n) (fun _ n _=>n) (fun _ _ _ _ _ n _=>n) (fun _ n _=>n) (fun n _=>n) (fun _ _ _ n _=>n) (fun n _=>n) (fun _ _ n _=>n) (fun _ _ n _=>n) (fun _ _ n _=>n) (fun _ _ _ n _=>n) () (fun _ _ _ _=>()) x n f
def avPX (n:Option AV) (f:Nat->Nat->Option AV) (g:Nat->Nat->Nat->Option AV) (x:AV):Option AV :=
 @AV.rec (fun _=>Option AV->(Nat->Nat->Option AV)->(Nat->Nat->Nat->Option AV)->Option AV) (fun _=>Unit) (fun _ n _ _=>n) (fun _ _ n _ _=>n) (fun _ n _ _=>n) (fun n _ _=>n) (fun a b _ f _=>f a b) (fun n _ _=>n) (fun _ _ _ _ _ n _ _=>n) (fun n _ _=>n) (fun _ n _ _=>n) (fun _ _ _ _ _ n _ _=>n) (fun _ n _ _=>n) (fun n _ _=>n) (fun _ _ _ n _ _=>n) (fun n _ _=>n) (fun _ _ n _ _=>n) (fun _ _ n _ _=>n) (fun _ _ n _ _=>n) (fun a b c _ _ g=>g a b c) () (fun _ _ _ _=>()) x n f g
def avPtrH (n:Option AH) (f:Nat->Nat->Option AH) (x:AV):Option AH :=
 @AV.rec (fun _=>Option AH->(Nat->Nat->Option AH)->Option AH) (fun _=>Unit) (fun _ n _=>n) (fun _ _ n _=>n) (fun _ n _=>n) (fun n _=>n) (fun a b _ f=>f a b) (fun n _=>n) (fun _ _ _ _ _ n _=>n) (fun n _=>n) (fun _ n _=>n) (fun _ _ _ _ _ n _=>n) (fun _ n _=>n) (fun n _=>n) (fun _ _ _ n _=>n) (fun n _=>n) (fun _ _ n _=>n) (fun _ _ n _=>n) (fun _ _ n _=>n) (fun _ _ _ n _=>n) () (fun _ _ _ _=>()) x n f
def avSl (n:Option AV) (f:Nat->Nat->Nat->Nat->Bool->Option AV) (x:AV):Option AV :=
 @AV.rec (fun _=>Option AV->(Nat->Nat->Nat->Nat->Bool->Option AV)->Option AV) (fun _=>Unit) (fun _ n _=>n) (fun _ _ n _=>n) (fun _ n _=>n) (fun n _=>n) (fun _ _ n _=>n) (fun n _=>n) (fun a b c d e _ f=>f a b c d e) (fun n _=>n) (fun _ n _=>n) (fun _ _ _ _ _ n _=>n) (fun _ n _=>n) (fun n _=>n) (fun _ _ _ n _=>n) (fun n _=>n) (fun _ _ n _=>n) (fun _ _ n _=>n) (fun _ _ n _=>n) (fun _ _ _ n _=>n) () (fun _ _ _ _=>()) x n f
def avOne (n:Option AH) (f:Option AH) (x:AV):Option AH :=
 @AV.rec (fun _=>Option AH->(Option AH)->Option AH) (fun _=>Unit) (fun _ _ f=>f) (fun _ _ _ f=>f) (fun _ _ f=>f) (fun _ f=>f) (fun _ _ _ f=>f) (fun _ f=>f) (fun _ _ _ _ _ _ f=>f) (fun _ f=>f) (fun _ _ f=>f) (fun _ _ _ _ _ _ f=>f) (fun _ _ f=>f) (fun _ f=>f) (fun _ _ _ _ f=>f) (fun _ f=>f) (fun _ _ n _=>n) (fun _ _ n _=>n) (fun _ _ n _=>n) (fun _ _ _ _ f=>f) () (fun _ _ _ _=>()) x n f
def kEq (a:IntKind):IntKind->Bool :=
 IntKind.rec (motive:=fun _=>IntKind->Bool)
  (fun b=>IntKind.rec (motive:=fun _=>Bool) true false false false false false false false b)
  (fun b=>IntKind.rec (motive:=fun _=>Bool) false true false false false false false false b)
  (fun b=>IntKind.rec (motive:=fun _=>Bool) false false true false false false false false b)
  (fun b=>IntKind.rec (motive:=fun _=>Bool) false false false true false false false false b)
  (fun b=>IntKind.rec (motive:=fun _=>Bool) false false false false true false false false b)
  (fun b=>IntKind.rec (motive:=fun _=>Bool) false false false false false true false false b)
  (fun b=>IntKind.rec (motive:=fun _=>Bool) false false false false false false true false b)
  (fun b=>IntKind.rec (motive:=fun _=>Bool) false false false false false false false true b) a
theorem kEq_eq (a b:IntKind):kEq a b=decide (a=b):=by cases a<;>cases b<;>rfl
namespace FI
def subN (m n:Nat):Int:=brec (.negSucc (Nat.pred (Nat.sub n m))) (.ofNat (Nat.sub m n)) (Nat.ble n m)
def add (x y:Int):Int:=irec (fun m=>irec (fun n=>.ofNat (Nat.add m n)) (fun n=>subN m (Nat.succ n)) y) (fun m=>irec (fun n=>subN n (Nat.succ m)) (fun n=>.negSucc (Nat.succ (Nat.add m n))) y) x
def sub (x y:Int):Int:=irec (fun m=>irec (fun n=>subN m n) (fun n=>.ofNat (Nat.add m (Nat.succ n))) y) (fun m=>irec (fun n=>.negSucc (Nat.add m n)) (fun n=>subN n m) y) x
def mul (x y:Int):Int:=irec (fun m=>irec (fun n=>.ofNat (Nat.mul m n)) (fun n=>x*y) y) (fun _=>x*y) x
def quo (x y:Int):Int:=irec (fun m=>irec (fun n=>.ofNat (Nat.div m n)) (fun n=>x.tdiv y) y) (fun _=>x.tdiv y) x
def rem (x y:Int):Int:=irec (fun m=>irec (fun n=>.ofNat (Nat.mod m n)) (fun n=>x.tmod y) y) (fun _=>x.tmod y) x
def blt (x y:Int):Bool:=irec (fun m=>irec (fun n=>Nat.blt m n) (fun _=>false) y) (fun m=>irec (fun _=>true) (fun n=>Nat.blt n m) y) x
def ble (x y:Int):Bool:=irec (fun m=>irec (fun n=>Nat.ble m n) (fun _=>false) y) (fun m=>irec (fun _=>true) (fun n=>Nat.ble n m) y) x
def beq (x y:Int):Bool:=irec (fun m=>irec (fun n=>Nat.beq m n) (fun _=>false) y) (fun m=>irec (fun _=>false) (fun n=>Nat.beq n m) y) x
def is0 (x:Int):Bool:=irec (fun m=>Nat.beq m 0) (fun _=>false) x
theorem zhs (m n:Nat):subN m n=(m:Int) - (n:Int):=by
 unfold subN;cases h:Nat.ble n m with
 |true =>
  have:=qf1 h;show Int.ofNat (m - n)=_
  simp only [qc2];omega
 |false =>
  have h':¬n<=m:=fun hle=>by rw [qh hle] at h;cases h
  show Int.negSucc (Nat.pred (n - m))=_
  rw [qe2];simp only [Nat.pred_eq_sub_one];omega
theorem add_eq (x y:Int):add x y=x+y:=by
 cases x with
 |ofNat m=>cases y with
  |ofNat n=>rfl
  |negSucc n=>show subN m (Nat.succ n)=_;rw [zhs,qe2];simp only [qc2];omega
 |negSucc m=>cases y with
  |ofNat n=>show subN n (Nat.succ m)=_;rw [zhs,qe2];simp only [qc2];omega
  |negSucc n=>show Int.negSucc (Nat.succ (m+n))=_;rw [qe2,qe2,qe2];omega
theorem sub_eq (x y:Int):sub x y=x - y:=by
 cases x with
 |ofNat m=>cases y with
  |ofNat n=>exact zhs m n
  |negSucc n=>show Int.ofNat (m+Nat.succ n)=_;rw [qe2];simp only [qc2];omega
 |negSucc m=>cases y with
  |ofNat n=>show Int.negSucc (m+n)=_;rw [qe2,qe2];simp only [qc2];omega
  |negSucc n=>show subN n m=_;rw [zhs,qe2,qe2];omega
theorem mul_eq (x y:Int):mul x y=x*y:=by cases x<;>cases y<;>rfl
theorem quo_eq (x y:Int):quo x y=x.tdiv y:=by cases x<;>cases y<;>rfl
theorem rem_eq (x y:Int):rem x y=x.tmod y:=by cases x<;>cases y<;>rfl
theorem nblt (m n:Nat):Nat.blt m n=decide (m<n):=by rw [ql2,qa5];simp
theorem nble (m n:Nat):Nat.ble m n=decide (m<=n):=by rw [ql2,Nat.ble_eq];simp
theorem nbeq (m n:Nat):Nat.beq m n=decide (m=n):=by rw [ql2];simp
theorem blt_eq (x y:Int):blt x y=decide (x<y):=by
 cases x with
 |ofNat m=>cases y with
  |ofNat n=>show Nat.blt m n=_;rw [nblt];simp only [qc2];congr 1;simp
  |negSucc n=>show false=_;symm;rw [qa4,qe2];simp only [qc2];omega
 |negSucc m=>cases y with
  |ofNat n=>show true=_;symm;rw [decide_eq_true_iff,qe2];simp only [qc2];omega
  |negSucc n=>show Nat.blt n m=_;rw [nblt,qe2,qe2];congr 1;apply propext;omega
theorem ble_eq (x y:Int):ble x y=decide (x<=y):=by
 cases x with
 |ofNat m=>cases y with
  |ofNat n=>show Nat.ble m n=_;rw [nble];simp only [qc2];congr 1;simp
  |negSucc n=>show false=_;symm;rw [qa4,qe2];simp only [qc2];omega
 |negSucc m=>cases y with
  |ofNat n=>show true=_;symm;rw [decide_eq_true_iff,qe2];simp only [qc2];omega
  |negSucc n=>show Nat.ble n m=_;rw [nble,qe2,qe2];congr 1;apply propext;omega
theorem beq_eq (x y:Int):beq x y=(x == y):=by
 have:(x == y)=decide (x=y):=by rw [ql2];simp
 rw [this];cases x with
 |ofNat m=>cases y with
  |ofNat n=>show Nat.beq m n=_;rw [nbeq];simp only [qc2];congr 1;apply propext;omega
  |negSucc n=>rfl
 |negSucc m=>cases y with
  |ofNat n=>rfl
  |negSucc n=>show Nat.beq n m=_;rw [nbeq,qe2,qe2];congr 1;apply propext;omega
theorem is0_eq (x:Int):is0 x=(x == 0):=by rw [← beq_eq];cases x<;>rfl
end FI
def kPow (k:IntKind):Nat:=IntKind.rec (motive:=fun _=>Nat) 256 65536 4294967296 18446744073709551616 256 65536 4294967296 18446744073709551616 k
theorem zis (k:IntKind):kPow k=2 ^ k.bits:=by cases k<;>rfl
def kBits (k:IntKind):Nat:=IntKind.rec (motive:=fun _=>Nat) 8 16 32 64 8 16 32 64 k
theorem zky (k:IntKind):kBits k=k.bits:=by cases k<;>rfl
def wrapU (p:Nat) (k:IntKind) (n:Int):Int:=irec (fun m=>.ofNat (Nat.mod m p)) (fun _=>k.wrap n) n
def wrapS (p:Nat) (k:IntKind) (n:Int):Int:=irec (fun m=>brec (k.wrap n) (.ofNat m) (Nat.blt m p)) (fun m=>brec (k.wrap n) (.negSucc m) (Nat.blt m p)) n
def fw (k:IntKind):Int->Int :=
 IntKind.rec (motive:=fun _=>Int->Int) (fun n=>wrapS 128 .i8 n) (fun n=>wrapS 32768 .i16 n) (fun n=>wrapS 2147483648 .i32 n) (fun n=>wrapS 9223372036854775808 .i64 n)
  (fun n=>wrapU 256 .u8 n) (fun n=>wrapU 65536 .u16 n) (fun n=>wrapU 4294967296 .u32 n) (fun n=>wrapU 18446744073709551616 .u64 n) k
theorem zjn (p:Nat) (k:IntKind) (n:Int) (hp:p=2 ^ k.bits) (hs:k.signed=false):wrapU p k n=k.wrap n:=by
 cases n with
 |negSucc m=>rfl
 |ofNat m =>
  show Int.ofNat (m%p)=_
  unfold IntKind.wrap;rw [hs];simp only [qq2,qj1,qq3];rw [hp];simp
theorem zkn (p:Nat) (k:IntKind) (n:Int) (h1:(2 ^ (k.bits - 1):Int)=p) (h2:(2 ^ k.bits:Int)=2*p) (hs:k.signed=true):wrapS p k n=k.wrap n:=by
 cases n with
 |ofNat m =>
  show brec _ (Int.ofNat m) (Nat.blt m p)=_
  cases h:Nat.blt m p with
  |false=>rfl
  |true =>
   rw [qa5] at h;show Int.ofNat m=_
   unfold IntKind.wrap;rw [hs,h1,h2];have e:Int.ofNat m%(2*(p:Int))=Int.ofNat m:=Int.emod_eq_of_lt (by simp) (by simp only [qc2];omega)
   simp only [e,qo2];rw [qg (by simp only [qs,ge_iff_le,qc2];omega)]
 |negSucc m =>
  show brec _ (Int.negSucc m) (Nat.blt m p)=_
  cases h:Nat.blt m p with
  |false=>rfl
  |true =>
   rw [qa5] at h;show Int.negSucc m=_
   unfold IntKind.wrap;rw [hs,h1,h2];have e:Int.negSucc m%(2*(p:Int))=Int.negSucc m+2*p:=by
    rw [← Int.add_mul_emod_self_left (Int.negSucc m) (2*(p:Int)) 1,Int.mul_one];exact Int.emod_eq_of_lt (by rw [qe2];omega) (by rw [qe2];omega)
   simp only [e,qo2];rw [qj (by simp only [qs,ge_iff_le,qe2];omega)]
   omega
theorem fw_eq (k:IntKind) (n:Int):fw k n=k.wrap n:=by
 cases k with
 |u8=>exact zjn 256 .u8 n rfl rfl
 |u16=>exact zjn 65536 .u16 n rfl rfl
 |u32=>exact zjn 4294967296 .u32 n rfl rfl
 |u64=>exact zjn 18446744073709551616 .u64 n rfl rfl
 |i8=>exact zkn 128 .i8 n dC dC rfl
 |i16=>exact zkn 32768 .i16 n dC dC rfl
 |i32=>exact zkn 2147483648 .i32 n dC dC rfl
 |i64=>exact zkn 9223372036854775808 .i64 n dC dC rfl
theorem zge (k:IntKind) (n:Int):fw k n=fwrap k n:=by rw [fw_eq,zii]
def bitN (g:Nat->Nat->Nat->Nat) (slow:IntKind->Int->Int->Option AV) (k:IntKind) (x y:Int):Option AV :=
 irec (fun m=>irec (fun n=>some (.int k (fw k (.ofNat (g (kPow k) (Nat.mod m (kPow k)) (Nat.mod n (kPow k))))))) (fun _=>slow k x y) y) (fun _=>slow k x y) x
theorem zme (k:IntKind) (m:Nat):(BitVec.ofInt k.bits (Int.ofNat m)).toNat=m%2 ^ k.bits:=by simp
theorem zdl1 (k:IntKind) (x y:Int):bitN (fun _ a b=>Nat.land a b) (evInt .and) k x y=evInt .and k x y:=by
 cases x<;>cases y<;>try rfl
 show some (AV.int k (fw k (.ofNat (Nat.land (Nat.mod _ (kPow k)) (Nat.mod _ (kPow k))))))=some (AV.int k (fwrap k _))
 rw [zge,zis,BitVec.toNat_and,zme,zme];rfl
theorem bitN_or (k:IntKind) (x y:Int):bitN (fun _ a b=>Nat.lor a b) (evInt .or) k x y=evInt .or k x y:=by
 cases x<;>cases y<;>try rfl
 show some (AV.int k (fw k (.ofNat (Nat.lor (Nat.mod _ (kPow k)) (Nat.mod _ (kPow k))))))=some (AV.int k (fwrap k _))
 rw [zge,zis,BitVec.toNat_or,zme,zme];rfl
theorem zel1 (k:IntKind) (x y:Int):bitN (fun _ a b=>Nat.xor a b) (evInt .xor) k x y=evInt .xor k x y:=by
 cases x<;>cases y<;>try rfl
 show some (AV.int k (fw k (.ofNat (Nat.xor (Nat.mod _ (kPow k)) (Nat.mod _ (kPow k))))))=some (AV.int k (fwrap k _))
 rw [zge,zis,BitVec.toNat_xor,zme,zme];rfl
theorem zyv (k:IntKind) (x y:Int):bitN (fun p a b=>Nat.land a (Nat.sub (Nat.sub p 1) b)) (evInt .andNot) k x y=evInt .andNot k x y:=by
 cases x<;>cases y<;>try rfl
 show some (AV.int k (fw k (.ofNat (Nat.land (Nat.mod _ (kPow k)) (Nat.sub (Nat.sub (kPow k) 1) (Nat.mod _ (kPow k)))))))=some (AV.int k (fwrap k _))
 rw [zge,zis,BitVec.toNat_and,BitVec.toNat_not,zme,zme];rfl
def shlF (k:IntKind) (x y:Int):Option AV :=
 irec (fun n=>some (.int k (fw k (FI.mul x (.ofNat (Nat.pow 2 (minN n (kBits k)))))))) (fun _=>none) y
def shrF (k:IntKind) (x y:Int):Option AV :=
 irec (fun n=>some (.int k (irec (fun m=>.ofNat (Nat.div m (Nat.pow 2 (minN n (kBits k))))) (fun _=>x.fdiv (2 ^ min n k.bits)) x))) (fun _=>none) y
theorem zly (n l:Nat):minN n l=min n l:=by
 unfold minN;cases h:Nat.ble n l with
 |true=>have:=qf1 h;show n=_;omega
 |false =>
  have h':¬n<=l:=fun hle=>by rw [qh hle] at h;cases h
  show l=_;omega
theorem shlF_eq (k:IntKind) (x y:Int):shlF k x y=zyg .shl k x y:=by
 cases y with
 |negSucc n=>unfold zyg;rw [show decide ((Int.negSucc n:Int)<0)=true from by simp [Int.negSucc_lt_zero]];rfl
 |ofNat n =>
  have h:decide ((Int.ofNat n:Int)<0)=false:=by simp
  unfold zyg;rw [h];show some (AV.int k (fw k (FI.mul x (.ofNat (2 ^ minN n (kBits k))))))=some (AV.int k (fwrap k (x*2 ^ min n k.bits)))
  rw [zge,FI.mul_eq,zly,zky];simp
theorem zbh1 (k:IntKind) (x y:Int):shrF k x y=zyg .shr k x y:=by
 cases y with
 |negSucc n=>unfold zyg;rw [show decide ((Int.negSucc n:Int)<0)=true from by simp [Int.negSucc_lt_zero]];rfl
 |ofNat n =>
  have h:decide ((Int.ofNat n:Int)<0)=false:=by simp
  unfold zyg;rw [h];cases x with
  |negSucc m=>rfl
  |ofNat m =>
   show some (AV.int k (Int.ofNat (m / 2 ^ minN n (kBits k))))=some (AV.int k ((Int.ofNat m).fdiv (2 ^ min n k.bits)))
   rw [zly,zky];congr 2;have:(2:Int) ^ min n k.bits=((2 ^ min n k.bits:Nat):Int):=by simp
   rw [this,Int.fdiv_eq_ediv_of_nonneg _ (Int.natCast_nonneg _)];rfl
def int2 (g:IntKind->Int->Int->Option AV) (s:AV->AV->Option AV) (x y:AV):Option AV :=
 avInt (s x y) (fun k a=>avInt (s x y) (fun k' b=>brec (s x y) (g k a b) (kEq k k')) y) x
def intS (g:IntKind->Int->Int->Option AV) (x y:AV):Option AV:=avInt none (fun k a=>avInt none (fun _ b=>g k a b) y) x
def binF (op:BinOp):(AV->AV->Option AV)->AV->AV->Option AV :=
 BinOp.rec (motive:=fun _=>(AV->AV->Option AV)->AV->AV->Option AV)
  (fun s x y=>int2 (fun k a b=>some (.int k (fw k (FI.add a b)))) s x y)
  (fun s x y=>int2 (fun k a b=>some (.int k (fw k (FI.sub a b)))) s x y)
  (fun s x y=>int2 (fun k a b=>some (.int k (fw k (FI.mul a b)))) s x y)
  (fun s x y=>int2 (fun k a b=>brec (some (.int k (fw k (FI.quo a b)))) none (FI.is0 b)) s x y)
  (fun s x y=>int2 (fun k a b=>brec (some (.int k (FI.rem a b))) none (FI.is0 b)) s x y)
  (fun s x y=>int2 (fun k a b=>bitN (fun _ a b=>Nat.land a b) (evInt .and) k a b) s x y)
  (fun s x y=>int2 (fun k a b=>bitN (fun _ a b=>Nat.lor a b) (evInt .or) k a b) s x y)
  (fun s x y=>int2 (fun k a b=>bitN (fun _ a b=>Nat.xor a b) (evInt .xor) k a b) s x y)
  (fun _ x y=>intS (fun k a b=>shlF k a b) x y)
  (fun _ x y=>intS (fun k a b=>shrF k a b) x y)
  (fun s x y=>int2 (fun k a b=>bitN (fun p a b=>Nat.land a (Nat.sub (Nat.sub p 1) b)) (evInt .andNot) k a b) s x y)
  (fun s x y=>int2 (fun _ a b=>some (.bool (FI.beq a b))) s x y)
  (fun s x y=>int2 (fun _ a b=>some (.bool (brec true false (FI.beq a b)))) s x y)
  (fun s x y=>int2 (fun _ a b=>some (.bool (FI.blt a b))) s x y)
  (fun s x y=>int2 (fun _ a b=>some (.bool (FI.ble a b))) s x y)
  (fun s x y=>int2 (fun _ a b=>some (.bool (FI.blt b a))) s x y)
  (fun s x y=>int2 (fun _ a b=>some (.bool (FI.ble b a))) s x y) op
theorem zmy (b:Bool):brec true false b= !b:=by cases b<;>rfl
theorem zhe {L:Lk}{op:BinOp}{t:TypeId}{xo yo:Operand}(ho:op≠ .shl/\op≠ .shr) (g:IntKind->Int->Int->Option AV) (hg:∀k a b,g k a b=evInt op k a b) (x y:AV) :
  int2 g (evBin L op t xo yo) x y=evBin L op t xo yo x y:=by
 cases x<;>try rfl
 next k a =>
 cases y<;>try rfl
 next k' b =>
 show brec (evBin L op t xo yo (.int k a) (.int k' b)) (g k a b) (kEq k k')=_
 rw [kEq_eq];by_cases h:k=k'
 ·subst h
  simp only [qz3,zpm];rw [hg];obtain ⟨h1,h2⟩:=ho;cases op<;>first|(exact absurd rfl h1)|(exact absurd rfl h2)|simp [evBin]
 ·simp only [h,qu3,zzb1]
theorem zyl (L:Lk) (op:BinOp) (t:TypeId) (xo yo:Operand) (x y:AV):binF op (evBin L op t xo yo) x y=evBin L op t xo yo x y:=by
 cases op
 case add=>exact zhe ⟨dC,dC⟩ _ (fun k a b=>by rw [FI.add_eq,zge];rfl) x y
 case sub=>exact zhe ⟨dC,dC⟩ _ (fun k a b=>by rw [FI.sub_eq,zge];rfl) x y
 case mul=>exact zhe ⟨dC,dC⟩ _ (fun k a b=>by rw [FI.mul_eq,zge];rfl) x y
 case quo=>exact zhe ⟨dC,dC⟩ _ (fun k a b=>by rw [FI.quo_eq,zge,FI.is0_eq];unfold evInt;cases b == 0<;>rfl) x y
 case rem=>exact zhe ⟨dC,dC⟩ _ (fun k a b=>by rw [FI.rem_eq,FI.is0_eq];unfold evInt;cases b == 0<;>rfl) x y
 case and=>exact zhe ⟨dC,dC⟩ _ (fun k a b=>zdl1 k a b) x y
 case or=>exact zhe ⟨dC,dC⟩ _ (fun k a b=>bitN_or k a b) x y
 case xor=>exact zhe ⟨dC,dC⟩ _ (fun k a b=>zel1 k a b) x y
 case andNot=>exact zhe ⟨dC,dC⟩ _ (fun k a b=>zyv k a b) x y
 case shl =>
  cases x<;>try rfl
  cases y<;>try rfl
  exact shlF_eq _ _ _
 case shr =>
  cases x<;>try rfl
  cases y<;>try rfl
  exact zbh1 _ _ _
 case eql=>exact zhe ⟨dC,dC⟩ _ (fun k a b=>by rw [FI.beq_eq];rfl) x y
 case neq=>exact zhe ⟨dC,dC⟩ _ (fun k a b=>by rw [FI.beq_eq,zmy];rfl) x y
 case lss=>exact zhe ⟨dC,dC⟩ _ (fun k a b=>by rw [FI.blt_eq];rfl) x y
 case leq=>exact zhe ⟨dC,dC⟩ _ (fun k a b=>by rw [FI.ble_eq];rfl) x y
 case gtr=>exact zhe ⟨dC,dC⟩ _ (fun k a b=>by rw [FI.blt_eq];rfl) x y
 case geq=>exact zhe ⟨dC,dC⟩ _ (fun k a b=>by rw [FI.ble_eq];rfl) x y
end
end Go.Ev
end
