import Derived.Test.YtmdkejaglfokaaaGreatVAAB
import Derived.Maps.RangeRun
import Derived.Laws.IdiomRangeMap
import Derived.OrdersIn
import Derived.RangeFuncLeaves
import Derived.RangeFuncRecord
import Derived.Conc.LoneSelect
set_option maxHeartbeats 8000000
set_option linter.unusedSimpArgs false
set_option linter.unusedVariables false
namespace Go.Ev
section
variable {L:Lk}{P:Program}{w:World}{E:Env}{B:Nat}{H:AH}
theorem StL.cons {n:Nat}{x:AV}{l:List AV}{us:List Value}(h:StL E n (x::l) us):∃u us',us=u::us'/\StV E n x u/\StL E n l us':=by
 have h0:=h E (Agree.refl _ _);refine ⟨conc E x,concL E l,h0,fun E' hE=> ?_,fun E' hE=> ?_⟩
 ·have:=h E' hE
  rw [h0] at this;exact (List.cons.inj this).1
 ·have:=h E' hE
  rw [h0] at this;exact (List.cons.inj this).2
theorem zsq (hL:LOk0 L P) (hw:H.Wf) (hS:St B E H w){b:Builtin}{ts:Array TypeId}{ty:TypeId}{cs:Array Bool}{args:List AV}{us:List Value}(hus:StL E H.next args us){v:AV}{H1:AH}
  (h:zpb L b ts.toList args H=some (v,H1)):∃u w1,(builtin b ts ty cs us.toArray).run P w= .ok (.value u) w1/\Done B E H w v H1 u w1:=by
 have lift:∀(s:Sem Value),(∃u w1,s.run P w= .ok u w1/\Done B E H w v H1 u w1)-> ∃u w1,((do pure (.value (← s)):Sem Next)).run P w= .ok (.value u) w1/\Done B E H w v H1 u w1:=by
  rintro s ⟨u,w1,hr,hd⟩;exact ⟨u,w1,by simp only [qk,hr,qd,qt],hd⟩
 unfold zpb at h;split at h
 ·split at h
  ·next t r x l hts =>
   split at h
   ·next rv hv =>
    cases h
    have ht:ts[0]? =some t:=by simp [← qy3,hts]
    obtain ⟨u,us',rfl,hx,_⟩:=hus.cons;refine lift _ ⟨_,w,?_,Done.same hw hS (v:=v) (u:=conc E v) ?_⟩
    ·rw [hx.self];exact ziq hL hS.self ht hv
    ·intro E' hE
     have h1:=ziq (P:=P) (ty:=ty) (us:=us') hL hS.self ht hv;have h2:=ziq (P:=P) (ty:=ty) (us:=us') hL (hS E' hE) ht hv;rw [← hx.self] at h1;rw [← hx E' hE,h1] at h2;exact (qt5 h2).1
   ·cases h
  ·cases h
 ·split at h
  ·next t r x l hts =>
   split at h
   ·next rv hv =>
    cases h
    have ht:ts[0]? =some t:=by simp [← qy3,hts]
    obtain ⟨u,us',rfl,hx,_⟩:=hus.cons;refine lift _ ⟨_,w,?_,Done.same hw hS (v:=v) (u:=conc E v) ?_⟩
    ·rw [hx.self];exact zjq hL ht hv
    ·intro E' hE
     have h1:=zjq (P:=P) (w:=w) (E:=E) (ty:=ty) (us:=us') hL ht hv;have h2:=zjq (P:=P) (w:=w) (E:=E') (ty:=ty) (us:=us') hL ht hv;rw [← hx.self] at h1;rw [← hx E' hE,h1] at h2;exact (qt5 h2).1
   ·cases h
  ·cases h
 ·split at h
  ·next t t' r s x l hts =>
   have ht:ts[0]? =some t:=by simp [← qy3,hts]
   have ht':ts[1]? =some t':=by simp [← qy3,hts]
   obtain ⟨u,us1,rfl,hs,h1⟩:=hus.cons;obtain ⟨u2,us2,rfl,hx,_⟩:=h1.cons;split at h
   ·next e hu=>exact lift _ (zul hL hw hS ht ht' hu (.inr ⟨_,rfl⟩) hs hx h)
   ·next hu=>exact lift _ (zul hL hw hS ht ht' hu (.inl rfl) hs hx h)
   ·next k hu=>exact lift _ (zqq hL hw hS ht ht' hu hs hx h)
   ·cases h
  ·cases h
 ·split at h
  ·next t r d x l hts =>
   have ht:ts[0]? =some t:=by simp [← qy3,hts]
   obtain ⟨u,us1,rfl,hd,h1⟩:=hus.cons;obtain ⟨u2,us2,rfl,hx,_⟩:=h1.cons;exact lift _ (zqc1 hL hw hS ht hd hx h)
  ·cases h
 ·split at h
  ·next x l =>
   split at h
   ·next rv hv =>
    cases h
    have key:∀E,(Builtin.min_ ts ty (concL E (x::l)).toArray).run P w= .ok (conc E v) w:=fun E=>zqx (E:=E) (f:=zvw) (g:=Builtin.min2) (fun x y r h=>zlc1 h) l x v hv
    refine lift _ ⟨_,w,by rw [hus E (Agree.refl _ _)];exact key E,Done.same hw hS (v:=v) (fun E' hE=> ?_)⟩
    have h2:=key E';rw [← hus E' hE,hus E (Agree.refl _ _),key E] at h2;exact (qt5 h2).1
   ·cases h
  ·cases h
 ·split at h
  ·next x l =>
   split at h
   ·next rv hv =>
    cases h
    have key:∀E,(Builtin.max_ ts ty (concL E (x::l)).toArray).run P w= .ok (conc E v) w:=fun E=>zqx (E:=E) (f:=zww) (g:=Builtin.max2) (fun x y r h=>zmc1 h) l x v hv
    refine lift _ ⟨_,w,by rw [hus E (Agree.refl _ _)];exact key E,Done.same hw hS (v:=v) (fun E' hE=> ?_)⟩
    have h2:=key E';rw [← hus E' hE,hus E (Agree.refl _ _),key E] at h2;exact (qt5 h2).1
   ·cases h
  ·cases h
 ·split at h
  ·next t r x l hts =>
   have ht:ts[0]? =some t:=by simp [← qy3,hts]
   obtain ⟨u,us1,rfl,hx,h1⟩:=hus.cons;split at h
   ·next H' hc =>
    cases h
    obtain ⟨w1,hr,k1,k2,k3⟩:=zwx (P:=P) (ty:=ty) (rest':=us1) hL hw hS ht hc;exact lift _ ⟨undef,w1,by rw [hx.self];exact hr,E,fun _ _=>rfl,k1,k2,k3⟩
   ·cases h
  ·cases h
 ·split at h
  ·next t r m k l hts =>
   have ht:ts[0]? =some t:=by simp [← qy3,hts]
   obtain ⟨u,us1,rfl,hm,h1⟩:=hus.cons;obtain ⟨u2,us2,rfl,hk,_⟩:=h1.cons;split at h
   ·next H' hc =>
    cases h
    obtain ⟨w1,hr,k1,k2,k3⟩:=zjv (P:=P) (ty:=ty) (rest':=us2) hL hw hS ht hc;exact lift _ ⟨undef,w1,by rw [hm.self,hk.self];exact hr,E,fun _ _=>rfl,k1,k2,k3⟩
   ·cases h
  ·cases h
 ·cases h
end
section
variable {L:Lk}{P:Program}{w:World}{E:Env}{B:Nat}{H:AH}
end
section
variable {L:Lk}{P:Program}{w:World}{E:Env}{B:Nat}{H:AH}{T:Tr AV}{a:Act}
theorem zlk {n:Nat}(hT:StT E n T a.tmps){o:Option Operand}{l:List AV}(h:mapO (opnd T) o.toList=some l):∀E',Agree n E E'->o.map a.eval=l.head?.map (conc E'):=by
 intro E' hE;cases o with
 |none=>cases h;rfl
 |some x =>
  obtain ⟨h1,h2⟩:=(zqm _ _ _).1 h;obtain ⟨b,hb,hr⟩:=h2 0 x (by simp)
  cases l with
  |nil=>simp at h1
  |cons y l =>
   simp only [qq1,qz1] at hr;subst hr;simp [zlc (hT E' hE) hb]
theorem zen {n:Nat}(hT:StT E n T a.tmps){parts:Array (Nat×Operand)}{ps:List (Nat×AV)}(h:mapO (fun p:Nat×Operand=>match opnd T p.2 with|some v=>some (p.1,v)|none=>none) parts.toList=some ps) :
  ∀E',Agree n E E'->(parts.map fun (p:Nat×Operand)=>(p.1,a.eval p.2))=(ps.map fun p=>(p.1,conc E' p.2)).toArray:=by
 intro E' hE;apply qd7;simp only [Array.toList_map];refine zek _ (fun p:Nat×AV=>(p.1,conc E' p.2)) (fun p:Nat×Operand=>(p.1,a.eval p.2)) (fun p q hpq=> ?_) h
 split at hpq
 ·next v hv=>cases hpq;rw [zlc (hT E' hE) hv]
 ·cases hpq
theorem zye {n:Nat}{s:Sem Value}{r:AV}(h:∀E',Agree n E E'->s.run P w= .ok (conc E' r) w):∃u,s.run P w= .ok u w/\StV E n r u :=
 ⟨conc E r,h E (Agree.refl _ _),fun E' hE=>by
  have h1:=h E (Agree.refl _ _);rw [h E' hE] at h1;exact (qt5 h1).1.symm⟩
theorem StV.yld_lt {n l:Nat}{u:Value}(h:StV E n (.yld l) u):l<n:=by
 rcases qf2 l n with h'|h'
 ·exact h'
 ·have h1:=h.self
  have h2:=h (E.add l ⟨(E l).blk+1,0,0⟩) (fun i hi=>by simp [Env.add];omega)
  rw [h1] at h2;simp only [conc,Env.add_self,Value.func.injEq,Fn.yield.injEq,qh5] at h2;omega
theorem zvl (hw:H.Wf){g:AV}{ug:Value}(hg:StV E H.next g ug){args:List AV}{us:List Value}(hus:StL E H.next args us){nx:Next1}(h:zdc g args=some nx) :
  Owes P B E H w nx ((do let d ← Deferred.ofValue ug us.toArray;invoke d.target d.args:Sem Next).run P w):=by
 unfold zdc at h;split at h
 ·next f first captured =>
  cases h
  refine ⟨(concL E (first ++ args ++ captured)),fun E' hE=> ?_,?_⟩
  ·have h1:=hg E' hE
   rw [hg.self] at h1;simp only [conc,Value.func.injEq,qb5] at h1;have h2:=hus E' hE;rw [hus E (Agree.refl _ _)] at h2;simp only [zkc,h2];have e1:concL E first=concL E' first:=by simpa using qj4 Array.toList h1.1
   have e2:concL E captured=concL E' captured:=by simpa using qj4 Array.toList h1.2
   rw [e1,e2]
  ·rw [hg.self,hus E (Agree.refl _ _)]
   simp only [conc,Deferred.ofValue,qk,qt,qd,invoke,zkc];congr 2;simp
 ·next l =>
  cases h
  refine ⟨us,hus,?_,hg.yld_lt⟩;rw [hg.self];simp only [conc,Deferred.ofValue,qk,qt,qd,invoke];congr 2;simp
 ·cases h
theorem zmv (hL:LOk0 L P) (hw:H.Wf) (hS:St B E H w){r:AV}{ur:Value}(hr:StV E H.next r ur){name:String}{args:List AV}{us:List Value}(hus:StL E H.next args us){nx:Next1}(h:zjd L r name args H=some nx) :
  Owes P B E H w nx ((callMethod ur name us.toArray).run P w):=by
 unfold zjd at h;split at h
 ·next t v =>
  split at h
  ·next f rc hm =>
   cases h
   have hd:P.types.size+Made.depth=(P.types.size+99)+1:=rfl;have hmr:∀E',Agree H.next E E'->(method (P.types.size+Made.depth) t (conc E' v) name).run P w= .ok (f,conc E' rc) w:=fun E' hE=>by
    rw [hd];exact zlv hL (hS E' hE) hm _
   have hvE:∀E',Agree H.next E E'->conc E' v=conc E v:=fun E' hE=>by
    have h1:=hr E' hE;rw [hr.self] at h1;simp only [conc,Value.iface.injEq,qb5] at h1;exact h1.symm
   refine ⟨conc E rc::us,fun E' hE=> ?_,?_⟩
   ·have h1:=hmr E' hE
    rw [hvE E' hE,hmr E (Agree.refl _ _)] at h1;have h2:=(qt5 h1).1;simp only [qs7,qb5] at h2;show conc E rc::us=conc E' rc::concL E' args
    rw [h2,hus E' hE]
   ·rw [hr.self]
    simp only [conc,callMethod,qk,program,Sem.run,qd,hmr E (Agree.refl _ _)];congr 2;simp
  ·cases h
 ·cases h
theorem evOp_ok (hL:LOk0 L P) (hw:H.Wf) (hS:St B E H w) (hT:StT E H.next T a.tmps){o:Oper}{nx:Next1}(h:evOp L T o H=some nx) :
  Owes P B E H w nx ((execOp a.eval o).run P w):=by
 obtain ⟨dst,op,ty,pos,after,guard⟩:=o;unfold evOp at h;unfold execOp;cases op with
 |move x =>
  simp only at h ⊢
  unfold val1 at h;split at h
  ·next v hv=>cases h;exact ⟨a.eval x,w,.inl rfl,Done.same hw hS (zqb hT hv)⟩
  ·cases h
 |assign x =>
  simp only at h ⊢
  unfold val1 at h;split at h
  ·next v hv=>cases h;exact ⟨a.eval x,w,.inl rfl,Done.same hw hS (zqb hT hv)⟩
  ·cases h
 |pick c x y =>
  simp only at h ⊢
  unfold val1 at h;split at h
  ·next hc =>
   split at h
   ·next v hv =>
    cases h
    refine ⟨a.eval x,w,.inl ?_,Done.same hw hS (zqb hT hv)⟩;rw [(zqb hT hc).self];rfl
   ·cases h
  ·next hc =>
   split at h
   ·next v hv =>
    cases h
    refine ⟨a.eval y,w,.inl ?_,Done.same hw hS (zqb hT hv)⟩;rw [(zqb hT hc).self];rfl
   ·cases h
  ·cases h
 |alloc e =>
  simp only at h ⊢
  split at h
  ·next z s hz hs =>
   cases h
   obtain ⟨u,w1,hr,hd⟩:=zmx (P:=P) hL hw hS hz s;exact ⟨u,w1,.inl (by simp only [qk,hr,qd,qt]),hd⟩
  ·cases h
 |box e x =>
  simp only at h ⊢
  split at h
  ·next v s hv hs =>
   cases h
   obtain ⟨u,w1,hr,hd⟩:=zkk1 (P:=P) hw hS e (zqb hT hv) s;exact ⟨u,w1,.inl (by simp only [qk,hr,qd,qt]),hd⟩
  ·cases h
 |build t parts =>
  simp only at h ⊢
  split at h
  ·next ps hp =>
   refine zrc hw hS h fun v hv=>zye fun E' hE=> ?_
   rw [zen hT hp E' hE];exact zlx hL hv
  ·cases h
 |buildSlice t n parts =>
  simp only at h ⊢
  split at h
  ·next ps hp =>
   refine zcn h fun v H1 hv=> ?_
   rw [zen hT hp E (Agree.refl _ _)];refine zil hL hw hS (fun E' hE=> ?_) hv
   have h1:=zen hT hp E' hE;rw [zen hT hp E (Agree.refl _ _)] at h1
   simpa using qj4 Array.toList h1.symm
  ·cases h
 |load t x =>
  simp only at h ⊢
  split at h
  ·next v hv=>exact zrc hw hS h fun r hr=>zye fun E' hE=>by rw [zlc (hT E' hE) hv];exact zex hL (hS E' hE) hr
  ·cases h
 |store t x y =>
  simp only at h ⊢
  split at h
  ·next v u hv hu=>exact zdn h fun H1 hH=>zux hL hw hS (zqb hT hv) (zqb hT hu) hH
  ·cases h
 |nilCheck x =>
  simp only at h ⊢
  split at h
  ·next i o hv=>cases h;exact ⟨a.eval x,w,.inl (by rw [(zqb hT hv).self];rfl),Done.same hw hS (zqb hT hv)⟩
  ·next t v hv=>cases h;exact ⟨a.eval x,w,.inl (by rw [(zqb hT hv).self];rfl),Done.same hw hS (zqb hT hv)⟩
  ·next f b c hv=>cases h;exact ⟨a.eval x,w,.inl (by rw [(zqb hT hv).self];rfl),Done.same hw hS (zqb hT hv)⟩
  ·next l hv=>cases h;exact ⟨a.eval x,w,.inl (by rw [(zqb hT hv).self];rfl),Done.same hw hS (zqb hT hv)⟩
  ·cases h
 |binOp op t x y yt =>
  simp only at h ⊢
  split at h
  ·next v u hv hu=>exact zrc hw hS h fun r hr=>zye fun E' hE=>by rw [zlc (hT E' hE) hv,zlc (hT E' hE) hu];exact znk1 hL hr
  ·cases h
 |unOp op t x =>
  simp only at h ⊢
  split at h
  ·next v hv=>exact zrc hw hS h fun r hr=>zye fun E' hE=>by rw [zlc (hT E' hE) hv];exact evUn_ok hr
  ·cases h
 |convert s d x =>
  simp only at h ⊢
  split at h
  ·next v hv=>exact zcn h fun r H1 hr=>zrq hL hw hS (zqb hT hv) hr
  ·cases h
 |makeInterface t x =>
  simp only at h ⊢
  split at h
  ·next v hv=>exact zrc hw hS h fun r hr=>zye fun E' hE=>by rw [zlc (hT E' hE) hv];exact zli hL hr
  ·cases h
 |makeFunc fn first captured =>
  simp only at h ⊢
  split at h
  ·next f x y hx hy =>
   cases h
   refine ⟨_,w,.inl rfl,Done.same hw hS (fun E' hE=> ?_)⟩
   have e1:=zeq (hT E' hE) hx;have e2:=zeq (hT E' hE) hy;simp only [conc,← e1,← e2];congr 1<;>(apply qd7;simp)
  ·cases h
 |makeMap t r =>
  simp only at h ⊢
  split at h
  ·cases h
   have key:=zav hw hS (.map [] 0) (.map #[] 0) 0 (fun E' hE hn=>by
    show (wNew w _).heap[(E' H.next).blk]? =_
    rw [hn];exact zog)
   refine ⟨.map (some w.heap.size),wNew w (.map #[] 0),.inl ?_,_,fun E' hE=> ?_,key⟩
   ·simp only [qp4,Instr.makeMap,newObj,qk,Sem.run,qd,qt]
    rfl
   ·have:E' H.next=⟨w.heap.size,0,0⟩:=(hE H.next (qc1 _)).trans (Env.add_self _ _ _)
    simp [conc,this]
  ·cases h
 |makeSlice t l c =>
  simp only at h ⊢
  split at h
  ·next v u hv hu=>exact zcn h fun r H1 hr=>by rw [(zqb hT hv).self,(zqb hT hu).self];exact zym hL hw hS hr
  ·cases h
 |slice t x lo hi mx =>
  simp only at h ⊢
  split at h
  ·next v p q r hv hp hq hr =>
   exact zrc hw hS h fun rr hrr=>zye fun E' hE=>by
    rw [zlc (hT E' hE) hv,zlk hT hp E' hE,zlk hT hq E' hE,zlk hT hr E' hE];exact zkx hL hrr
  ·cases h
 |fieldAddr s x f =>
  simp only at h ⊢
  split at h
  ·next v hv=>exact zrc hw hS h fun r hr=>zye fun E' hE=>by rw [zlc (hT E' hE) hv];exact zvm hL hr
  ·cases h
 |field t x f =>
  simp only at h ⊢
  split at h
  ·next v hv=>exact zrc hw hS h fun r hr=>zye fun E' hE=>by rw [zlc (hT E' hE) hv];exact zgx hL hr
  ·cases h
 |indexAddr t x ix =>
  simp only at h ⊢
  split at h
  ·next v u hv hu=>exact zrc hw hS h fun r hr=>zye fun E' hE=>by rw [zlc (hT E' hE) hv,zlc (hT E' hE) hu];exact zwm hL hr
  ·cases h
 |index t x ix =>
  simp only at h ⊢
  split at h
  ·next v u hv hu=>exact zrc hw hS h fun r hr=>zye fun E' hE=>by rw [zlc (hT E' hE) hv,zlc (hT E' hE) hu];exact zhx hL hr
  ·cases h
 |lookup t x k ok =>
  simp only at h ⊢
  split at h
  ·next v u hv hu=>exact zrc hw hS h fun r hr=>zye fun E' hE=>by rw [zlc (hT E' hE) hv,zlc (hT E' hE) hu];exact zhv hL (hS E' hE) hr
  ·cases h
 |mapUpdate t m k x =>
  simp only at h ⊢
  split at h
  ·next p q r hp hq hr=>exact zdn h fun H1 hH=>zmh hL hw hS (zqb hT hp) (zqb hT hq) (zqb hT hr) hH
  ·cases h
 |insert t m k x =>
  simp only at h ⊢
  split at h
  ·next p q r hp hq hr=>exact zdn h fun H1 hH=>zmh hL hw hS (zqb hT hp) (zqb hT hq) (zqb hT hr) hH
  ·cases h
 |typeAssert x xt t ok =>
  simp only at h ⊢
  split at h
  ·next v hv=>exact zrc hw hS h fun r hr=>zye fun E' hE=>by rw [zlc (hT E' hE) hv];exact zdv hL hr
  ·cases h
 |extract x ix =>
  simp only at h ⊢
  split at h
  ·next vs hv =>
   refine zrc hw hS h fun r hr=>zye fun E' hE=> ?_
   rw [zlc (hT E' hE) hv];rw [zcg] at hr;unfold Instr.extract;simp only [conc];have:(concL E' vs).toArray[ix]? =some (conc E' r):=by simp [zma?,hr]
   rw [this];rfl
  ·cases h
 |call c =>
  simp only at h ⊢
  split at h
  ·cases h
  ·next args hargs =>
   have hus:=zrk1 hT hargs;have harr:c.args.map a.eval=(c.args.toList.map a.eval).toArray:=by apply qd7;simp
   split at h
   ·next b hb =>
    unfold val2 at h;split at h
    ·next p hp =>
     cases h
     obtain ⟨u,w1,hr,hd⟩:=zsq (P:=P) (ty:=ty) (cs:=c.args.map fun| .const _=>true|_=>false) hL hw hS hus hp
     refine ⟨u,w1,.inl ?_,hd⟩;unfold resolve;simp only [hb,qk,qt,qd,invoke,harr];exact hr
    ·cases h
   ·next f hf =>
    split at h
    ·next g hg =>
     have:=zvl (P:=P) (B:=B) (w:=w) hw (zqb hT hg) hus h;unfold resolve;simp only [hf,harr];exact this
    ·cases h
   ·next r name hr =>
    split at h
    ·next v hv =>
     have:=zmv (P:=P) hL hw hS (zqb hT hv) hus h;unfold resolve;simp only [hr,qk,qt,qd,invoke,harr];have h0:(#[a.eval r] ++ (List.map a.eval c.args.toList).toArray)[0]? =some (a.eval r):=by simp
     have h1:(#[a.eval r] ++ (List.map a.eval c.args.toList).toArray).extract 1 (#[a.eval r] ++ (List.map a.eval c.args.toList).toArray).size=(List.map a.eval c.args.toList).toArray:=by
      apply qd7
      simp;rw [qx (by simp)]
     rw [h0];simp only [h1];exact this
    ·cases h
 |_=>cases h
end
def Open (F:Fence):Prop:=(∀f,F.fn f)/\F.depth=none/\F.alive=false
theorem zgf:Open Fence.wide:=⟨fun _=>trivial,rfl,rfl⟩
theorem Open.inRound {F:Fence}(h:Open F) (l:Nat):Open (F.inRound l):=h
theorem zrg {P:Program}{K:Fence}(hK:Open K):Machine.fenced P K=fun _=>True:=by
 funext mm
 refine eq_true fun g _=>⟨?_,Or.inl (hK.1 _),fun f _=>hK.1 f,fun d hd=> ?_⟩
 ·intro h;rw [hK.2.2] at h;cases h
 ·rw [hK.2.1] at hd;cases hd
theorem zfn {K:Fence}(hK:Open K) (n:Nat):K.room n:=by
 intro d hd;rw [hK.2.1] at hd;cases hd
theorem zoh {K:Fence}(hK:Open K) (n:Nat):K.depth.isSome=true->1<=n:=by
 intro h;rw [hK.2.1] at h;cases h
theorem zmk {F G:Fence}(hF:Open F) (hG:Open G){n m:Nat}{P:Program}{f:FuncId}{args:Array Value}{w:World}{R:Ending->World->Prop}(h:CallsIn F n P f args w R):CallsIn G m P f args w R:=by
 refine ⟨hG.1 f,fun cs _=> ?_⟩
 obtain ⟨e,w',fr,hR,hc,hx⟩:=h.2 cs (zfn hF _);refine ⟨e,w',fr,hR,?_,hx⟩;rw [zrg hF] at hc;rw [zrg hG];exact hc
def CallOk (P:Program) (B:Nat) (E:Env) (H:AH) (w:World) (f:FuncId) (us:List Value) (v:AV) (H1:AH):Prop :=
 match (callFunc f us.toArray).run P w with
 | .ok (.value u) w1=>Done B E H w v H1 u w1
 | .ok (.enter g vs) w'=>CallsIn Fence.wide 0 P g vs w' fun e w1=> ∃u,e= .returned u/\Done B E H w v H1 u w1
 |_=>False
structure RecOk (P:Program) (B:Nat) (rec:Rec):Prop where
 call:∀f args H out,rec (.call f args H)=some out-> ∀E w us,H.Wf->St B E H w->StL E H.next args us->CallOk P B E H w f us (zvg out) out.H
 round:∀l args H out,rec (.round l args H)=some out-> ∀E w us,H.Wf->St B E H w->StL E H.next args us ->
  ∃g tmps as bd w',(Instr.yield (E l).blk us.toArray).run P w= .ok (.round (E l).blk g tmps as bd) w' /\
   ∀F,Open F->F.round=none->RoundIn F 0 P (E l).blk g tmps as bd w' fun e w1=> ∃u,e= .returned u/\Done B E H w (zvg out) out.H u w1
section
variable {L:Lk}{P:Program}{B:Nat}{rec:Rec}{F:Fence}
theorem ztq {F G:Fence}(hF:Open F) (hG:Open G){n m:Nat}{P:Program}{l:Nat}{f:FuncId}{tmps:Array Value}{as bd:Code}{w:World}{R:Ending->World->Prop}(h:RoundIn F n P l f tmps as bd w R):RoundIn G m P l f tmps as bd w R:=by
 refine ⟨hG.1 f,fun c cs _=> ?_⟩
 obtain ⟨e,w',hR,hc⟩:=h.2 c cs (zfn hF _);refine ⟨e,w',hR,?_⟩;rw [zrg hF] at hc;rw [zrg hG];exact hc
theorem zsg (hL:LOk0 L P) (hr:RecOk P B rec) (hF:Open F){T:Tr AV}{o:Oper}{H:AH}{v:AV}{H1:AH}(h:zva L rec T o H=some (v,H1))
  {E:Env}{w:World}{a:Act}(hw:H.Wf) (hS:St B E H w) (hT:StT E H.next T a.tmps){K:Act->World->Prop}{Q:Exit->Act->World->Prop}
  (hK:∀u w1,Done B E H w v H1 u w1->K (a.put o.dst u) w1):o.wpIn F 0 P a w K Q:=by
 unfold zva at h;refine ⟨fun f _=>hF.1 f,?_⟩
 split at h
 ·cases h
 ·next nx hnx =>
  have hop:∀c,o.op≠ .defer c:=by
   intro c hc;unfold evOp at hnx;rw [hc] at hnx;cases hnx
  rw [Oper.semAt_eq F.round a.eval o hop];have ho:=evOp_ok hL hw hS hT hnx;split at h
  ·next v' H' =>
   cases h
   obtain ⟨u,w1,hrun,hd⟩:=ho;rcases hrun with hrun|⟨hrun,rfl⟩
   ·rw [hrun];exact hK u w1 hd
   ·rw [hrun];exact hK undef w1 hd
  ·next f args =>
   split at h
   ·next out hout =>
    cases h
    obtain ⟨us,hus,hrun⟩:=ho;rw [hrun];have hc:=hr.call f args H out hout E w us hw hS hus;unfold CallOk at hc;split at hc
    ·next u w1 he=>rw [he];exact hK u w1 hc
    ·next g vs w' he =>
     rw [he];refine ⟨zoh hF _,(zmk zgf hF hc).mono fun e w1 ⟨u,he',hd⟩=> ?_⟩
     subst he';exact hK u w1 hd
    ·exact hc.elim
   ·cases h
  ·next l args =>
   split at h
   ·next out hout =>
    cases h
    obtain ⟨us,hus,hrun,hlt⟩:=ho;rw [hrun];obtain ⟨g,tmps,as,bd,w',hy,hro⟩:=hr.round l args H out hout E w us hw hS hus;rw [hy];refine ⟨zoh hF _,(ztq zgf hF (hro Fence.wide zgf rfl)).mono fun e w1 ⟨u,he',hd⟩=> ?_⟩
    subst he';exact hK u w1 hd
   ·cases h
theorem StT.put {E:Env}{n:Nat}{T:Tr AV}{a:Act}(hT:StT E n T a.tmps){d:Option Tmp}{v:AV}{u:Value}(hv:StV E n v u) (hd:∀t,d=some t->t<a.tmps.size):StT E n (putT T d v) (a.put d u).tmps:=by
 intro E' hE t;cases d with
 |none=>exact hT E' hE t
 |some d =>
  have hlt:=hd d rfl;show (a.tmps.setIfInBounds d u).getD t undef=conc E' (getT (T.set d v) t)
  rw [zrm];by_cases h:t=d
  ·subst h
   rw [qj rfl];simp [hlt,hv E' hE]
  ·rw [qg h,← hT E' hE t]
   simp [qm1,qa3,qz5 h]
theorem zni (a:Act) (d:Option Tmp) (u:Value):(a.put d u).tmps.size=a.tmps.size:=by cases d<;>simp [Act.put]
theorem zph (a:Act) (d:Option Tmp) (u:Value):(a.put d u).defers=a.defers:=by cases d<;>rfl
theorem zbs {E:Env}{T:Tr AV}{tmps:Array Value}(hT:TRel E T tmps) (ops:Array Oper) (o:Oper):Region.wanted o (yielded ops tmps)=zac ops.toList T o:=by
 unfold Region.wanted zac;cases o.guard with
 |none=>rfl
 |some g =>
  obtain ⟨j,want⟩:=g;simp only [zcg,yielded,qy3];cases ops[j]? with
  |none=>rfl
  |some oj =>
   simp only [Option.bind_some];cases oj.dst with
   |none=>rfl
   |some d =>
    simp only [Option.bind_some];have h:=hT d;unfold getT at h;have hd:tmps[d]? =none\/tmps[d]? =some (tmps.getD d undef):=by
     cases he:tmps[d]? with
     |none=>exact .inl rfl
     |some u=>right;simp [qm1,he]
    rcases hd with hd|hd
    ·have hu:tmps.getD d undef=undef:=by simp [qm1,hd]
     rw [hu] at h;rw [hd];cases hg:T.get d with
     |none=>rfl
     |some v =>
      rw [hg] at h;cases v<;>first|rfl|cases h
    ·rw [hd,h]
     cases hg:T.get d with
     |none=>rfl
     |some v =>
      cases v<;>first|rfl|(simp only [qu4,conc];next b=>cases b<;>cases want<;>rfl)|(next k i o=>rcases k with _|_|_|k<;>rcases o with _|o<;>cases want<;>rfl)
theorem zsk1 (hL:LOk0 L P){T:Tr AV}{o:Oper}{H:AH}{v:AV}{H1:AH}(h:evEnd L T o H=some (v,H1))
  {E:Env}{w:World}{a:Act}(hw:H.Wf) (hS:St B E H w) (hT:StT E H.next T a.tmps) :
  (∃u,(execOp a.eval o).run P w= .ok (.value u) w/\Done B E H w v H1 u w)/\ ∀c,o.op≠ .defer c:=by
 obtain ⟨dst,op,ty,pos,after,guard⟩:=o;unfold evEnd at h;split at h
 ·next t x lo hi heq =>
  simp only at heq;subst heq;refine ⟨?_,fun c hc=>by cases hc⟩
  split at h
  ·next v0 av bv hv ha hb =>
   split at h
   ·next i o n c =>
    split at h
    ·next e hu =>
     split at h
     ·next l hh z hl hhi hz =>
      split at h
      ·next hbb =>
       cases h
       rw [qm] at hbb;obtain ⟨hbb,b3⟩:=hbb;rw [qm] at hbb;obtain ⟨b1,b2⟩:=hbb;have e1:l=c:=qi b1;have e2:=ble_t b2;have e3:=ble_t b3;subst e1;have e4:hh=l:=oM
       subst e4;have hsb:=zcc (P:=P) (w:=w) (E:=E) (isSl:=true) (n:=n) (c:=hh+(E i).extra) (mx:=none) (m:=hh+(E i).extra) hl hhi rfl rfl (qn _) oM (qn _)
       have e0:a.eval x=conc E (.sl i o n hh true):=zlc (hT E (Agree.refl _ _)) hv;have ea:=zlk hT ha E (Agree.refl _ _);have eb:=zlk hT hb E (Agree.refl _ _);have hrun:(Instr.sliceAt t (a.eval x) (lo.map a.eval) (hi.map a.eval) none).run P w =
         .ok (.slice (some ⟨(E i).blk,(E i).off+offOf (hh+(E i).extra) hh o z,none⟩) 0 (E i).extra) w:=by
        rw [e0,ea,eb];unfold Instr.sliceAt Instr.slice;simp only [conc,qk,zca hL hu,qd,qc5,qp4] at hsb ⊢
        simp only [hsb,qd,qk,zlb hL hz,qt];rw [zjx (E:=E)];congr 2<;>omega
       refine ⟨.slice (some ⟨(E i).blk,(E i).off+offOf (hh+(E i).extra) hh o z,none⟩) 0 (E i).extra,?_,?_⟩
       ·unfold execOp
        simp only [qp4];simp only [qk,hrun,qd,qt]
       ·refine ⟨E.add H.next ⟨(E i).blk,(E i).off+offOf (hh+(E i).extra) hh o z,(E i).extra⟩,fun E' hE=> ?_,fun E' hE=> ?_,?_,?_⟩
        ·have:E' H.next=_:=(hE H.next (qc1 _)).trans (Env.add_self _ _ _)
         simp [conc,this]
        ·have hA:Agree H.next E E':=(Env.add_agree E H.next _).trans hE (qv3 _)
         have r:=hS E' hA;exact ⟨r.blk,r.inj,r.base,r.size⟩
        ·refine ⟨Env.add_agree E H.next _,qv3 _,rfl,rfl,rfl,rfl,rfl,qn _,fun _ _ _=>rfl,fun c ho=> ?_,fun _ _=>rfl,fun _ r h=>⟨r,h⟩,fun h=>⟨h,fun _=>rfl⟩,fun c ho=> ?_,qn _⟩
         ·obtain ⟨j,b,hg,hbo,hlo,hc⟩:=ho
          have hg':H.get j=some b:=hg;have hlt:=hw.get_lt hg';refine .inl ⟨j,b,hg',hbo,hlo,?_⟩;rw [← hc,Env.add_agree E H.next _ j hlt]
         ·obtain ⟨j,b,hg,hbo,hc⟩:=ho
          have hg':H.get j=some b:=hg;have hlt:=hw.get_lt hg';refine .inl ⟨j,b,hg',hbo,?_⟩;rw [← hc,Env.add_agree E H.next _ j hlt]
        ·exact ⟨fun j b hj=>Nat.lt_succ_of_lt (hw.tree j b hj),qf5 hw.lo,fun r hr=>qf5 (hw.hide r hr)⟩
      ·cases h
     ·cases h
    ·cases h
   ·cases h
  ·cases h
 ·cases h
def ArrOps (F:Fence) (P:Program) (ops:Array Oper) (Q:Exit->Act->World->Prop) (l:List Nat) (a:Act) (w:World):Prop :=
 ∀(b:Frame) (k:List Item) (cs:List Frame),b.roundOf=F.round->F.fn b.fn->F.room (cs.length+1+0) ->
   ∃e a' w',Q e a' w'/\ArrivesIn (Machine.fenced P F) P (lone (b.atR a (.inRegion ops l::k)) cs w) b k cs e a' w'
section
variable {ops:Array Oper}{Q:Exit->Act->World->Prop}{a:Act}{w:World}
theorem ArrOps.nil (h:Q .normal a w):ArrOps F P ops Q [] a w:=fun _ _ _ _ hb hr=>⟨.normal,a,w,h,.one (fenced_calm hb hr rfl) stepR_region_end⟩
theorem ArrOps.skip (hF:Open F){i:Nat}{rest:List Nat}{o:Oper}(ho:ops[i]? =some o) (hw:Region.wanted o (yielded ops a.tmps)=false) (h:ArrOps F P ops Q rest (a.put o.dst undef) w):ArrOps F P ops Q (i::rest) a w:=by
 intro b k cs hro hb hr;obtain ⟨e,a',w',hq,harr⟩:=h b k cs hro hb hr;have hs:=stepR_op_skip (P:=P) (b:=b) (a:=a) (k:=k) (cs:=cs) (w:=w) (ops:=ops) (i:=i) (rest:=rest)
  (by simp [ho];simpa using hw)
 simp only [ho,Option.bind_some] at hs;exact ⟨e,a',w',hq,.of_steps (.one (fenced_oper hb hr ho (fun f _=>hF.1 f)) hs) harr⟩
theorem ArrOps.op (hF:Open F){i:Nat}{rest:List Nat}{o:Oper}(ho:ops[i]? =some o) (hw:Region.wanted o (yielded ops a.tmps)=true) (h:o.wpIn F 0 P a w (ArrOps F P ops Q rest) Q):ArrOps F P ops Q (i::rest) a w:=by
 intro b k cs hro hb hr;obtain ⟨habout,h⟩:=h;have h0:(lone (b.atR a (.inRegion ops (i::rest)::k)) cs w).fenced P F:=fenced_oper hb hr ho habout;simp only [Oper.uponIn] at h;have hg:=stepGR_op (P:=P) (b:=b) (k:=k) (cs:=cs) (w:=w) (rest:=rest) ho hw;rw [hro] at hg;have hfin:∀v,(b.atR a (.inRegion ops (i::rest)::k)).finish v=b.atR (a.put o.dst v) (.inRegion ops rest::k):=by
  intro v;rw [Frame.finish_atR,ho];rfl
 split at h
 ·rename_i v w' hr'
  obtain ⟨e,a',w'',hq,harr⟩:=h b k cs hro hb hr;refine ⟨e,a',w'',hq,.of_steps (.one h0 (qs5 ?_)) harr⟩;rw [hg,← hfin];simp [stepG.apply,hr']
 ·rename_i w' hr'
  obtain ⟨e,a',w'',hq,harr⟩:=h b k cs hro hb hr;refine ⟨e,a',w'',hq,.of_steps (.one h0 (qs5 ?_)) harr⟩;rw [hg,← hfin];simp [stepG.apply,hr']
 ·rename_i d w' hr'
  obtain ⟨e,a',w'',hq,harr⟩:=h b k cs hro hb hr;refine ⟨e,a',w'',hq,.of_steps (.one h0 (qs5 ?_)) harr⟩;have:({b.atR a (.inRegion ops (i::rest)::k) with defers:=d::a.defers}:Frame).finish undef =
    b.atR ({a with defers:=d::a.defers}.put o.dst undef) (.inRegion ops rest::k):=by
   have:=Frame.finish_atR b {a with defers:=d::a.defers} ops i rest k undef
   rw [ho] at this;exact this
  rw [hg];simp only [stepG.apply,Sem.runT_eq,hr',GStep.bare_after];exact qj4 (fun fr=>GStep.go {frame:=fr,callers:=cs,status:=.running,dying:=none} w') this
 ·rename_i f args w' hr'
  obtain ⟨hn,hFf,h⟩:=h;have hroom:F.room ((b.atR a (.inRegion ops (i::rest)::k)::cs).length+1+(0 - 1)):=Fence.room_enter hr hn;obtain ⟨e,w'',fr,hR,hsteps,hfn,hleave⟩:=h (b.atR a (.inRegion ops (i::rest)::k)::cs) hroom;have henter:step P (lone (b.atR a (.inRegion ops (i::rest)::k)) cs w) =
    .next (lone (Frame.enter P f args .normal) (b.atR a (.inRegion ops (i::rest)::k)::cs) w') :=
   qs5 (by rw [hg];simp [stepG.apply,hr',Frame.atR])
  cases e with
  |returned v =>
   have hl:(lone fr (b.atR a (.inRegion ops (i::rest)::k)::cs) w'').fenced P F:=fenced_leaving (hfn▸hFf) hroom hleave;obtain ⟨e,a',w₃,hq,harr⟩:=hR b k cs hro hb hr;refine ⟨e,a',w₃,hq,.of_steps (.head h0 henter (StepsIn.trans hsteps (.one hl ?_))) harr⟩;rw [← hfin];exact step_leave_returned hleave
  |panicked chain =>
   have hl:(lone fr (b.atR a (.inRegion ops (i::rest)::k)::cs) w'').fenced P F:=fenced_leaving (hfn▸hFf) hroom hleave;refine ⟨.panic chain,a,w'',hR,.inRegion ops (i::rest)::k,.head h0 henter (StepsIn.trans hsteps (.one hl ?_))⟩;rw [← Frame.raise_atR];exact step_leave_panicked hleave
  |outgrown =>
   obtain ⟨a₀,w₀,hq⟩:=hR;exact ⟨.outgrown,a₀,w₀,hq,.inr (Outgrown.of_steps (.one henter) hsteps)⟩
 ·rename_i row args w' hr'
  obtain ⟨hn,h⟩:=h;obtain ⟨v,w'',hR,hsteps⟩:=h (b.atR a (.inRegion ops (i::rest)::k)) cs (Fence.room_enter hr hn);have henter:step P (lone (b.atR a (.inRegion ops (i::rest)::k)) cs w) =
    .next (lone (Frame.ofRow P row args .normal) (b.atR a (.inRegion ops (i::rest)::k)::cs) w') :=
   qs5 (by rw [hg];simp [stepG.apply,hr',Frame.atR])
  obtain ⟨e,a',w₃,hq,harr⟩:=hR b k cs hro hb hr;refine ⟨e,a',w₃,hq,.of_steps (.head h0 henter ?_) harr⟩;rw [← hfin];exact hsteps
 ·rename_i l f tmps assign body w' hr'
  obtain ⟨hn,_,h⟩:=h;obtain ⟨e,w'',hR,hsteps⟩:=h (b.atR a (.inRegion ops (i::rest)::k)) cs (Fence.room_enter hr hn);have henter:step P (lone (b.atR a (.inRegion ops (i::rest)::k)) cs w) =
    .next (lone (Frame.round l f tmps assign body .normal) (b.atR a (.inRegion ops (i::rest)::k)::cs) w') :=
   qs5 (by rw [hg];simp [stepG.apply,hr',Frame.atR])
  cases e with
  |returned v =>
   obtain ⟨e,a',w₃,hq,harr⟩:=hR b k cs hro hb hr;refine ⟨e,a',w₃,hq,.of_steps (.head h0 henter ?_) harr⟩;rw [← hfin];exact hsteps
  |panicked chain =>
   refine ⟨.panic chain,a,w'',hR,.inRegion ops (i::rest)::k,.head h0 henter ?_⟩;rw [← Frame.raise_atR];exact hsteps
  |outgrown =>
   obtain ⟨a₀,w₀,hq⟩:=hR;exact ⟨.outgrown,a₀,w₀,hq,.inr (Outgrown.of_steps (.one henter) hsteps)⟩
 ·rename_i v w' hr'
  refine ⟨_,a,w',h,.inRegion ops (i::rest)::k,.one h0 (qs5 ?_)⟩;rw [hg,← Frame.raise_atR];simp [stepG.apply,hr']
 ·exact h.elim
end
theorem zxx (hL:LOk0 L P) (hr:RecOk P B rec) (hF:Open F){T:Tr AV}{o:Oper}{H:AH}{v:AV}{H1:AH}(h:zzf L rec T o H=some (v,H1)){ops:Array Oper}{Q:Exit->Act->World->Prop}
  {E:Env}{w:World}{a:Act}(hw:H.Wf) (hS:St B E H w) (hT:StT E H.next T a.tmps){i:Nat}{rest:List Nat}(ho:ops[i]? =some o) (hwant:Region.wanted o (yielded ops a.tmps)=true)
  (hK:∀u w1,Done B E H w v H1 u w1->ArrOps F P ops Q rest (a.put o.dst u) w1):ArrOps F P ops Q (i::rest) a w:=by
 unfold zzf at h;split at h
 ·next r hr'=>cases h;exact ArrOps.op hF ho hwant (zsg hL hr hF hr' hw hS hT hK)
 ·split at h
  ·next r he =>
   cases h
   obtain ⟨⟨u,hrun,hd⟩,hop⟩:=zsk1 (B:=B) hL he hw hS hT;refine ArrOps.op hF ho hwant ⟨fun f _=>hF.1 f,?_⟩
   rw [Oper.semAt_eq F.round a.eval o hop,hrun];exact hK u w hd
  ·cases h
theorem ztk1 (hL:LOk0 L P) (hr:RecOk P B rec) (hF:Open F) (ops:Array Oper) (l:List Oper):∀(k:Nat),(∀j,l[j]? =ops[k+j]?)-> ∀(T:Tr AV) (H:AH) (T1:Tr AV) (H1:AH),evOps L rec ops.toList l T H=some (T1,H1) ->
  ∀(E:Env) (w:World) (a:Act),H.Wf->St B E H w->StT E H.next T a.tmps->(∀o∈l,∀d,o.dst=some d->d<a.tmps.size)-> ∀(Q:Exit->Act->World->Prop),
   (∀E1 a1 w1,St B E1 H1 w1->StT E1 H1.next T1 a1.tmps->Post E H w E1 H1 w1->H1.Wf->a1.tmps.size=a.tmps.size->a1.defers=a.defers->Q .normal a1 w1) ->
   ArrOps F P ops Q (List.range' k l.length) a w:=by
 induction l with
 |nil =>
  intro k _ T H T1 H1 h E w a hw hS hT _ Q hQ;cases h;exact ArrOps.nil (hQ E a w hS hT (Post.refl _ _ _) hw rfl rfl)
 |cons o l ih =>
  intro k hk T H T1 H1 h E w a hw hS hT hd Q hQ;have h0:ops[k]? =some o:=by simpa using (hk 0).symm
  have hk':∀j,l[j]? =ops[k+1+j]? :=fun j=>by have:=hk (j+1);simpa [qa6,qn7 1 j] using this
  simp only [qi2,List.range'_succ];have hwk:=zbs (hT E (Agree.refl _ _)) ops o;unfold evOps at h;rw [zta] at h;have hdo:=hd o (by simp)
  split at h
  ·next hwant =>
   split at h
   ·next r hro =>
    refine zxx hL hr hF hro hw hS hT h0 (hwk.trans hwant) fun u w1 ⟨E1,hv,hS1,hp,hw1⟩=> ?_
    refine ih (k+1) hk' _ _ _ _ h E1 w1 _ hw1 hS1 (StT.put (hT.up hp.ext hp.next) hv hdo) (fun o ho d hod=>by rw [zni];exact hd o (by simp [ho]) d hod) Q fun E2 a2 w2 k1 k2 k3 k4 k5 k6=> ?_
    exact hQ E2 a2 w2 k1 k2 (hp.trans k3) k4 (k5.trans (zni _ _ _)) (k6.trans (zph _ _ _))
   ·cases h
  ·next hwant =>
   refine ArrOps.skip hF h0 (hwk.trans hwant) ?_;refine ih (k+1) hk' _ _ _ _ h E w _ hw hS (StT.put hT (v:=.undef) (u:=undef) (fun _ _=>rfl) hdo) (fun o ho d hod=>by rw [zni];exact hd o (by simp [ho]) d hod) Q fun E2 a2 w2 k1 k2 k3 k4 k5 k6=> ?_
   exact hQ E2 a2 w2 k1 k2 k3 k4 (k5.trans (zni _ _ _)) (k6.trans (zph _ _ _))
end
theorem zyx (T:Tr AV) (t:Nat):opnd T (.tmp t)=some (getT T t):=by
 show (match T.get t with|some v=>some v|none=>some AV.undef)=_
 unfold getT;cases T.get t<;>rfl
theorem zzx {T T':Tr AV}(x:Operand) (h:∀t,x= .tmp t->getT T t=getT T' t):opnd T x=opnd T' x:=by
 cases x with
 |tmp t=>rw [zyx,zyx,h t rfl]
 |_=>rfl
theorem zsc1 {l:List Operand}{t:Nat}(h:Operand.tmp t∈l):t∈opdTs l:=by
 induction l with
 |nil=>cases h
 |cons x l ih =>
  show t∈(match x with| .tmp t=>t::opdTs l|_=>opdTs l)
  rcases qe1.1 h with rfl|h2
  ·exact qt1
  ·cases x with
   |tmp s=>exact qh1 _ (ih h2)
   |const v=>exact ih h2
   |global g=>exact ih h2
   |func f=>exact ih h2
theorem znk {α β:Type}{f g:α->Option β}{l:List α}(h:∀a∈l,f a=g a):mapO f l=mapO g l:=by
 induction l with
 |nil=>rfl
 |cons a l ih =>
  show obind (f a) (fun b=>obind (mapO f l) fun bs=>some (b::bs))=obind (g a) (fun b=>obind (mapO g l) fun bs=>some (b::bs))
  rw [h a (by simp),ih fun a ha=>h a (by simp [ha])]
theorem zay {L:Lk}{T T':Tr AV}{o:Oper}{H:AH}(h:∀t∈opdTs (zxg o.op),getT T t=getT T' t):evOp L T o H=evOp L T' o H:=by
 have hx:∀x∈zxg o.op,opnd T x=opnd T' x:=fun x hx=>zzx x fun t ht=>h t (zsc1 (ht▸hx))
 have hl:∀l:List Operand,(∀x∈l,x∈zxg o.op)->mapO (opnd T) l=mapO (opnd T') l:=fun l hl=>znk fun a ha=>hx a (hl a ha)
 unfold evOp;generalize ho:o.op=op at *
 cases op with
 |build t ps =>
  simp only;rw [znk fun (p:Nat×Operand) hp=>by rw [hx p.2 (qd3.2 ⟨p,hp,rfl⟩)]]
 |buildSlice t n ps =>
  simp only;rw [znk fun (p:Nat×Operand) hp=>by rw [hx p.2 (qd3.2 ⟨p,hp,rfl⟩)]]
 |makeFunc fn a b =>
  simp only [opnds];rw [hl a.toList fun x hx=>List.mem_append_left _ hx,hl b.toList fun x hx=>List.mem_append_right _ hx]
 |slice t x lo hi mx =>
  simp only;rw [hx x (by simp [zxg]),hl lo.toList fun y hy=>by simp only [zxg,qe1,qs2];exact .inr (.inl hy),
   hl hi.toList fun y hy=>by simp only [zxg,qe1,qs2];exact .inr (.inr (.inl hy)),
   hl mx.toList fun y hy=>by simp only [zxg,qe1,qs2];exact .inr (.inr (.inr hy))]
 |call c =>
  simp only [opnds];obtain ⟨callee,args,ats⟩:=c;cases callee with
  |builtin b=>simp only;rw [hl args.toList fun x hx=>hx]
  |value f =>
   simp only;rw [hl args.toList fun x hx=>qh1 _ hx,hx f (by simp [zxg])]
  |invoke r m =>
   simp only;rw [hl args.toList fun x hx=>qh1 _ hx,hx r (by simp [zxg])]
 |_=>simp only [zxg,qe1,qv4,qk6,forall_eq_or_imp,forall_eq,implies_true] at hx<;>simp only [hx]
def Sub (H H':AH):Prop:= ∀i b,H.get i=some b->H'.get i=some b
theorem Sub.row {H H':AH}(hs:Sub H H'){i:Nat}{vs:List AV}(h:H.row i=some vs):H'.row i=some vs:=by
 unfold AH.row at *
 cases hg:H.get i with
 |none=>rw [hg] at h;cases h
 |some b=>rw [hg] at h;rw [hs i b hg];exact h
theorem Sub.read {H H':AH}(hs:Sub H H'){i o n:Nat}{l:List AV}(h:H.read i o n=some l):H'.read i o n=some l:=by
 unfold AH.read at *
 cases hg:H.row i with
 |none=>rw [hg] at h;cases h
 |some b=>rw [hg] at h;rw [hs.row hg];exact h
theorem Sub.subC {H H':AH}(hs:Sub H H'){i o n:Nat}{l:Ce}(h:H.subC i o n=some l):H'.subC i o n=some l:=by
 unfold AH.subC at h ⊢
 cases hg:H.get i with
 |none=>rw [hg] at h;cases h
 |some b=>rw [hs i b hg];rw [hg] at h;exact h
theorem Sub.read1 {H H':AH}(hs:Sub H H'){i o:Nat}{l:AV}(h:H.read1 i o=some l):H'.read1 i o=some l:=by
 unfold AH.read1 at *
 cases hg:H.row i with
 |none=>rw [hg] at h;cases h
 |some b=>rw [hg] at h;rw [hs.row hg];exact h
theorem Sub.load {L:Lk}{H H':AH}(hs:Sub H H'){t:TypeId}{a v:AV}(h:zvb L t a H=some v):zvb L t a H'=some v:=by
 unfold zvb at *
 split at h
 ·split at h
  ·split at h
   ·split at h
    ·next hr=>rw [hs.subC hr];exact h
    ·cases h
   ·cases h
  ·exact hs.read1 h
  ·cases h
 ·cases h
theorem Sub.loadG {L:Lk}{H H':AH}(hs:Sub H H'){t:TypeId}{a v:AV}(h:zue L t a H=some v):zue L t a H'=some v:=by
 unfold zue at *
 split at h
 ·split at h
  ·unfold ldG at *
   split at h
   ·split at h
    ·next hg=>rw [hs _ _ hg];exact h
    ·cases h
   ·cases h
  ·cases h
 ·exact hs.load h
theorem Sub.lookup {L:Lk}{H H':AH}(hs:Sub H H'){t:TypeId}{x k v:AV}{ok:Bool}(h:zjb L t x k ok H=some v):zjb L t x k ok H'=some v:=by
 unfold zjb at *
 split at h
 ·split at h
  ·cases x with
   |map i =>
    simp only at h ⊢
    cases hg:H.get i with
    |none=>rw [hg] at h;cases h
    |some b=>rw [hg] at h;rw [hs i b hg];exact h
   |_=>exact h
  ·cases h
 ·cases h
theorem Sub.len {L:Lk}{H H':AH}(hs:Sub H H'){t:TypeId}{x v:AV}(h:evLen L t x H=some v):evLen L t x H'=some v:=by
 unfold evLen at *
 split at h
 ·exact h
 ·exact h
 ·exact h
 ·exact h
 ·cases x with
  |map i =>
   simp only at h ⊢
   cases hg:H.get i with
   |none=>rw [hg] at h;cases h
   |some b=>rw [hg] at h;rw [hs i b hg];exact h
  |_=>exact h
 ·cases x with
  |ext k i o =>
   simp only at h ⊢
   cases hk:Nat.beq k 1 && Nat.beq o 0 with
   |false=>rw [hk] at h;cases h
   |true =>
    rw [hk] at h;simp only at h ⊢
    cases hg:H.get i with
    |none=>rw [hg] at h;cases h
    |some b=>rw [hg] at h;rw [hs i b hg];exact h
  |_=>exact h
 ·cases h
theorem len_any {L:Lk}{H H':AH}{t:TypeId}{x v:AV}(ht:∀k e,L.under t≠some (.map k e)) (hc:∀k e,L.under t≠some (.chan k e)) (h:evLen L t x H=some v):evLen L t x H'=some v:=by
 unfold evLen at *
 split at h<;>first
  |exact h
  |(next hm=>exact absurd hm (ht _ _))
  |(next hm=>exact absurd hm (hc _ _))
  |cases h
theorem znv {L:Lk}{b:Builtin}{ts:List TypeId}{args:List AV}{H:AH}{p:AV×AH}(hb:b= .cap\/b= .min\/b= .max) (h:zpb L b ts args H=some p) :
  p.2=H/\ ∀H',zpb L b ts args H'=some (p.1,H'):=by
 rcases hb with rfl|rfl|rfl<;>unfold zpb at* <;>simp only at h ⊢ <;>split at h<;>first|(cases h;done)|(split at h<;>first|(cases h;done)|(cases h;exact ⟨rfl,fun _=>rfl⟩))
theorem zwl {L:Lk}{ts:List TypeId}{args:List AV}{H:AH}{p:AV×AH}(h:zpb L .len ts args H=some p) :
  ∃t ts' x as',ts=t::ts'/\args=x::as'/\evLen L t x H=some p.1/\p.2=H:=by
 unfold zpb at h;simp only at h;split at h
 ·split at h
  ·next hl=>cases h;exact ⟨_,_,_,_,rfl,rfl,hl,rfl⟩
  ·cases h
 ·cases h
theorem zby {L:Lk}{T:Tr AV}{o:Oper}{H:AH}{nx:Next1}(hp:zfl L o.op=true) (h:evOp L T o H=some nx) :
  ∃v,nx= .val v H/\ ∀H',evOp L T o H'=some (.val v H'):=by
 unfold evOp at h ⊢
 generalize ho:o.op=op at *
 have key:∀x:Option AV,val1 x H=some nx-> ∃v,nx= .val v H/\ ∀H',val1 x H'=some (.val v H'):=by
  intro x hx;unfold val1 at hx;split at hx
  ·next v=>cases hx;exact ⟨v,rfl,fun _=>rfl⟩
  ·cases hx
 cases op with
 |sliceToArrayPointer t x=>cases h
 |convert s d x =>
  simp only at h ⊢
  simp only [zfl] at hp;split at hp
  ·next ks kd hs hd =>
   split at h
   ·next v hv =>
    have hc:∀H',zxb L s d v H'=(match (generalizing:=false) v with| .int _ n=>some (.int kd (fwrap kd n),H')|_=>none):=fun H'=>by
     unfold zxb;simp only [hs,hd];cases v<;>rfl
    rw [hc] at h;cases v with
    |int k n =>
     cases h
     exact ⟨_,rfl,fun H'=>by rw [hc];rfl⟩
    |_=>cases h
   ·cases h
  ·cases hp
 |call c =>
  obtain ⟨callee,args,ats⟩:=c;cases callee with
  |builtin b =>
   simp only at h ⊢
   split at h
   ·cases h
   ·next as has =>
    unfold val2 at h;split at h
    ·next p hb =>
     cases h
     have fin:(b= .cap\/b= .min\/b= .max)-> ∃v,Next1.val p.1 p.2= .val v H/\ ∀H',val2 (zpb L b ats.toList as H')=some (.val v H'):=fun hc=>by
      obtain ⟨h1,h2⟩:=znv hc hb;exact ⟨p.1,by rw [h1],fun H'=>by rw [h2 H'];rfl⟩
     cases b with
     |len =>
      obtain ⟨t,ts',x,as',e1,e2,hl,e3⟩:=zwl hb;refine ⟨p.1,by rw [e3],fun H'=> ?_⟩
      simp only [zfl,e1] at hp;have:evLen L t x H'=some p.1:=len_any (fun k e hk=>by rw [hk] at hp;cases hp) (fun k e hk=>by rw [hk] at hp;cases hp) hl
      rw [e1,e2];unfold zpb;simp only [this];rfl
     |cap=>exact fin (.inl rfl)
     |min=>exact fin (.inr (.inl rfl))
     |max=>exact fin (.inr (.inr rfl))
     |_=>cases hp
    ·cases h
  |_=>cases hp
 |_=>first
  |(cases hp;done)
  |(simp only at h ⊢;exact key _ h)
  |(simp only at h ⊢;split at h<;>first|(cases h;done)|exact key _ h|(cases h;exact ⟨_,rfl,fun _=>rfl⟩))
theorem zcy {L:Lk}{T:Tr AV}{o:Oper}{H:AH}{nx:Next1}(hp:zzj o.op=true) (h:evOp L T o H=some nx) :
  ∃v,nx= .val v H/\ ∀H',Sub H H'->evOp L T o H'=some (.val v H'):=by
 unfold evOp at h ⊢
 generalize ho:o.op=op at *
 cases op with
 |load t x =>
  simp only at h ⊢
  split at h
  ·unfold val1 at h
   split at h
   ·next v hv=>cases h;exact ⟨v,rfl,fun H' hs=>by rw [hs.loadG hv];rfl⟩
   ·cases h
  ·cases h
 |lookup t x k ok =>
  simp only at h ⊢
  split at h
  ·unfold val1 at h
   split at h
   ·next v hv=>cases h;exact ⟨v,rfl,fun H' hs=>by rw [hs.lookup hv];rfl⟩
   ·cases h
  ·cases h
 |call c =>
  obtain ⟨callee,args,ats⟩:=c;cases callee with
  |builtin b =>
   cases b with
   |len =>
    simp only at h ⊢
    split at h
    ·cases h
    ·next as has =>
     unfold val2 at h;split at h
     ·next p hb =>
      cases h
      obtain ⟨t,ts',x,as',e1,e2,hl,e3⟩:=zwl hb;refine ⟨p.1,by rw [e3],fun H' hs=> ?_⟩
      have:=hs.len hl;rw [e1,e2];unfold zpb;simp only [this];rfl
     ·cases h
   |_=>cases hp
  |_=>cases hp
 |_=>cases hp
def zyo (all:List Oper) (D:Nat->Bool):Prop:= ∀i o,all[i]? =some o->D i=true-> ∀e∈o.after.toList,Region.binds .any e=true->D e.on=true
def Deps (o:Oper) (D:Nat->Bool):Prop:= ∀e∈o.after.toList,Region.binds .any e=true->D e.on=true
theorem zuq {o:Oper}{pre:List Ent}{j:Nat}(h:Nat.testBit (ancs o pre) j=true):∃e∈o.after.toList,Region.binds .any e=true/\(e.on=j\/Nat.testBit (ancOf pre e.on) j=true):=by
 unfold ancs at h;generalize o.after.toList=l at *
 induction l with
 |nil=>exact absurd h (by simp [lrec])
 |cons e l ih =>
  rw [zta] at h;split at h
  ·next hb =>
   have h:Nat.testBit (((1 <<< e.on) ||| ancOf pre e.on) ||| _) j=true:=h;rw [qe7,qe7,qg5,qg5] at h;rcases h with (h|h)|h
   ·refine ⟨e,by simp,hb,.inl ?_⟩
    rw [Nat.testBit_shiftLeft] at h;simp only [qm,qs,Nat.testBit_one_eq_true_iff_self_eq_zero] at h;omega
   ·exact ⟨e,by simp,hb,.inr h⟩
   ·obtain ⟨e',he',h'⟩:=ih h
    exact ⟨e',by simp [he'],h'⟩
  ·obtain ⟨e',he',h'⟩:=ih h
   exact ⟨e',by simp [he'],h'⟩
theorem ztc1 {pre:List Ent}{i j:Nat}(h:Nat.testBit (ancOf pre i) j=true):∃y∈pre,y.1=i/\Nat.testBit y.2.1 j=true:=by
 induction pre with
 |nil=>exact absurd h (by simp [ancOf,lrec])
 |cons y pre ih =>
  unfold ancOf at h;rw [zta] at h;split at h
  ·next hb=>exact ⟨y,by simp,qi hb,h⟩
  ·obtain ⟨y',h1,h2⟩:=ih h
   exact ⟨y',by simp [h1],h2⟩
def AncP (all:List Oper) (x:Ent):Prop:= ∀D,zyo all D->Deps x.2.2 D-> ∀j,Nat.testBit x.2.1 j=true->D j=true
theorem ancs_ok {all:List Oper}{pre:List Ent}(hpre:∀y∈pre,all[y.1]? =some y.2.2/\AncP all y){i:Nat}{o:Oper}:AncP all (i,ancs o pre,o):=by
 intro D hD hdep j hj;obtain ⟨e,he,hb,h⟩:=zuq hj;have hde:=hdep e he hb;rcases h with rfl|h
 ·exact hde
 ·obtain ⟨y,hy,hye,hyj⟩:=ztc1 h
  obtain ⟨h1,h2⟩:=hpre y hy;exact h2 D hD (fun e' he' hb'=>hD y.1 y.2.2 h1 (hye▸hde) e' he' hb') j hyj
structure OkPair (L:Lk) (all:List Oper) (y x:Ent):Prop where
 ne:y.1≠x.1
 apart:Nat.testBit x.2.1 y.1=false->clash all y.2.2 x.2.2=false
 mem:Nat.testBit x.2.1 y.1=false->zia L y.2.2=true->zbh L x.2.2=true\/zpd L x.2.2=true
theorem okAt_ok {L:Lk}{all:List Oper}{x:Ent}{pre:List Ent}(h:okAt L all x pre=true):∀y∈pre,OkPair L all y x:=by
 induction pre with
 |nil=>intro y hy;cases hy
 |cons z pre ih =>
  unfold okAt at h;rw [zta,qm] at h;intro y hy;rcases qe1.1 hy with rfl|hy
  ·obtain ⟨h1,_⟩:=h
   split at h1
   ·cases h1
   ·next hne =>
    refine ⟨qw4 hne,fun hf=> ?_,fun hf hh=> ?_⟩
    ·rw [hf] at h1
     simp only [qm,qh4] at h1;exact h1.1
    ·rw [hf] at h1
     simp only [qm,qh4,hh,qo2,qr5,qg5] at h1;exact h1.2
  ·exact ih h.2 y hy
theorem zuc1 {o:Oper}{pre:List Ent}(h:zyb1 o pre=true):∀e∈o.after.toList,Region.binds .any e=true-> ∃y∈pre,y.1=e.on:=by
 unfold zyb1 at h;generalize o.after.toList=l at *
 induction l with
 |nil=>intro e he;cases he
 |cons z l ih =>
  rw [zta] at h;intro e he hb;rcases qe1.1 he with rfl|he
  ·rw [hb] at h
   simp only [qm,qf4] at h;obtain ⟨⟨y,hy,hyb⟩,_⟩:=h;exact ⟨y,hy,qi hyb⟩
  ·split at h
   ·simp only [qm] at h
    exact ih h.2 e he hb
   ·exact ih h e he hb
theorem has_no {l:List Nat}{t:Nat}(h:has l t=false):t ∉ l:=by
 induction l with
 |nil=>exact fun h=>nomatch h
 |cons x l ih =>
  unfold has at h;rw [zta] at h;split at h
  ·cases h
  ·next hx =>
   intro hm;rcases qe1.1 hm with rfl|hm
   ·rw [qr2] at hx;cases hx
   ·exact ih h hm
theorem zvc1 {L:Lk}{x:Ent}(pre:List Ent):∀ds,zzj1 L x pre ds=false-> ∀p1 y p2,pre=p1 ++ y::p2->zad L y.2.2=true->Nat.testBit x.2.1 y.1=false->False:=by
 induction pre with
 |nil=>intro ds _ p1 y p2 h;simp at h
 |cons z pre ih =>
  intro ds h p1 y p2 he hr hb;unfold zzj1 at h;rw [zta] at h;cases p1 with
  |nil =>
   simp only [qk1,qz2] at he;obtain ⟨rfl,rfl⟩:=he;rw [hr,hb] at h;cases h
  |cons q p1 =>
   simp only [qk2,qz2] at he;obtain ⟨rfl,rfl⟩:=he;split at h
   ·exact ih _ h p1 y p2 rfl hr hb
   ·cases h
theorem zwc1 {pl:List Ent}{n:Nat}(h:zak1 pl n=true):∀i,i<n-> ∃y∈pl,y.1=i:=by
 induction n with
 |zero=>intro i hi;omega
 |succ n ih =>
  have h':((pl.any fun y=>Nat.beq y.1 n) && zak1 pl n)=true:=h
  rw [qm,qf4] at h';obtain ⟨⟨y,hy,hyb⟩,h2⟩:=h';intro i hi;by_cases he:i=n
  ·subst he;exact ⟨y,hy,qi hyb⟩
  ·exact ih h2 i oM
theorem zuk1 {o:Oper}{pre:List Ent}:∀e∈o.after.toList,Region.binds .any e=true->Nat.testBit (ancs o pre) e.on=true:=by
 unfold ancs;generalize o.after.toList=l
 induction l with
 |nil=>intro e he;cases he
 |cons z l ih =>
  intro e he hb;rw [zta];rcases qe1.1 he with rfl|he
  ·rw [hb]
   show Nat.testBit (((1 <<< e.on) ||| ancOf pre e.on) ||| _) e.on=true
   rw [qe7,qe7,Nat.testBit_shiftLeft];simp
  ·split
   ·show Nat.testBit (((1 <<< z.on) ||| ancOf pre z.on) ||| _) e.on=true
    rw [qe7,ih e he hb,Bool.or_true]
   ·exact ih e he hb
theorem flOk_ok {L:Lk}{x:Ent}{pre:List Ent}(h:flOk L x pre=true):∀p1 y p2,pre=p1 ++ y::p2->zpd L y.2.2=true->Nat.testBit x.2.1 y.1=true-> ∀z∈p2,zia L z.2.2=true->Nat.testBit x.2.1 z.1=true:=by
 induction pre with
 |nil=>intro p1 y p2 he;simp at he
 |cons q pre ih =>
  unfold flOk at h;rw [zta,qm] at h;intro p1 y p2 he hf hb z hz hh;cases p1 with
  |nil =>
   simp only [qk1,qz2] at he;obtain ⟨rfl,rfl⟩:=he;have h1:=h.1;rw [hf,hb] at h1;simp only [qp2] at h1;have:=qb1.1 h1 z hz;rw [hh] at this
   simpa using this
  |cons r p1 =>
   simp only [qk2,qz2] at he;obtain ⟨rfl,rfl⟩:=he;exact ih h.2 p1 y p2 rfl hf hb z hz hh
structure Stp where
 x:Ent
 pre:List Ent
 T:Tr AV
 H:AH
 v:AV
 H':AH
def StepOk (L:Lk) (rec:Rec) (all:List Oper) (s:Stp):Prop :=
 (zac all s.T s.x.2.2=false/\(s.v= .undef/\s.H'=s.H)/\loose L s.x s.pre=false) \/
 (zac all s.T s.x.2.2=true /\
  ((zia L s.x.2.2=false/\(∃H2,zva L rec s.T s.x.2.2 s.H=some (s.v,H2))/\s.H'=s.H) \/
   (zia L s.x.2.2=true/\zih L s.x s.pre=false/\zva L rec s.T s.x.2.2 s.H=some (s.v,s.H')) \/
   (zia L s.x.2.2=true/\far L s.T s.x s.pre=true/\zva L rec s.T s.x.2.2 s.H=some (s.v,s.H')) \/
   (zia L s.x.2.2=true/\zih L s.x s.pre=true/\zid L rec s.T s.x s.pre s.H=some (s.v,s.H'))))
inductive Chain (L:Lk) (rec:Rec) (all:List Oper):List Ent->Tr AV->AH->List Stp->Tr AV->AH->Prop where
 |nil (pre T H):Chain L rec all pre T H [] T H
 |cons {s:Stp}{ss:List Stp}{T1:Tr AV}{H1:AH}(h:StepOk L rec all s) (hr:Chain L rec all (s.x::s.pre) (putT s.T s.x.2.2.dst s.v) s.H' ss T1 H1):Chain L rec all s.pre s.T s.H (s::ss) T1 H1
theorem zvq {L:Lk}{rec:Rec}{all:List Oper}(pl:List Ent):∀(pre:List Ent) (T:Tr AV) (H:AH) (T1:Tr AV) (H1:AH),zak L rec all pl pre T H=some (T1,H1) ->
  ∃ss:List Stp,ss.map (·.x)=pl/\Chain L rec all pre T H ss T1 H1:=by
 induction pl with
 |nil=>intro pre T H T1 H1 h;cases h;exact ⟨[],rfl,.nil _ _ _⟩
 |cons x pl ih =>
  intro pre T H T1 H1 h;unfold zak at h;rw [zta] at h;have fin:∀v H',StepOk L rec all ⟨x,pre,T,H,v,H'⟩->zak L rec all pl (x::pre) (putT T x.2.2.dst v) H'=some (T1,H1)-> ∃ss:List Stp,ss.map (·.x)=x::pl/\Chain L rec all pre T H ss T1 H1:=by
   intro v H' hs he;obtain ⟨ss,e1,e2⟩:=ih _ _ _ _ _ he;exact ⟨⟨x,pre,T,H,v,H'⟩::ss,by simp [e1],.cons (s:=⟨x,pre,T,H,v,H'⟩) hs e2⟩
  split at h
  ·next hw =>
   split at h
   ·cases h
   ·next hlo=>exact fin _ _ (.inl ⟨hw,⟨rfl,rfl⟩,hlo⟩) h
  ·next hw =>
   split at h
   ·next hh =>
    split at h
    ·next r hr=>exact fin _ _ (.inr ⟨hw,.inl ⟨hh,⟨r.2,hr⟩,rfl⟩⟩) h
    ·cases h
   ·next hh =>
    split at h
    ·next hwt =>
     split at h
     ·next r hr=>exact fin _ _ (.inr ⟨hw,.inr (.inl ⟨hh,hwt,hr⟩)⟩) h
     ·cases h
    ·next hwt =>
     split at h
     ·next hf =>
      split at h
      ·next r hr=>exact fin _ _ (.inr ⟨hw,.inr (.inr (.inl ⟨hh,hf,hr⟩))⟩) h
      ·cases h
     ·split at h
      ·next r hr=>exact fin _ _ (.inr ⟨hw,.inr (.inr (.inr ⟨hh,hwt,hr⟩))⟩) h
      ·cases h
structure Known1 (L:Lk) (rec:Rec) (all:List Oper) (s:Stp):Prop where
 step:StepOk L rec all s
 op:all[s.x.1]? =some s.x.2.2
 anc:AncP all s.x
 bits:s.x.2.1=ancs s.x.2.2 s.pre
 fl:flOk L s.x s.pre=true
structure Known2 (L:Lk) (all:List Oper) (y s:Stp):Prop where
 pair:OkPair L all y.x s.x
theorem zov {L:Lk}{rec:Rec}{all:List Oper}(l:List Nat):∀(pre:List Ent) (pl:List Ent) (T:Tr AV) (H:AH) (ss:List Stp) (T1:Tr AV) (H1:AH),annot L all l pre=some pl->ss.map (·.x)=pl->Chain L rec all pre T H ss T1 H1 ->
  (∀y∈pre,all[y.1]? =some y.2.2/\AncP all y) ->
  (∀s∈ss,Known1 L rec all s)/\ss.Pairwise (Known2 L all)/\(∀s∈ss,∀y∈pre,OkPair L all y s.x) /\
  (∀a s b,ss=a ++ s::b-> ∀e∈s.x.2.2.after.toList,Region.binds .any e=true->(∃y∈pre,y.1=e.on)\/ ∃y∈a,y.x.1=e.on):=by
 induction l with
 |nil =>
  intro pre pl T H ss T1 H1 ha hm hc _;cases ha;have:ss= []:=List.map_eq_nil_iff.1 hm;subst this;exact ⟨fun _ h=>(nomatch h),.nil,fun _ h=>(nomatch h),fun a s b h=>by simp at h⟩
 |cons i l ih =>
  intro pre pl T H ss T1 H1 ha hm hc hpre;unfold annot at ha;rw [zta] at ha;split at ha
  ·cases ha
  ·next o ho =>
   rw [zcg] at ho;split at ha
   ·next hok =>
    rw [qm,qm] at hok;obtain ⟨hok,hflo⟩:=hok;split at ha
    ·next r hr =>
     cases ha
     cases hc with
     |nil=>simp at hm
     |cons h hrest =>
      next s ss =>
      simp only [qp1,qz2] at hm;obtain ⟨hx,hm⟩:=hm;have hop:all[s.x.1]? =some s.x.2.2:=by rw [hx];exact ho
      have hanc:AncP all s.x:=by rw [hx];exact ancs_ok hpre
      have hpair:∀y∈s.pre,OkPair L all y s.x:=by
       have:=hok.2;rw [← hx] at this;exact okAt_ok this
      have hdep:zyb1 s.x.2.2 s.pre=true:=by rw [hx];exact hok.1
      rw [← hx] at hr;obtain ⟨k1,k2,k3,k4⟩:=ih (s.x::s.pre) r _ _ ss T1 H1 hr hm hrest (fun y hy=>by
       rcases qe1.1 hy with rfl|hy
       ·exact ⟨hop,hanc⟩
       ·exact hpre y hy)
      have hfl:flOk L s.x s.pre=true:=by rw [hx];exact hflo
      have hbits:s.x.2.1=ancs s.x.2.2 s.pre:=by rw [hx]
      refine ⟨fun s' hs'=> ?_,?_,fun s' hs' y hy=> ?_,fun a s' b hab=> ?_⟩
      ·rcases qe1.1 hs' with rfl|hs'
       ·exact ⟨h,hop,hanc,hbits,hfl⟩
       ·exact k1 s' hs'
      ·refine qx6.2 ⟨fun s' hs'=> ?_,k2⟩
       have:=k3 s' hs' s.x (by simp)
       exact ⟨this⟩
      ·rcases qe1.1 hs' with rfl|hs'
       ·exact hpair y hy
       ·exact k3 s' hs' y (by simp [hy])
      ·intro e he hb
       cases a with
       |nil =>
        simp only [qk1,qz2] at hab;obtain ⟨rfl,rfl⟩:=hab;exact .inl (zuc1 hdep e he hb)
       |cons z a =>
        simp only [qk2,qz2] at hab;obtain ⟨rfl,hab⟩:=hab;rcases k4 a s' b hab e he hb with ⟨y,hy,hye⟩|⟨y,hy,hye⟩
        ·rcases qe1.1 hy with rfl|hy
         ·exact .inr ⟨s,by simp,hye⟩
         ·exact .inl ⟨y,hy,hye⟩
        ·exact .inr ⟨y,by simp [hy],hye⟩
    ·cases ha
   ·cases ha
noncomputable def TD (D:Nat->Bool):List Stp->Tr AV->Tr AV
 | [],T=>T
 |s::ss,T=>TD D ss (if D s.x.1=true then putT T s.x.2.2.dst s.v else T)
noncomputable def HD (L:Lk) (D:Nat->Bool):List Stp->AH->AH
 | [],H=>H
 |s::ss,H=>HD L D ss (if D s.x.1=true/\zia L s.x.2.2=true then s.H' else H)
abbrev tt:Nat->Bool:=fun _=>true
theorem zxc (T:Tr AV) (d:Option Tmp) (v:AV) (t:Nat):getT (putT T d v) t=if d=some t then v else getT T t:=by
 cases d with
 |none=>simp [putT]
 |some d =>
  show getT (T.set d v) t=_
  rw [zrm];by_cases h:t=d
  ·subst h;simp
  ·rw [qg h,qg (by simp;exact fun e=>h e.symm)]
theorem zqh (D:Nat->Bool) (a b:List Stp):∀T,TD D (a ++ b) T=TD D b (TD D a T):=by
 induction a with
 |nil=>intro T;rfl
 |cons s a ih=>intro T;exact ih _
theorem zgn (L:Lk) (D:Nat->Bool) (a b:List Stp):∀T,HD L D (a ++ b) T=HD L D b (HD L D a T):=by
 induction a with
 |nil=>intro T;rfl
 |cons s a ih=>intro T;exact ih _
theorem zdy {D D':Nat->Bool}{t:Nat}(ss:List Stp):∀(T T':Tr AV),(∀s∈ss,D s.x.1≠D' s.x.1->s.x.2.2.dst≠some t)->getT T t=getT T' t->getT (TD D ss T) t=getT (TD D' ss T') t:=by
 induction ss with
 |nil=>intro T T' _ h;exact h
 |cons s ss ih =>
  intro T T' hs h;refine ih _ _ (fun y hy=>hs y (by simp [hy])) ?_
  have h0:=hs s (by simp)
  by_cases hd:s.x.2.2.dst=some t
  ·have he:D s.x.1=D' s.x.1:=by
    by_cases he:D s.x.1=D' s.x.1
    ·exact he
    ·exact absurd hd (h0 he)
   rw [he];split
   ·rw [zxc,zxc,qj hd,qj hd]
   ·exact h
  ·have k:∀(c:Prop) [Decidable c] (T:Tr AV),getT (if c then putT T s.x.2.2.dst s.v else T) t=getT T t:=by
    intro c _ T;split
    ·rw [zxc,qg hd]
    ·rfl
   rw [k,k,h]
theorem zzo {D:Nat->Bool}{t:Nat}(ss:List Stp):∀(T:Tr AV),(∀s∈ss,D s.x.1=true->s.x.2.2.dst≠some t)->getT (TD D ss T) t=getT T t:=by
 induction ss with
 |nil=>intro T _;rfl
 |cons s ss ih =>
  intro T hs;refine (ih _ (fun y hy=>hs y (by simp [hy]))).trans ?_
  split
  ·next h=>rw [zxc,qg (hs s (by simp) h)]
  ·rfl
theorem zcs {L:Lk}{D D':Nat->Bool}(ss:List Stp):∀(H:AH),(∀s∈ss,zia L s.x.2.2=true->D s.x.1=D' s.x.1)->HD L D ss H=HD L D' ss H:=by
 induction ss with
 |nil=>intro H _;rfl
 |cons s ss ih =>
  intro H hs;show HD L D ss _=HD L D' ss _
  rw [ih _ (fun y hy=>hs y (by simp [hy]))]
  congr 1
  by_cases h:zia L s.x.2.2=true
  ·rw [hs s (by simp) h]
  ·rw [qg (fun hc=>h hc.2),qg (fun hc=>h hc.2)]
theorem zds {L:Lk}{D:Nat->Bool}(ss:List Stp):∀(H:AH),(∀s∈ss,zia L s.x.2.2=true->D s.x.1=false)->HD L D ss H=H:=by
 induction ss with
 |nil=>intro H _;rfl
 |cons s ss ih =>
  intro H hs;show HD L D ss _=_
  rw [ih _ (fun y hy=>hs y (by simp [hy])),qg]
  rintro ⟨h1,h2⟩;rw [hs s (by simp) h2] at h1
  cases h1
theorem zey {L:Lk}{D:Nat->Bool}(ss:List Stp) (H:AH) (h:∀s∈ss,zia L s.x.2.2=false):HD L D ss H=H:=by
 have:HD L D ss H=HD L (fun _=>false) ss H:=zcs ss H fun s hs hh=>by rw [h s hs] at hh;cases hh
 rw [this];exact zds ss H fun _ _ _=>rfl
theorem StepOk.light {L:Lk}{rec:Rec}{all:List Oper}{s:Stp}(h:StepOk L rec all s) (hl:zia L s.x.2.2=false):s.H'=s.H:=by
 rcases h with ⟨_,⟨_,h⟩,_⟩|⟨_,⟨_,_,h⟩|⟨h,_⟩|⟨h,_⟩|⟨h,_⟩⟩
 ·exact h
 ·exact h
 ·rw [hl] at h;cases h
 ·rw [hl] at h;cases h
 ·rw [hl] at h;cases h
theorem Chain.at {L:Lk}{rec:Rec}{all:List Oper}(a:List Stp):∀{pre:List Ent}{T:Tr AV}{H:AH}{s:Stp}{b:List Stp}{T1:Tr AV}{H1:AH},Chain L rec all pre T H (a ++ s::b) T1 H1 ->
  s.T=TD tt a T/\s.H=HD L tt a H:=by
 induction a with
 |nil =>
  intro pre T H s b T1 H1 h;cases h;exact ⟨rfl,rfl⟩
 |cons y a ih =>
  intro pre T H s b T1 H1 h;rw [qk2] at h;cases h with
  |cons h hr =>
   obtain ⟨e1,e2⟩:=ih hr;refine ⟨e1,e2.trans ?_⟩;show _=HD L tt a _
   by_cases hh:zia L y.x.2.2=true
   ·rw [qj ⟨rfl,hh⟩]
   ·rw [qg (fun hc=>hh hc.2),h.light (by simpa using hh)]
theorem Chain.pre {L:Lk}{rec:Rec}{all:List Oper}(a:List Stp):∀{pre:List Ent}{T:Tr AV}{H:AH}{s:Stp}{b:List Stp}{T1:Tr AV}{H1:AH},Chain L rec all pre T H (a ++ s::b) T1 H1 ->
  s.pre=(a.map (·.x)).reverse ++ pre:=by
 induction a with
 |nil =>
  intro pre T H s b T1 H1 h;cases h;rfl
 |cons y a ih =>
  intro pre T H s b T1 H1 h;rw [qk2] at h;cases h with
  |cons h hr=>rw [ih hr];simp
theorem Chain.end {L:Lk}{rec:Rec}{all:List Oper}(a:List Stp):∀{pre:List Ent}{T:Tr AV}{H:AH}{T1:Tr AV}{H1:AH},Chain L rec all pre T H a T1 H1 ->
  T1=TD tt a T/\H1=HD L tt a H:=by
 induction a with
 |nil =>
  intro pre T H T1 H1 h;cases h;exact ⟨rfl,rfl⟩
 |cons y a ih =>
  intro pre T H T1 H1 h;cases h with
  |cons h hr =>
   obtain ⟨e1,e2⟩:=ih hr;refine ⟨e1,e2.trans ?_⟩;show _=HD L tt a _
   by_cases hh:zia L y.x.2.2=true
   ·rw [qj ⟨rfl,hh⟩]
   ·rw [qg (fun hc=>hh hc.2),h.light (by simpa using hh)]
theorem zap {all:List Oper}{T T':Tr AV}{o:Oper}(h:∀t∈zei all o,getT T t=getT T' t):zac all T o=zac all T' o:=by
 unfold zac;unfold zei at h;cases hg:o.guard with
 |none=>rfl
 |some g =>
  obtain ⟨j,want⟩:=g;rw [hg] at h;simp only at h ⊢
  cases hn:nth all j with
  |none=>rfl
  |some oj =>
   rw [hn] at h;simp only at h ⊢
   cases hd:oj.dst with
   |none=>rfl
   |some d =>
    rw [hd] at h;have:=h d (by simp)
    unfold getT at this;simp only;cases h1:T.get d with
    |none =>
     cases h2:T'.get d with
     |none=>rfl
     |some v'=>rw [h1,h2] at this;simp only [Option.getD_none,qu4] at this;rw [← this];rfl
    |some v =>
     cases h2:T'.get d with
     |none=>rw [h1,h2] at this;simp only [Option.getD_none,qu4] at this;rw [this];rfl
     |some v'=>rw [h1,h2] at this;simp only [qu4] at this;rw [this]
theorem zbp {all:List Oper}{o:Oper}{t:Nat}(h:t∈opdTs (zxg o.op)):t∈zei all o:=by
 unfold zei;split
 ·exact h
 ·split
  ·split
   ·exact qh1 _ h
   ·exact h
  ·exact h
theorem zxc1 {l:List Nat}{t:Nat}(h:t∈l):has l t=true:=by
 induction l with
 |nil=>cases h
 |cons x l ih =>
  unfold has;rw [zta];rcases qe1.1 h with rfl|h
  ·simp
  ·split
   ·rfl
   ·exact ih h
theorem zhf {all:List Oper}{x y:Oper}(h:clash all x y=false){t:Nat}:(x.dst=some t->t ∉ zei all y)/\(y.dst=some t->t ∉ zei all x)/\(x.dst=some t->y.dst≠some t):=by
 unfold clash at h;simp only [qt4] at h;obtain ⟨h1,h2,h3⟩:=h;refine ⟨fun hx hm=> ?_,fun hy hm=> ?_,fun hx hy=> ?_⟩
 ·rw [hx] at h1;have:=zxc1 hm;simp only [dstIn] at h1;rw [this] at h1;cases h1
 ·rw [hy] at h2;have:=zxc1 hm;simp only [dstIn] at h2;rw [this] at h2;cases h2
 ·rw [hx,hy] at h3;simp [zpg1] at h3
def Nd (r:Stp) (i:Nat):Prop:= ∀t k i' o,r.x.2.2.op= .load t (.tmp k)->r.T.get k=some (.ptr i' o)->i=i'
theorem zyc1 {L:Lk}{o:Oper}(h:zad L o=true):zzj o.op=true:=by
 unfold zad zhh at h;cases hp:zfl L o.op with
 |true=>rw [hp] at h;cases h
 |false =>
  rw [hp] at h;cases hr:zzj o.op with
  |true=>rfl
  |false=>rw [hr] at h;cases h
def SubN (L:Lk) (all:List Oper) (r:Stp) (H H':AH):Prop:=zac all r.T r.x.2.2=true-> ∀v,evOp L r.T r.x.2.2 H=some (.val v H)->evOp L r.T r.x.2.2 H'=some (.val v H')
def SubBl (all:List Oper) (r:Stp) (H H':AH):Prop:=zac all r.T r.x.2.2=true-> ∀i b,Nd r i->H.get i=some b->H'.get i=some b
theorem SubN.trans {L:Lk}{all:List Oper}{r:Stp}{H H1 H2:AH}(h:SubN L all r H H1) (k:SubN L all r H1 H2):SubN L all r H H2:=fun hw v hv=>k hw v (h hw v hv)
theorem SubN.same {L:Lk}{all:List Oper}{r:Stp}{H:AH}:SubN L all r H H:=fun _ _ h=>h
theorem zes {L:Lk}{all:List Oper}{r:Stp}{H:AH}{nx:Next1}(hwt:zac all r.T r.x.2.2=true) (hp:zzj r.x.2.2.op=true) (h:evOp L r.T r.x.2.2 H=some nx) :
  ∃v,nx= .val v H/\ ∀H',SubBl all r H H'->evOp L r.T r.x.2.2 H'=some (.val v H'):=by
 by_cases hx:∃t k i o,r.x.2.2.op= .load t (.tmp k)/\r.T.get k=some (.ptr i o)
 ·obtain ⟨t,k,i,o,h1,h2⟩:=hx
  have ho:∀H',evOp L r.T r.x.2.2 H'=val1 (zvb L t (.ptr i o) H') H':=fun H'=>by
   unfold evOp;rw [h1];simp only [opnd,h2];rfl
  rw [ho] at h;unfold val1 at h;split at h
  ·next v hv =>
   cases h
   refine ⟨v,rfl,fun H' hs=> ?_⟩
   rw [ho];have:zvb L t (.ptr i o) H'=some v:=by
    have hget:∀b,H.get i=some b->H'.get i=some b:=fun b hg=>hs hwt i b (fun t' k' i' o' e1 e2=>by rw [h1] at e1;cases e1;rw [h2] at e2;cases e2;rfl) hg
    unfold zvb at hv ⊢
    simp only at hv ⊢
    split at hv
    ·split at hv
     ·split at hv
      ·next l hl =>
       cases hv
       have:H'.subC i o ‹Nat› =some l:=by
        unfold AH.subC at hl ⊢
        cases hg:H.get i with
        |none=>rw [hg] at hl;cases hl
        |some b=>rw [hget b hg];rw [hg] at hl;exact hl
       rw [this]
      ·cases hv
     ·cases hv
    ·unfold AH.read1 AH.row at hv ⊢
     cases hg:H.get i with
     |none=>rw [hg] at hv;cases hv
     |some b=>rw [hget b hg];rw [hg] at hv;exact hv
    ·cases hv
   rw [this];rfl
  ·cases h
 ·obtain ⟨v,h1,h2⟩:=zcy hp h
  refine ⟨v,h1,fun H' hs=>h2 H' fun i b hg=>hs hwt i b (fun t k i' o e1 e2=>absurd ⟨t,k,i',o,e1,e2⟩ hx) hg⟩
theorem SubBl.toN {L:Lk}{all:List Oper}{r:Stp}{H H':AH}(hr:zad L r.x.2.2=true) (h:SubBl all r H H'):SubN L all r H H':=fun hw v hv=>by
 obtain ⟨v',e,h2⟩:=zes hw (zyc1 hr) hv;cases e;exact h2 H' h
theorem Sub.toN {L:Lk}{all:List Oper}{r:Stp}{H H':AH}(hr:zad L r.x.2.2=true) (h:Sub H H'):SubN L all r H H':=SubBl.toN hr fun _ i b _ hg=>h i b hg
theorem zzc1 {L:Lk}{all:List Oper}{r:Stp}{H:AH}{nx:Next1}(hwt:zac all r.T r.x.2.2=true) (hp:zzj r.x.2.2.op=true) (h:evOp L r.T r.x.2.2 H=some nx) :
  ∃v,nx= .val v H/\ ∀H',SubN L all r H H'->evOp L r.T r.x.2.2 H'=some (.val v H'):=by
 obtain ⟨v,e,_⟩:=zes (all:=all) hwt hp h;subst e;exact ⟨v,rfl,fun H' hs=>hs hwt v h⟩
theorem zvk1 {T:Tr AV}{ds:List Nat}{o:Oper}:∀pre,gdOff T ds o pre=true-> ∃g z d b,o.guard=some g/\z∈pre/\z.1=g.1/\z.2.2.dst=some d/\d ∉ ds/\T.get d=some (.bool b)/\b≠g.2:=by
 intro pre h;unfold gdOff at h;split at h
 ·cases h
 ·next g hg =>
  induction pre with
  |nil=>cases h
  |cons z pre ih =>
   rw [zta] at h;split at h
   ·next hz =>
    split at h
    ·next d hd =>
     split at h
     ·cases h
     ·next hno =>
      split at h
      ·next b hb =>
       refine ⟨g,z,d,b,hg,qt1,qi hz,hd,(fun hm=>by rw [zxc1 hm] at hno;cases hno),hb,fun he=> ?_⟩
       obtain ⟨g1,g2⟩:=g;simp only at he h;subst he;cases b<;>cases h
      ·cases h
    ·cases h
   ·obtain ⟨g',z',d,b,h1,h2,h3⟩:=ih h
    exact ⟨g',z',d,b,h1,qh1 _ h2,h3⟩
theorem zpv (L:Lk) (x:Ent) (j:Nat) (T:Tr AV) (y:Ent) (pre:List Ent) (ds:List Nat):zgl L x j T (y::pre) ds=(match zad L y.2.2 && !Nat.testBit x.2.1 y.1 && !gdOff T (match y.2.2.dst with|some d=>d::ds|none=>ds) y.2.2 pre with
  |false=>zgl L x j T pre (match y.2.2.dst with|some d=>d::ds|none=>ds)
  |true=>(match rdBlk T (match y.2.2.dst with|some d=>d::ds|none=>ds) y.2.2.op with
   |some i=>(match Nat.beq i j with|true=>false|false=>zgl L x j T pre (match y.2.2.dst with|some d=>d::ds|none=>ds))
   |none=>false)):=rfl
def RdOf (o:Op) (T:Tr AV) (k i:Nat):Prop:=(∃t off,o= .load t (.tmp k)/\T.get k=some (.ptr i off))\/ ∃t x ok,o= .lookup t (.tmp k) x ok/\T.get k=some (.map i)
theorem zwk1 {T:Tr AV}{ds:List Nat}{o:Op}{i:Nat}(h:rdBlk T ds o=some i):∃k,k ∉ ds/\RdOf o T k i:=by
 unfold rdBlk at h;split at h
 ·split at h
  ·split at h
   ·cases h
   ·next hno =>
    split at h
    ·next hg=>cases h;exact ⟨_,has_no hno,.inl ⟨_,_,rfl,hg⟩⟩
    ·cases h
  ·cases h
 ·split at h
  ·split at h
   ·cases h
   ·next hno =>
    split at h
    ·next hg=>cases h;exact ⟨_,has_no hno,.inr ⟨_,_,_,rfl,hg⟩⟩
    ·cases h
  ·cases h
 ·cases h
theorem zad1 {L:Lk}{x:Ent}{j:Nat}{T:Tr AV}(pre:List Ent):∀ds,zgl L x j T pre ds=true-> ∀p1 y p2,pre=p1 ++ y::p2->zad L y.2.2=true->Nat.testBit x.2.1 y.1=false ->
  (∃g z d b,y.2.2.guard=some g/\z∈p2/\z.1=g.1/\z.2.2.dst=some d/\T.get d=some (.bool b)/\b≠g.2/\(∀q∈p1 ++ [y],q.2.2.dst≠some d)/\d ∉ ds) \/
  ∃k i,RdOf y.2.2.op T k i/\i≠j/\(∀q∈p1 ++ [y],q.2.2.dst≠some k)/\k ∉ ds:=by
 induction pre with
 |nil=>intro ds _ p1 y p2 h;simp at h
 |cons z pre ih =>
  intro ds h p1 y p2 he hr hb;rw [zpv] at h;have off:∀{d:Nat},d ∉ (match z.2.2.dst with|some d=>d::ds|none=>ds)->z.2.2.dst≠some d/\d ∉ ds:=fun {d} hd=>by
   refine ⟨fun e=> ?_,fun hm=> ?_⟩
   ·rw [e] at hd;exact hd qt1
   ·cases hz:z.2.2.dst with
    |none=>rw [hz] at hd;exact hd hm
    |some e=>rw [hz] at hd;exact hd (qh1 _ hm)
  cases p1 with
  |nil =>
   simp only [qk1,qz2] at he;obtain ⟨rfl,rfl⟩:=he;rw [hr,hb] at h;simp only [qo5,qo2] at h;split at h
   ·next hgd =>
    left
    obtain ⟨g,q,d,b,h1,h2,h3,h4,h5,h6,h7⟩:=zvk1 _ (by simpa using hgd)
    obtain ⟨e1,e2⟩:=off h5;exact ⟨g,q,d,b,h1,h2,h3,h4,h6,h7,(fun q hq=>by simp only [qk1,qn1] at hq;subst hq;exact e1),e2⟩
   ·right
    split at h
    ·next i hi =>
     split at h
     ·cases h
     ·next hij =>
      obtain ⟨k,hk,hrd⟩:=zwk1 hi;obtain ⟨e1,e2⟩:=off hk;exact ⟨k,i,hrd,qw4 hij,(fun q hq=>by simp only [qk1,qn1] at hq;subst hq;exact e1),e2⟩
    ·cases h
  |cons q p1 =>
   simp only [qk2,qz2] at he;obtain ⟨rfl,rfl⟩:=he;have go:zgl L x j T (p1 ++ y::p2) (match z.2.2.dst with|some d=>d::ds|none=>ds)=true->_:=fun hf=>ih _ hf p1 y p2 rfl hr hb
   have hf:zgl L x j T (p1 ++ y::p2) (match z.2.2.dst with|some d=>d::ds|none=>ds)=true:=by
    split at h
    ·exact h
    ·split at h
     ·split at h
      ·cases h
      ·exact h
     ·cases h
   rcases go hf with ⟨g,r,d,b,h1,h2,h3,h4,h5,h6,h7,h8⟩|⟨k,i,h1,h3,h4,h5⟩
   ·obtain ⟨e1,e2⟩:=off h8
    exact .inl ⟨g,r,d,b,h1,h2,h3,h4,h5,h6,(fun q hq=>by
     rcases qe1.1 hq with rfl|hq
     ·exact e1
     ·exact h7 q hq),e2⟩
   ·obtain ⟨e1,e2⟩:=off h5
    exact .inr ⟨k,i,h1,h3,(fun q hq=>by
     rcases qe1.1 hq with rfl|hq
     ·exact e1
     ·exact h4 q hq),e2⟩
theorem far_ok {L:Lk}{T:Tr AV}{x:Ent}{pre:List Ent}(h:far L T x pre=true):∃t k v j o,x.2.2.op= .store t (.tmp k) v/\T.get k=some (.ptr j o)/\ ∀p1 y p2,pre=p1 ++ y::p2->zad L y.2.2=true->Nat.testBit x.2.1 y.1=false ->
  (∃g z d b,y.2.2.guard=some g/\z∈p2/\z.1=g.1/\z.2.2.dst=some d/\T.get d=some (.bool b)/\b≠g.2/\(∀q∈p1 ++ [y],q.2.2.dst≠some d)) \/
  ∃k i,RdOf y.2.2.op T k i/\i≠j/\ ∀z∈p1 ++ [y],z.2.2.dst≠some k:=by
 unfold far at h;split at h
 ·next t k v hop =>
  split at h
  ·next j o hg =>
   refine ⟨t,k,v,j,o,hop,hg,fun p1 y p2 he hr hb=> ?_⟩
   rcases zad1 pre [] h p1 y p2 he hr hb with ⟨g,r,d,b,h1,h2,h3,h4,h5,h6,h7,_⟩|⟨k,i,h1,h3,h4,_⟩
   ·exact .inl ⟨g,r,d,b,h1,h2,h3,h4,h5,h6,h7⟩
   ·exact .inr ⟨k,i,h1,h3,h4⟩
  ·cases h
 ·cases h
theorem zqv {L:Lk}{rec:Rec}{T:Tr AV}{o:Oper}{H:AH}{r:AV×AH}{t:TypeId}{k j off:Nat}{v:Operand}(hop:o.op= .store t (.tmp k) v) (hg:T.get k=some (.ptr j off)) (h:zva L rec T o H=some r)
  {i:Nat}(hi:i≠j):r.2.get i=H.get i:=by
 unfold zva evOp at h;rw [hop] at h;simp only [opnd,hg] at h;cases hv:opnd T v with
 |none=>simp only [opnd] at hv;simp only [hv] at h;cases h
 |some u =>
  have hv':=hv;simp only [opnd] at hv';simp only [hv'] at h;unfold unit1 zyc at h;simp only at h;split at h
  ·cases h
  ·next nx hnx =>
   split at hnx
   ·next H' hs =>
    cases hnx
    simp only [qz1] at h;subst h;split at hs
    ·split at hs
     ·unfold AH.writeC at hs
      split at hs
      ·cases hs
      ·split at hs
       ·split at hs
        ·cases hs
        ·split at hs
         ·cases hs
         ·split at hs
          ·cases hs
           show (H.put j _).get i=_
           unfold AH.get AH.put;show (match H.vis i with|true=>(H.tree.set j _).get i|false=>none)=_
           rw [Tr.get_set_ne _ _ hi];rfl
          ·cases hs
       ·cases hs
     ·cases hs
    ·cases hs
   ·cases hnx
theorem relo {E E1:Env}{H H2:AH}{w w1:World}(hw:H.Wf) (hp:Post E {H with lo:=H.next} w E1 H2 w1) (h2:H2.Wf) :
  Post E H w E1 {H2 with lo:=H.lo} w1/\({H2 with lo:=H.lo}:AH).Wf/\Sub H {H2 with lo:=H.lo}:=by
 have hk:∀i,i<H.next->H2.tree.get i=H.tree.get i:=fun i hi=>hp.keep i (.inl hi)
 have hv:∀i,H2.vis i=H.vis i:=vis_of hp.hide
 have hsub:∀i b,H.get i=some b->H2.get i=some b:=fun i b hg=>by
  have hlt:=hw.get_lt hg;rw [AH.get_some] at hg ⊢
  rw [hv,hk i hlt];exact hg
 refine ⟨⟨hp.ext,hp.next,rfl,hp.hide,hp.tape,hp.os,hp.output,hp.size,fun c hc hn=> ?_,fun c ho=> ?_,fun i hi=> ?_,hp.loops,hp.froz,hp.lives,hp.dr⟩,⟨h2.tree,?_,h2.hide⟩,hsub⟩
 ·refine hp.frame c hc fun ho=>hn ?_
  obtain ⟨i,b,hg,hb,hlo,he⟩:=ho;exact ⟨i,b,hg,hb,qx2 hw.lo hlo,he⟩
 ·obtain ⟨i,b,hg,hb,hlo,he⟩:=ho
  have hg:H2.get i=some b:=hg;by_cases hi:i<H.next
  ·left
   refine ⟨i,b,?_,hb,hlo,?_⟩
   ·rw [AH.get_some] at hg ⊢
    rw [hv,hk i hi] at hg;exact hg
   ·rw [← he,hp.ext i hi]
  ·rcases hp.own c ⟨i,b,hg,hb,by rw [hp.lo];exact Nat.le_of_not_lt hi,he⟩ with ho|ho
   ·obtain ⟨i',b',hg',hb',hlo',he'⟩:=ho
    exact .inl ⟨i',b',hg',hb',qx2 hw.lo hlo',he'⟩
   ·exact .inr ho
 ·refine hp.keep i ?_
  rcases hi with hi|hi
  ·exact .inl (qa1 hi hw.lo)
  ·exact .inr hi
 ·exact qx2 hw.lo hp.next
theorem St.relo {B:Nat}{E:Env}{H:AH}{w:World}(h:St B E H w) (n:Nat):St B E {H with lo:=n} w:=fun E' hE =>
 ⟨(h E' hE).blk,(h E' hE).inj,(h E' hE).base,(h E' hE).size⟩
theorem zfs {a b:ByteArray}(h:strEq a b=true):a=b:=by
 have:a.data.toList=b.data.toList:=by unfold strEq at h;rw [zgq] at h;exact qe h
 cases a;cases b;simp only [ByteArray.mk.injEq];exact Array.toList_inj.1 this
mutual
theorem eqV_ok:∀(v w:AV),eqV v w=true->v=w
 | .bool a,w,h=>by
  unfold eqV at h;split at h
  ·split at h<;>first|rfl|cases h
  ·cases h
 | .int k n,w,h=>by
  unfold eqV at h;split at h
  ·simp only [qm,qs] at h;obtain ⟨rfl,rfl⟩:=h;rfl
  ·cases h
 | .str s,w,h=>by
  unfold eqV at h;split at h
  ·rw [zfs h]
  ·cases h
 | .nilPtr,w,h=>by unfold eqV at h;split at h<;>first|rfl|cases h
 | .ptr j o,w,h=>by
  unfold eqV at h;split at h
  ·rw [qm] at h;rw [qi h.1,qi h.2]
  ·cases h
 | .nilSl,w,h=>by unfold eqV at h;split at h<;>first|rfl|cases h
 | .sl j o l n op,w,h=>by
  unfold eqV at h;split at h
  ·simp only [qm,qs] at h
   obtain ⟨⟨⟨⟨h1,h2⟩,h3⟩,h4⟩,rfl⟩:=h;rw [qi h1,qi h2,qi h3,qi h4]
  ·cases h
 | .nilMap,w,h=>by unfold eqV at h;split at h<;>first|rfl|cases h
 | .map j,w,h=>by
  unfold eqV at h;split at h
  ·rw [qi h]
  ·cases h
 | .fn f a b,w,h=>by
  unfold eqV at h;split at h
  ·simp only [qm,qs] at h
   obtain ⟨⟨rfl,h2⟩,h3⟩:=h;rw [zrv _ _ h2,zrv _ _ h3]
  ·cases h
 | .yld j,w,h=>by
  unfold eqV at h;split at h
  ·rw [qi h]
  ·cases h
 | .nilFn,w,h=>by unfold eqV at h;split at h<;>first|rfl|cases h
 | .ifc t v,w,h=>by
  unfold eqV at h;split at h
  ·rw [qm] at h;rw [qi h.1,eqV_ok _ _ h.2]
  ·cases h
 | .nilIfc,w,h=>by unfold eqV at h;split at h<;>first|rfl|cases h
 | .agg cs,w,h=>by
  unfold eqV at h;split at h
  ·rw [zrv _ _ h]
  ·cases h
 | .tup cs,w,h=>by
  unfold eqV at h;split at h
  ·rw [zrv _ _ h]
  ·cases h
 | .bag n N,w,h=>by
  unfold eqV at h;split at h
  ·rw [qm] at h;rw [qi h.1,qi h.2]
  ·cases h
 | .ext k i o,w,h=>by
  unfold eqV at h;split at h
  ·simp only [qm] at h
   rw [qi h.1.1,qi h.1.2,qi h.2]
  ·cases h
theorem zrv:∀(l m:List AV),eqL l m=true->l=m
 | [],m,h=>by unfold eqL at h;split at h<;>first|rfl|cases h
 |a::l,m,h=>by
  unfold eqL at h;split at h
  ·cases h
  ·rw [qm] at h;rw [eqV_ok _ _ h.1,zrv _ _ h.2]
end
theorem eqC_ok {a b:Ce}(h:eqC a b=true):a=b:=by
 unfold eqC at h;split at h
 ·rw [qm] at h;rw [qi h.1,qi h.2]
 ·rw [zrv _ _ h]
 ·cases h
theorem zxk1 {a b:Option ABlk}(h:sameO a b=true):b=a:=by
 unfold sameO at h;split at h
 ·unfold eqB at h
  split at h
  ·simp only [qm,qs] at h
   obtain ⟨⟨⟨⟨h1,h2⟩,h3⟩,rfl⟩,rfl⟩:=h;rw [eqC_ok h1,qi h2,qi h3]
  ·cases h
 ·cases h
theorem zbd1 {H H2:AH}{js:List Nat}(h:zwg H H2 js=true):∀i∈js,H2.get i=H.get i:=fun i hi=>zxk1 (qb1.1 h i hi)
theorem zcp (x:Ent) (L:Lk) (T:Tr AV) (y:Ent) (pre:List Ent) (ds:List Nat):zce x L T (y::pre) ds=(match zad L y.2.2 && !Nat.testBit x.2.1 y.1 with
  |false=>zce x L T pre (match y.2.2.dst with|some d=>d::ds|none=>ds)
  |true=>(match y.2.2.op with
   | .load _ (.tmp k)=>(match has (match y.2.2.dst with|some d=>d::ds|none=>ds) k with
    |true=>none
    |false=>(match T.get k with
     |some (.ptr i _)=>(match zce x L T pre (match y.2.2.dst with|some d=>d::ds|none=>ds) with|some js=>some (i::js)|none=>none)
     |_=>none))
   |_=>none)):=rfl
theorem zsv {x:Ent}{L:Lk}{T:Tr AV}(pre:List Ent):∀ds js,zce x L T pre ds=some js-> ∀p1 y p2,pre=p1 ++ y::p2->zad L y.2.2=true->Nat.testBit x.2.1 y.1=false ->
  ∃t k i o,y.2.2.op= .load t (.tmp k)/\T.get k=some (.ptr i o)/\i∈js/\k ∉ ds/\ ∀z∈p1 ++ [y],z.2.2.dst≠some k:=by
 induction pre with
 |nil=>intro ds js _ p1 y p2 h;simp at h
 |cons z pre ih =>
  intro ds js h p1 y p2 he hr hb;rw [zcp] at h;have nin:∀{k:Nat},k ∉ (match z.2.2.dst with|some d=>d::ds|none=>ds)->k ∉ ds/\z.2.2.dst≠some k:=by
   intro k hk;cases hd:z.2.2.dst with
   |none=>rw [hd] at hk;exact ⟨hk,fun h=>by cases h⟩
   |some d =>
    rw [hd] at hk;simp only [qe1,not_or] at hk;exact ⟨hk.2,fun h=>hk.1 (by cases h;rfl)⟩
  cases p1 with
  |nil =>
   simp only [qk1,qz2] at he;obtain ⟨rfl,rfl⟩:=he;rw [hr,hb] at h;simp only [qo5,qp2] at h;split at h
   ·next t k hop =>
    split at h
    ·cases h
    ·next hno =>
     split at h
     ·next i o hg =>
      split at h
      ·next js' hjs =>
       cases h
       have hk:k ∉ (match z.2.2.dst with|some d=>d::ds|none=>ds):=fun hm=>by rw [zxc1 hm] at hno;cases hno
       obtain ⟨k1,k2⟩:=nin hk;refine ⟨t,k,i,o,hop,hg,qt1,k1,fun q hq=> ?_⟩
       simp only [qk1,qn1] at hq;subst hq;exact k2
      ·cases h
     ·cases h
   ·cases h
  |cons q p1 =>
   simp only [qk2,qz2] at he;obtain ⟨rfl,rfl⟩:=he;have go:∀js',zce x L T (p1 ++ y::p2) (match z.2.2.dst with|some d=>d::ds|none=>ds)=some js'->(∀i,i∈js'->i∈js)-> ∃t k i o,y.2.2.op= .load t (.tmp k)/\T.get k=some (.ptr i o)/\i∈js/\k ∉ ds/\ ∀z'∈(z::p1) ++ [y],z'.2.2.dst≠some k:=by
    intro js' hj hsub;obtain ⟨t,k,i,o,h1,h2,h3,h4,h5⟩:=ih _ _ hj p1 y p2 rfl hr hb;obtain ⟨k1,k2⟩:=nin h4;refine ⟨t,k,i,o,h1,h2,hsub i h3,k1,fun q hq=> ?_⟩
    rcases qe1.1 hq with rfl|hq
    ·exact k2
    ·exact h5 q hq
   split at h
   ·exact go _ h fun _ h=>h
   ·split at h
    ·split at h
     ·cases h
     ·split at h
      ·split at h
       ·next js' hjs=>cases h;exact go _ hjs fun i hi=>qh1 _ hi
       ·cases h
      ·cases h
    ·cases h
def zok (L:Lk) (o:Oper):Bool:=zpd L o && (match o.op with| .convert _ _ _=>true|_=>false)
theorem ztv {L:Lk}{all:List Oper}{T:Tr AV}{o:Oper}(h:zok L o=true):zac all T o=true:=by
 unfold zok zpd at h;rw [qm] at h;obtain ⟨h1,h2⟩:=h;split at h1
 ·cases h1
 ·next hg=>unfold zac;rw [hg]
theorem zrh {L:Lk}{o:Oper}(h:zpd L o=true):∃e,o.op= .alloc e:=by
 unfold zpd at h;split at h
 ·cases h
 ·split at h
  ·next e he=>exact ⟨e,he⟩
  ·cases h
theorem zoi {L:Lk}{o:Oper}(h:zpd L o=true):zia L o=true:=by
 unfold zia zhh;obtain ⟨e,he⟩:=zrh h;rw [he];rfl
structure FlS (s:Stp) (b:ABlk) (z:Bool) (FV:Nat->AV):Prop where
 v:s.v=FV s.H.next
 heap:s.H'= {s.H.new b with fz:=s.H.fz || z}
 own:b.own=true
section
variable {L:Lk}{P:Program}{B:Nat}{rec:Rec}{F:Fence}
theorem zyk1 {all:List Oper}{s:Stp}(hst:StepOk L rec all s) (hf:zpd L s.x.2.2=true) (hwd:zac all s.T s.x.2.2=true) :
  ∃H2,(evOp L s.T s.x.2.2 s.H=some (.val s.v H2)/\s.H'=H2)\/(evOp L s.T s.x.2.2 {s.H with lo:=s.H.next}=some (.val s.v H2)/\s.H'= {H2 with lo:=s.H.lo}):=by
 have hval:∀{H:AH}{r:AV×AH},zva L rec s.T s.x.2.2 H=some r->evOp L s.T s.x.2.2 H=some (.val r.1 r.2):=by
  intro H r h;unfold zva at h;split at h
  ·cases h
  ·next nx hnx =>
   have hv:∃v H',nx= .val v H':=by
    unfold evOp at hnx;obtain ⟨e,he⟩:=zrh hf;rw [he] at hnx;simp only at hnx;split at hnx
    ·cases hnx;exact ⟨_,_,rfl⟩
    ·cases hnx
   obtain ⟨v,H',rfl⟩:=hv;cases h;exact hnx
 rcases hst with ⟨h,_,_⟩|⟨_,⟨h,_⟩|⟨_,_,h⟩|⟨_,_,h⟩|⟨_,_,h⟩⟩
 ·rw [hwd] at h;cases h
 ·rw [zoi hf] at h;cases h
 ·exact ⟨_,.inl ⟨hval h,rfl⟩⟩
 ·exact ⟨_,.inl ⟨hval h,rfl⟩⟩
 ·unfold zid at h
  have hc:zsf s.x.2.2=false:=by
   unfold zsf;obtain ⟨e,he⟩:=zrh hf;rw [he]
  rw [hc] at h;simp only at h;split at h
  ·next r hr =>
   simp only [qz1,qs7] at h;refine ⟨r.2,.inr ⟨?_,h.2.symm⟩⟩;rw [hval hr,h.1]
  ·cases h
def Grew (w w':World) (o:Obj):Prop:=w'=wNew w o\/w'=wNew w.drew o
theorem Grew.heap {w w':World}{o:Obj}(h:Grew w w' o):w'.heap=w.heap.push o:=by rcases h with rfl|rfl<;>rfl
theorem Grew.lt {w w':World}{o:Obj}(h:Grew w w' o){c:Nat}(hc:c<w.heap.size):w'.heap[c]? =w.heap[c]? :=by rw [h.heap,Array.getElem?_push_lt hc,qs1 hc]
theorem Grew.self {w w':World}{o:Obj}(h:Grew w w' o):w'.heap[w.heap.size]? =some o:=by rw [h.heap];simp
theorem Grew.size {w w':World}{o:Obj}(h:Grew w w' o):w'.heap.size=w.heap.size+1:=by rw [h.heap];simp
def mz (z:Bool) (H:AH):AH:= {H with fz:=H.fz || z}
theorem Grew.st {w w':World}{o:Obj}(h:Grew w w' o){E:Env}{H:AH}(hS:St B E H w):St B E H w':=by
 intro E' hE;have k:=hS E' hE;exact ⟨fun i b hg=>(k.blk i b hg).congr fun hl=>h.lt ((k.blk i b hg).obj hl),k.inj,k.base,by rw [h.size];exact qf5 k.size⟩
theorem Grew.post {w w':World}{o:Obj}(h:Grew w w' o){E:Env}{H:AH}{z:Bool}(hz:z=false-> ∀off,objFz o off=false):Post E (mz z H) w E (mz z H) w':=by
 refine ⟨Agree.refl _ _,qn _,rfl,rfl,?_,?_,?_,by rw [h.size];omega,fun c hc _=>h.lt hc,fun _ h=>.inl h,fun _ _=>rfl,fun c r hc=>⟨r,(h.lt (qn2.1 hc).1).trans hc⟩,fun hf=>⟨hf,?_⟩,fun _ h=>.inl h,by rcases h with rfl|rfl<;>first|exact qn _|exact qv3 _⟩
 ·rcases h with rfl|rfl<;>rfl
 ·rcases h with rfl|rfl<;>rfl
 ·rcases h with rfl|rfl<;>rfl
 ·have hzf:z=false:=by
   have hf:(H.fz || z)=false:=hf;rw [qt4] at hf;exact hf.2
  intro a;rw [zke,zke];by_cases hc:a.block<w.heap.size
  ·rw [h.lt hc]
  ·by_cases he:a.block=w.heap.size
   ·rw [he,h.self,qy2 (qn _)]
    exact hz hzf _
   ·rw [qy2 (by rw [h.size];omega),qy2 oM]
theorem zfy (hL:LOk0 L P){all:List Oper}{s:Stp}(hst:StepOk L rec all s) (hf:zpd L s.x.2.2=true) (hwd:zac all s.T s.x.2.2=true) :
  ∃b z FV,FlS s b z FV/\zok L s.x.2.2=z /\
   ∀(E:Env) (n:Nat) (T':Tr AV) (a:Act) (w:World),StT E n T' a.tmps->(∀t∈opdTs (zxg s.x.2.2.op),getT T' t=getT s.T t) ->
    ∃u w' ex raw o,(s.x.2.2.semAt F.round a.eval).run P w= .ok (.value u) w'/\Grew w w' o/\(z=false-> ∀off,objFz o off=false)/\(∀E':Env,u=conc E' raw) /\
     (∀(E':Env) (i:Nat),E' i=⟨w.heap.size,0,ex⟩->(∀w2:World,w2.heap[w.heap.size]? =some o->BRel E' i b w2)/\conc E' (FV i)=conc E' raw):=by
 obtain ⟨H2,hev⟩:=zyk1 hst hf hwd;obtain ⟨e,he⟩:=zrh hf
 ·have hop:∀c,s.x.2.2.op≠ .defer c:=fun c hc=>by rw [he] at hc;cases hc
  have key:∀H:AH,evOp L s.T s.x.2.2 H=(match L.zero e,L.size e with|some z,some sz=>some (.val (.ptr H.next 0) (H.new (.cells z.toC e sz false false)))|_,_=>none):=fun H=>by unfold evOp;simp only [he];rfl
  cases hz:L.zero e with
  |none =>
   exfalso
   rcases hev with ⟨h,_⟩|⟨h,_⟩<;>(rw [key,hz] at h;cases h)
  |some z =>
   cases hs:L.size e with
   |none =>
    exfalso
    rcases hev with ⟨h,_⟩|⟨h,_⟩<;>(rw [key,hz,hs] at h;cases h)
   |some sz =>
    refine ⟨.cells z.toC e sz false false,false,fun i=>.ptr i 0,?_,by unfold zok;rw [he];simp,fun E n T' a w hT hlk=> ?_⟩
    ·rcases hev with ⟨h,hH⟩|⟨h,hH⟩
     ·rw [key,hz,hs] at h
      simp only [qz1,Next1.val.injEq] at h;exact ⟨h.1.symm,by rw [hH,← h.2,Bool.or_false];rfl,rfl⟩
     ·rw [key,hz,hs] at h
      simp only [qz1,Next1.val.injEq] at h;exact ⟨h.1.symm,by rw [hH,← h.2,Bool.or_false];rfl,rfl⟩
    ·have hc:∀E':Env,conc E' z=conc E z:=fun E'=>zero_E hL hz E' E
     have hcl:∀E':Env,concL E' z.cells=concL E z.cells:=fun E'=>zzr (hc E')
     refine ⟨.pointer (some ⟨w.heap.size,0,none⟩),wNew w (.cells (concL E z.cells).toArray e),0,.ext 2 w.heap.size 0,_,?_,.inl rfl,fun _ off=>by simp [objFz],fun _=>rfl,fun E' i hi=>⟨fun w2 hw2=> ?_,by show Value.pointer (some ⟨(E' i).blk,(E' i).off+0,none⟩)=_;rw [hi];rfl⟩⟩
     ·rw [Oper.semAt_eq F.round a.eval _ hop]
      unfold execOp;rw [he];simp only;have hrun:(Instr.alloc e true (.tuple #[])).run P w= .ok (.pointer (some ⟨w.heap.size,0,none⟩)) (wNew w (.cells (concL E z.cells).toArray e)):=by
       unfold Instr.alloc;simp only [qk,zbd (E:=E) hL hz,qd,newVar,zab,zde,qt]
      simp only [qk,hrun,qd,qt]
     ·refine ⟨(concL E z.cells).toArray,e,(0,0),by rw [hi];exact hw2,fun j v hv=> ?_,fun _=>⟨⟨qn _,fun j hj=>by simp⟩,?_,(fun h=>by cases h),fun _ h=>absurd h.2 (qb4 _),rfl⟩⟩
      ·rw [toC_l] at hv
       rw [hi];show (concL E z.cells).toArray[0+j]? =_
       rw [qu1,qo1,← hcl E',zma?,hv];rfl
      ·rw [hi,toC_l];simp [zpa]
end
structure Steps (L:Lk) (rec:Rec) (all:List Oper) (T:Tr AV) (H:AH) (ss:List Stp) (T1:Tr AV) (H1:AH):Prop where
 chain:Chain L rec all [] T H ss T1 H1
 one:∀s∈ss,Known1 L rec all s
 two:ss.Pairwise (Known2 L all)
 deps:∀a s b,ss=a ++ s::b-> ∀e∈s.x.2.2.after.toList,Region.binds .any e=true-> ∃y∈a,y.x.1=e.on
 all:∀i,i<all.length-> ∃s∈ss,s.x.1=i
theorem zpk {L:Lk}{o:Oper}(h:zia L o=true) (h':zbh L o=true):False:=by
 unfold zia at h;unfold zbh at h';cases hk:zhh L o.op<;>rw [hk] at h h'<;>first|(cases h;done)|(cases h';done)
theorem zqk {L:Lk}{o:Oper}(h:zia L o=true) (h':zad L o=true):False:=by
 unfold zia at h;unfold zad at h';cases hk:zhh L o.op<;>rw [hk] at h h'<;>first|(cases h;done)|(cases h';done)
theorem zuv {L:Lk}{o:Oper}(h:zad L o=true) (h':zbh L o=true):False:=by
 unfold zad at h;unfold zbh at h';cases hk:zhh L o.op<;>rw [hk] at h h'<;>first|(cases h;done)|(cases h';done)
theorem zgy {L:Lk}{o:Oper}(h:zia L o=false):zfl L o.op=true\/(zzj o.op=true/\zad L o=true):=by
 unfold zia zhh at h;unfold zad zhh;cases hp:zfl L o.op with
 |true=>exact .inl rfl
 |false =>
  rw [hp] at h;cases hr:zzj o.op with
  |true=>exact .inr ⟨rfl,rfl⟩
  |false=>rw [hr] at h;cases h
section
variable {L:Lk}{rec:Rec}{all:List Oper}{T T1:Tr AV}{H H1:AH}{ss:List Stp}{D:Nat->Bool}
def ins (D:Nat->Bool) (k:Nat):Nat->Bool:=fun i=>if i=k then true else D i
def Pref (L:Lk) (ss:List Stp) (D:Nat->Bool):Prop:= ∀a t b,ss=a ++ t::b->zia L t.x.2.2=true->D t.x.1=true-> ∀y∈a,zia L y.x.2.2=true->D y.x.1=true
structure At (L:Lk) (rec:Rec) (all:List Oper) (T:Tr AV) (H:AH) (ss:List Stp) (T1:Tr AV) (H1:AH) (D:Nat->Bool) (a:List Stp) (s:Stp) (b:List Stp):Prop where
 S:Steps L rec all T H ss T1 H1
 eq:ss=a ++ s::b
 cl:zyo all D
 new:D s.x.1=false
 dep:Deps s.x.2.2 D
 hl:zbh L s.x.2.2=false-> ∀y∈a,zia L y.x.2.2=true->D y.x.1=true
 pref:Pref L ss D
variable {a b:List Stp}{s:Stp}
theorem At.k1 (h:At L rec all T H ss T1 H1 D a s b):Known1 L rec all s:=h.S.one s (by rw [h.eq];simp)
theorem At.left (h:At L rec all T H ss T1 H1 D a s b):∀y∈a,Known2 L all y s:=by
 have:=h.S.two;rw [h.eq,qw5] at this;exact fun y hy=>this.2.2 y hy s (by simp)
theorem At.right (h:At L rec all T H ss T1 H1 D a s b):∀y∈b,Known2 L all s y:=by
 have:=h.S.two;rw [h.eq,qw5,qx6] at this;exact fun y hy=>this.2.1.1 y hy
theorem At.anc (h:At L rec all T H ss T1 H1 D a s b){j:Nat}(hb:Nat.testBit s.x.2.1 j=true):D j=true:=h.k1.anc D h.cl h.dep j hb
theorem At.bitL (h:At L rec all T H ss T1 H1 D a s b){y:Stp}(hd:D y.x.1=false):Nat.testBit s.x.2.1 y.x.1=false:=by
 cases hb:Nat.testBit s.x.2.1 y.x.1 with
 |false=>rfl
 |true=>rw [h.anc hb] at hd;cases hd
theorem At.bitR (h:At L rec all T H ss T1 H1 D a s b){y:Stp}(hy:y∈b) (hd:D y.x.1=true):Nat.testBit y.x.2.1 s.x.1=false:=by
 have hk:Known1 L rec all y:=h.S.one y (by rw [h.eq];simp [hy])
 cases hb:Nat.testBit y.x.2.1 s.x.1 with
 |false=>rfl
 |true =>
  have:=hk.anc D h.cl (fun e he hbd=>h.cl y.x.1 y.x.2.2 hk.op hd e he hbd) s.x.1 hb
  rw [h.new] at this;cases this
theorem At.other (h:At L rec all T H ss T1 H1 D a s b){y:Stp}(hy:y∈ss) (hi:y.x.1=s.x.1):y=s:=by
 rw [h.eq,qs2,qe1] at hy;rcases hy with hy|rfl|hy
 ·exact absurd hi (h.left y hy).pair.ne
 ·rfl
 ·exact absurd hi.symm (h.right y hy).pair.ne
theorem At.insL (h:At L rec all T H ss T1 H1 D a s b){y:Stp}(hy:y∈a):ins D s.x.1 y.x.1=D y.x.1:=qg (h.left y hy).pair.ne
theorem At.insR (h:At L rec all T H ss T1 H1 D a s b){y:Stp}(hy:y∈b):ins D s.x.1 y.x.1=D y.x.1:=qg (fun e=>(h.right y hy).pair.ne e.symm)
theorem zfg (D:Nat->Bool) (k:Nat):ins D k k=true:=qj rfl
theorem At.looks (h:At L rec all T H ss T1 H1 D a s b){t:Nat}(ht:t∈zei all s.x.2.2):getT (TD D ss T) t=getT s.T t:=by
 have hc:=h.S.chain;rw [h.eq] at hc;rw [h.eq,zqh,(hc.at a).1];rw [zzo]
 ·refine zdy a T T (fun y hy hd=> ?_) rfl
  have hyd:D y.x.1=false:=by
   cases hh:D y.x.1 with
   |false=>rfl
   |true=>rw [hh] at hd;exact absurd rfl hd
  exact fun hdst=>(zhf ((h.left y hy).pair.apart (h.bitL hyd))).1 hdst ht
 ·intro y hy hd hdst
  rcases qe1.1 hy with rfl|hy
  ·rw [h.new] at hd;cases hd
  ·exact (zhf ((h.right y hy).pair.apart (h.bitR hy hd))).2.1 hdst ht
theorem At.heavyR (h:At L rec all T H ss T1 H1 D a s b) (hh:zia L s.x.2.2=true):∀y∈b,zia L y.x.2.2=true->D y.x.1=false:=by
 intro y hy hyh;cases hd:D y.x.1 with
 |false=>rfl
 |true =>
  obtain ⟨b1,b2,rfl⟩:=qr4 hy;have:=h.pref (a ++ s::b1) y b2 (by rw [h.eq];simp) hyh hd s (by simp) hh
  rw [h.new] at this;cases this
theorem At.heavyL (h:At L rec all T H ss T1 H1 D a s b) (hh:zbh L s.x.2.2=false):∀y∈a,zia L y.x.2.2=true->D y.x.1=true:=h.hl hh
theorem At.heapNow (h:At L rec all T H ss T1 H1 D a s b) (hh:zia L s.x.2.2=true):HD L D ss H=s.H:=by
 have hc:=h.S.chain;rw [h.eq] at hc;rw [h.eq,zgn,(hc.at a).2];have hf:zbh L s.x.2.2=false:=by
  cases hx:zbh L s.x.2.2 with
  |false=>rfl
  |true=>exact (zpk hh hx).elim
 rw [zcs (D':=tt) a H fun y hy hyh=>h.heavyL hf y hy hyh]
 refine zds _ _ fun y hy hyh=> ?_
 rcases qe1.1 hy with rfl|hy
 ·exact h.new
 ·exact h.heavyR hh y hy hyh
theorem At.heapThen (h:At L rec all T H ss T1 H1 D a s b) (hh:zia L s.x.2.2=true):HD L (ins D s.x.1) ss H=s.H':=by
 rw [h.eq,zgn];show HD L _ b (if ins D s.x.1 s.x.1=true/\zia L s.x.2.2=true then s.H' else _)=_
 rw [qj ⟨zfg _ _,hh⟩];exact zds _ _ fun y hy hyh=>by rw [h.insR hy];exact h.heavyR hh y hy hyh
theorem At.heapLight (h:At L rec all T H ss T1 H1 D a s b) (hh:zia L s.x.2.2=false):HD L (ins D s.x.1) ss H=HD L D ss H:=by
 refine zcs ss H fun y hy hyh=>qg fun hi=> ?_
 rw [h.other hy hi,hh] at hyh;cases hyh
theorem At.temps (h:At L rec all T H ss T1 H1 D a s b) (t:Nat):getT (TD (ins D s.x.1) ss T) t=getT (putT (TD D ss T) s.x.2.2.dst s.v) t:=by
 rw [zxc];split
 ·next hd =>
  rw [h.eq,zqh];show getT (TD _ b (if ins D s.x.1 s.x.1=true then _ else _)) t=_
  rw [qj (zfg _ _),zzo]
  ·rw [zxc,qj hd]
  ·intro y hy hyd
   rw [h.insR hy] at hyd;exact (zhf ((h.right y hy).pair.apart (h.bitR hy hyd))).2.2 hd
 ·next hd =>
  refine zdy ss T T (fun y hy hne=> ?_) rfl
  by_cases hi:y.x.1=s.x.1
  ·rw [h.other hy hi];exact hd
  ·exact absurd (qg hi) hne
theorem At.closed (h:At L rec all T H ss T1 H1 D a s b):zyo all (ins D s.x.1):=by
 intro i o hi hd e he hb;show (if e.on=s.x.1 then true else D e.on)=true
 split
 ·rfl
 ·by_cases hk:i=s.x.1
  ·subst hk
   rw [h.k1.op] at hi;cases hi;exact h.dep e he hb
  ·have:D i=true:=by
    have hd:(if i=s.x.1 then true else D i)=true:=hd
    rwa [qg hk] at hd
   exact h.cl i o hi this e he hb
def Mono (L:Lk) (all:List Oper) (H:AH) (ss:List Stp) (D:Nat->Bool):Prop:= ∀a s b,ss=a ++ s::b->zad L s.x.2.2=true->D s.x.1=false->(∀y∈a,zia L y.x.2.2=true->D y.x.1=true)->SubN L all s s.H (HD L D ss H)
theorem At.mono (h:At L rec all T H ss T1 H1 D a s b) (hm:Mono L all H ss D) (hsub:∀r∈a,zad L r.x.2.2=true->Nat.testBit s.x.2.1 r.x.1=false->SubN L all r s.H s.H'):Mono L all H ss (ins D s.x.1):=by
 intro a2 r b2 he hr hd hl;have hrd:D r.x.1=false:=by
  have hd:(if r.x.1=s.x.1 then true else D r.x.1)=false:=hd
  split at hd
  ·cases hd
  ·exact hd
 by_cases hh:zia L s.x.2.2=true
 ·rw [h.heapThen hh]
  have hc:=h.S.chain;have hpos:=he.symm.trans h.eq;rw [qt6] at hpos;rcases hpos with ⟨c,hc1,hc2⟩|⟨c,hc1,hc2⟩
  ·cases c with
   |nil =>
    simp only [qk1,qz2] at hc2;rw [hc2.1] at hr;exact (zqk hh hr).elim
   |cons z c =>
    simp only [qk2,qz2] at hc2;obtain ⟨rfl,hc2⟩:=hc2;have hra:r∈a:=by rw [hc1];simp
    have hla:∀y∈a2,zia L y.x.2.2=true->D y.x.1=true:=fun y hy hyh=>by
     rw [← h.insL (by rw [hc1];simp [hy])]
     exact hl y hy hyh
    have h1:=hm a2 r b2 he hr hrd hla;rw [h.heapNow hh] at h1;exact h1.trans (hsub r hra hr (h.bitL hrd))
  ·cases c with
   |nil =>
    simp only [qk1,qz2] at hc2;rw [← hc2.1] at hr;exact (zqk hh hr).elim
   |cons z c =>
    simp only [qk2,qz2] at hc2;obtain ⟨rfl,hc2⟩:=hc2;rw [he] at hc;rw [(hc.at a2).2,hc1,zgn];show SubN L all r (HD L tt c (if tt s.x.1=true/\zia L s.x.2.2=true then s.H' else _)) _
    rw [qj ⟨rfl,hh⟩,zey]
    ·exact SubN.same
    ·intro y hy
     cases hyh:zia L y.x.2.2 with
     |false=>rfl
     |true =>
      have hyb:y∈b:=by rw [hc2];simp [hy]
      have:=hl y (by rw [hc1];simp [hy]) hyh
      rw [h.insR hyb,h.heavyR hh y hyb hyh] at this;cases this
 ·have hh:zia L s.x.2.2=false:=by simpa using hh
  rw [h.heapLight hh];refine hm a2 r b2 he hr hrd fun y hy hyh=> ?_
  have h1:=hl y hy hyh;have h1:(if y.x.1=s.x.1 then true else D y.x.1)=true:=h1
  split at h1
  ·next hi =>
   rw [h.other (by rw [he];simp [hy]) hi,hh] at hyh
   cases hyh
  ·exact h1
end
end Go.Ev
