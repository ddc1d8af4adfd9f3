import Derived.Test.YtmdkejaglfokaaaGreatWAAG
import Derived.Test.YtmdkejaglfokaaaGreatWAAH
set_option maxHeartbeats 8000000
set_option linter.unusedSimpArgs false
set_option linter.unusedVariables false
open Go Go.Ev Go.Proofs Go.RowKit
namespace HS
set_option maxRecDepth 100000
open HS.Md
theorem zxa1 (lo:List (AV×Rc)) (p:AV×Rc) (k:Nat):(encC rcL lo).take (k*44) ++ (rcL p ++ (encC rcL lo).drop (k*44))=encC rcL (lo.take k ++ p::lo.drop k):=by
 rw [zse zra,znf zra,zqi,znd]
theorem app_c {H:AH}[hn:HN H]{e z b i n m:Nat}{cs:List AV}{x:AV}{new:Ce}(hr:Row H i false false e z cs) (hi:i<H.next) (hcs:cs.length=n*z) (hlo:H.lo<=i) (hx:lenOf x=some m) (hsrc:zib z x m H=some new) (h1:new.one=true) (hnl:new.l.length=m*z) (hb:(n+m)*b<=140737488355328) (hm:n+m<=9223372036854775807) :
  ∃s' H',appX e z b [.sl i 0 n n false,x] H=some (s',H')/\SlZ H' s' (n+m) z (cs ++ new.l)/\HP (·≠ i) H H'/\H'.next<=H.next+1/\s'≠ .undef:=by
 rcases qh3 m with h0|h0
 ·subst h0
  have hn0:new.l= []:=qk1 (by rw [hnl,qy4])
  obtain ⟨cc,hg,rfl⟩:=hr;obtain ⟨c',h3,h4⟩:=Ce.over_ex (x:=new) (c:=cc) (o:=0+n*z) (by rw [hn0];show 0+n*z+0<=_;omega)
  rw [hn0] at h4;have h5:c'.l=cc.l:=by rw [h4,qw1];exact qo4 _ _
  refine ⟨.sl i 0 n n false,H.put i (.cells c' e z false false),?_,?_,HP.put H i _,qy3 _,by intro h;cases h⟩
  ·rw [zxn hx hsrc h1]
   show brec _ (orec none (fun H'=>some (AV.sl i 0 (Nat.add n 0) n false,H')) (zpe H i (Nat.add 0 (Nat.mul n z)) new)) (Nat.ble (Nat.add n 0) n)=_
   rw [show Nat.ble (Nat.add n 0) n=true from qe (qn n),zad]
   unfold AH.writeC;rw [show Nat.ble H.lo i=true from qe hlo,hg]
   have h3':Ce.over new cc (Nat.add 0 (Nat.mul n z))=some c':=h3;simp only [h1,h3'];rfl
  ·rw [hn0,qw1]
   have hrow:Row (H.put i (.cells c' e z false false)) i false false e z cc.l:=⟨c',zia _ _,h5⟩;exact hrow.slZ hi hcs
 ·obtain ⟨H',a1,a2,a3,a4⟩:=zmt (b:=b) (e:=e) (z:=z) (i:=i) (o:=0) (l:=n) (c:=n) hx hsrc h1 hr oM oM hb hm hn.hide
  refine ⟨_,H',a1,?_,a2.hp _,oM,by intro h;cases h⟩
  rw [qd3,qx oM] at a4
  exact a4.slZ oM (by rw [qr,hcs,hnl,qj4])
theorem ins_d {H:AH}[hn:HN H]{v:AV}{lo:List (AV×Rc)}{N k:Nat}{p:AV×Rc}(h:OwD H v lo N) (hk:k<=lo.length) (hlen:lo.length<=1000) (hp:p.1.oneCell=true) (hh:HoD H p.1) (hN:N<=H.next) (hloN:H.lo<=N) :
  ∃hd tl s1 H2 s2 H3,zua lookM 49 false true true [v,.int .i64 (k:Int),.int .i64 (k:Int)]=some hd/\zua lookM 49 true false false [v,.int .i64 (k:Int)]=some tl /\
   appX 84 44 152 [.sl H.next 0 1 1 false,tl] (H.new (rcb2 p))=some (s1,H2)/\appX 84 44 152 [hd,s1] H2=some (s2,H3)/\OwD H3 s2 (lo.take k ++ p::lo.drop k) N/\HX H H3:=by
 have hx1:HX H (H.new (rcb2 p)):=HX.new _ _;have hr1:Row (H.new (rcb2 p)) H.next false false 84 44 (rcL p):=⟨_,zaa _,rfl⟩;have hlo:=hn.lo;have hll:(lo.take k ++ p::lo.drop k).length=lo.length+1:=by simp;omega
 obtain ⟨c0,hv⟩:=h.own;have hall:(encC rcL lo).all AV.oneCell=true:=by
  refine qb1.2 fun y hy=> ?_
  have key:∀l:List (AV×Rc),(∀q,q∈l->q.1.oneCell=true)-> ∀y,y∈encC rcL l->y.oneCell=true:=by
   intro l
   induction l with
   |nil=>intro _ y hy;cases hy
   |cons a l ih =>
    intro hq y hy;rw [znd] at hy;rcases qp2.1 hy with hy|hy
    ·exact qb1.1 (zbc a (hq a qq1)) y hy
    ·exact ih (fun q hq'=>hq q (qj1 _ hq')) y hy
  exact key lo (fun q hq=>zsi (h.ho q hq).is) y hy
 obtain ⟨hd,tl,m,hs1,hs2,hm,htl,htn,hhd⟩:∃hd tl m,zua lookM 49 false true true [v,.int .i64 (k:Int),.int .i64 (k:Int)]=some hd/\zua lookM 49 true false false [v,.int .i64 (k:Int)]=some tl/\k+m=lo.length/\lenOf tl=some m /\
   (∃new,zib 44 tl m (H.new (rcb2 p))=some new/\new.l=(encC rcL lo).drop (k*44))/\((hd= .nilSl/\k=0)\/ ∃j op,hd= .sl j 0 k k false/\j<H.next/\Row H j false op 84 44 (encC rcL lo)):=by
  rcases hv with ⟨rfl,h0⟩|⟨j,op,rfl,hr,hNj,hj,hop⟩
  ·have hk0:k=0:=oM
   subst hk0;have:lo= []:=qk1 h0;subst this;exact ⟨.nilSl,.nilSl,0,kR,kR,rfl,rfl,⟨.lst [],rfl,by simp [encC];rfl⟩,.inl ⟨rfl,rfl⟩⟩
  ·have e1:zua lookM 49 false true true [.sl j 0 lo.length lo.length op,.int .i64 (k:Int),.int .i64 (k:Int)]=some (.sl j 0 k k false):=by
    show zgb lookM 49 (.sl j 0 lo.length lo.length op) none (some (.int .i64 (k:Int))) (some (.int .i64 (k:Int)))=_
    unfold zgb;simp only [maxOk,bndOf,uRs,sz3,natOf];rw [show Nat.ble 0 k=true from qe (qo2 _),show Nat.ble k k=true from qe (qn _),show Nat.ble k lo.length=true from qe hk]
    show some (AV.sl j (offOf k 0 0 44) (k - 0) (k - 0) false)=_
    have:offOf k 0 0 44=0:=by unfold offOf;split<;>rfl
    rw [this];rfl
   cases op with
   |true =>
    have e2:=zfo1 (L:=lookM) uRs sz3 j lo.length k hk;refine ⟨_,_,lo.length - k,e1,e2,oM,?_,?_,.inr ⟨j,true,rfl,hj,hr⟩⟩
    ·by_cases hc:k=lo.length
     ·rw [qi hc,hc,qn7]
      show (match Nat.beq 1 1 && Nat.ble 1 (lo.length*44+1) with|true=>some 0|false=>none)=some 0
      rw [show Nat.ble 1 (lo.length*44+1)=true from qe oM];rfl
     ·rw [qd hc];rfl
    ·by_cases hc:k=lo.length
     ·rw [qi hc]
      refine ⟨.lst [],?_,?_⟩
      ·rw [hc,qn7]
       show (match Nat.beq 1 1 && (Nat.ble 1 (lo.length*44+1) && Nat.beq 0 0) with|true=>some (Ce.lst [])|false=>none)=_
       rw [show Nat.ble 1 (lo.length*44+1)=true from qe oM];rfl
      ·rw [ql4 (by rw [c0];rw [hc];exact qn _)];rfl
     ·rw [qd hc]
      obtain ⟨new,n1,n2⟩:=zzq (z:=44) (m:=lo.length - k) (c:=lo.length - k) (op:=true) (hr.hx hx1 hj) (o:=k*44) (n:=lo.length - k) (by rw [c0,← qj4];exact qd2 44 oM)
      refine ⟨new,n1,?_⟩;rw [n2,qx];rw [qb2,c0,Nat.sub_mul];omega
   |false =>
    have hl0:lo.length=0:=by
     rcases qh3 lo.length with h|h
     ·exact h
     ·exact absurd (hop oM) dC
    have hk0:k=0:=oM
    subst hk0;have:lo= []:=qk1 hl0;subst this;refine ⟨_,.sl j 0 0 0 false,0,e1,kR,rfl,rfl,?_,.inr ⟨j,false,rfl,hj,hr⟩⟩
    obtain ⟨new,n1,n2⟩:=zzq (z:=44) (m:=0) (c:=0) (op:=false) (hr.hx hx1 hj) (o:=0) (n:=0) oM
    exact ⟨new,n1,by rw [n2];simp [encC]⟩
 obtain ⟨new,hsrc,hnl⟩:=htn;have hone:new.one=true:=zdg (by rw [hnl];exact qb1.2 fun y hy=>qb1.1 hall y (qt3 hy))
 have hnll:new.l.length=m*44:=by rw [hnl,qb2,c0,← Nat.sub_mul,show lo.length - k=m from oM]
 obtain ⟨s1,H2,a1,a2,a3,a4,a5⟩:=app_c (b:=152) (n:=1) hr1 (qd1 _) (by rw [zra]) (show H.lo<=H.next from hlo) htl hsrc hone hnll oM oM
 have hx2:HX H H2:=HX.hp2 hx1 a3 fun i hi=>oM
 haveI:HN H2:=hx2.hn;have hlo2:H2.lo=H.lo:=hx2.lo;have hn2:=hx2.next;rw [hnl] at a2;have h2one:(rcL p ++ (encC rcL lo).drop (k*44)).all AV.oneCell=true:=by
  rw [qo7,zbc _ hp,qn3];exact qb1.2 fun y hy=>qb1.1 hall y (qt3 hy)
 obtain ⟨new2,hsrc2,hnl2⟩:=a2.src;have hone2:new2.one=true:=zdg (by rw [hnl2];exact h2one)
 have hx2l:=a2.is.lenOf;have hl2:=a2.len;have hho:∀{H3:AH},HX H H3-> ∀q,q∈lo.take k ++ p::lo.drop k->HoD H3 q.1:=fun {H3} hx3 q hq=>by
  rcases qp2.1 hq with hq|hq
  ·exact (h.ho q (qd5 hq)).hx hx3
  ·rcases qg1.1 hq with rfl|hq
   ·exact hh.hx hx3
   ·exact (h.ho q (qt3 hq)).hx hx3
 rcases hhd with ⟨rfl,rfl⟩|⟨j,op,rfl,hj,hr⟩
 ·obtain ⟨s2,H3,b1,b2,b3,b4,b5⟩:=OwnS.app (b:=152) (OwnS.nil H2 84 44 N) a2 h2one oM oM (by rw [hlo2];exact hloN) oM
  have hx3:HX H H3:=HX.hp2 hx2 b3 fun i _=>zfa _
  refine ⟨_,tl,s1,H2,s2,H3,hs1,hs2,a1,b1,⟨?_,hho hx3⟩,hx3⟩;have e1:=zxa1 lo p 0;rw [qy4,qo5,qm1] at e1;rw [qm1,qy4,e1] at b2;rw [hll,show lo.length+1=0+(1+m) from oM]
  exact b2
 ·obtain ⟨H3,b1,b2,b3,b4⟩:=zmt (b:=152) (e:=84) (z:=44) (i:=j) (o:=0) (l:=k) (c:=k) hx2l hsrc2 hone2 (hr.hx hx2 hj) (by rw [c0,qy1];exact qd2 44 hk) oM oM oM HN.hide
  refine ⟨_,tl,s1,H2,_,H3,hs1,hs2,a1,b1,⟨⟨by rw [zmc zra],.inr ⟨H2.next,true,?_,?_,oM,oM,fun _=>rfl⟩⟩,hho (hx2.trans b2)⟩,hx2.trans b2⟩
  ·rw [hll,show k+(1+m)=lo.length+1 from oM]
  ·rw [qd3,hnl2,zxa1] at b4
   exact b4
theorem zku {H:AH}[hn:HN H]{v:AV}{l:List (AV×Rc)}(h:RdD H v l) (hlen:l.length<=900) (hs:∀p,p∈l->p.2.nm.size<=1000000) :
  FnE lookM 97 [v] H fun r H'=>(∃lo,rcs lo=sortL (rcs l)/\lo.length=l.length/\OwD H' r lo H.next)/\HX H H':=by
 refine fJ Tryz.f97 o97 ?_;have hlo:=hn.lo;have hl:∀H',fstO (zda .len lookM [49] [v] H')=some (.int .i64 l.length):=fun H'=>ztc (H':=H') uRs h.sl.is
 refine uT0 ?_;refine rc_j o97 (fun n T H'=> ∃q v' lo,n+q=l.length/\HX H H'/\OwD H' v' lo H.next/\rcs lo=sortL ((rcs l).take q)/\lo.length=q/\(∀p,p∈lo->p.2.nm.size<=1000000)/\gT T 0=v/\gT T 3=v'/\gT T 4= .int .i64 q) l.length ?_ ?_
 ·exact ⟨0,.nilSl, [],rfl,HX.refl _,⟨OwnS.nil _ _ _ _,fun p hp=>by cases hp⟩,by simp [sortL],rfl,(fun p hp=>by cases hp),vT0,vT0,by refine uT0 ?_;rfl⟩
 rintro n T H2 ⟨q,v',lo,hnq,hx2,hod,hrq,hlq,hszl,g0,g3,g4⟩;haveI:=hx2.hn;have hlo2:H2.lo=H.lo:=hx2.lo;have hn2:=hx2.next;cases n with
 |zero =>
  have hq:q=l.length:=oM
  subst hq;have F:=J4 @g0 @g3 @g4 @hl;refine uT ?_;clear F;exact ⟨⟨lo,by rw [hrq,qx (by rw [zjb];exact qn _)],hlq,hod⟩,hx2⟩
 |succ n =>
  have hq:q<l.length:=oM
  obtain ⟨p,hk⟩:∃p,l[q]? =some p:=⟨_,qo hq⟩
  have hmem:p∈l:=qy.2 ⟨q,hk⟩;have hsl2:=(h.hx hx2).sl;have hix:=ix44 (z:=44) (q:=q) hsl2.is hq;have hld:=hsl2.agg hk;have hf1:=fa_el hsl2.is hq 44 1;have hl1:=hsl2.fld hk (j:=1) (x:=.str p.2.nm) rfl;have hpd:=(h.hx hx2).ho p hmem;have hol:=hod.rd.sl;have hll:∀H',fstO (zda .len lookM [49] [v'] H')=some (.int .i64 q):=fun H'=>by have:=ztc (H':=H') uRs hol.is;rwa [hlq] at this
  have hbs:∀H2:AH,bsF 44 1 (.agg [(.int .i64 (0)),(.str ⟨#[]⟩),(.int .i64 (0)),(.int .i64 (0)),.nilSl,(.int .i64 (0)),(.int .i64 (0)),(.int .u8 (0)),(.int .u8 (0)),(.int .u8 (0)),(.int .u8 (0)),(.int .u8 (0)),(.int .u8 (0)),(.int .u8 (0)),(.int .u8 (0)),(.int .u8 (0)),(.int .u8 (0)),(.int .u8 (0)),(.int .u8 (0)),(.int .u8 (0)),(.int .u8 (0)),(.int .u8 (0)),(.int .u8 (0)),(.int .u8 (0)),(.int .u8 (0)),(.int .u8 (0)),(.int .u8 (0)),(.int .u8 (0)),(.int .u8 (0)),(.int .u8 (0)),(.int .u8 (0)),(.int .u8 (0)),(.int .u8 (0)),(.int .u8 (0)),(.int .u8 (0)),(.int .u8 (0)),(.int .u8 (0)),(.int .u8 (0)),(.int .u8 (0)),(.int .i64 (0)),(.int .i64 (0)),(.int .i64 (0)),(.int .i64 (0)),(.int .i64 (0))]) 84 (zipF [0] [.agg (rcL p)]) H2=some (.sl H2.next 0 1 1 false,H2.new (rcb2 p)):=fun H2=>bs1_q rfl rfl rfl
  obtain ⟨hd,tl,s1,H3,s2,H4,i1,i2,i3,i4,i5,i6⟩:=ins_d (k:=plc p.2 (rcs lo)) (p:=p) hod (by have:=zrt (fun r=>lessB r.nm p.2.nm) (rcs lo);rw [zjb] at this;exact this) oM (zsi hpd.is) hpd oM oM
  have hnew:rcs (lo.take (plc p.2 (rcs lo)) ++ p::lo.drop (plc p.2 (rcs lo)))=sortL ((rcs l).take (q+1)):=by
   have hk2:(rcs l)[q]? =some p.2:=by rw [qh1,hk];rfl
   rw [qc4,hk2,qj3,znj,← hrq];unfold layL;show (lo.take _ ++ p::lo.drop _).map _=(lo.map _).take _ ++ p.2::(lo.map _).drop _
   rw [qe3,qp1,qk5,ql5]
  have fin:∃n',n'<n+1/\ ∃q' v2 lo',n'+q'=l.length/\HX H H4/\OwD H4 v2 lo' H.next/\rcs lo'=sortL ((rcs l).take q')/\lo'.length=q'/\(∀p,p∈lo'->p.2.nm.size<=1000000)/\s2=v2/\AV.int .i64 ((q:Int)+1)= .int .i64 (q':Int):=by
   refine ⟨n,oM,q+1,s2,_,oM,hx2.trans i6,i5,hnew,by rw [← zjb,hnew,ziu,qa1,zjb];omega,fun y hy=> ?_,rfl,by push_cast;rfl⟩
   rcases qp2.1 hy with hy|hy
   ·exact hszl y (qd5 hy)
   ·rcases qg1.1 hy with rfl|hy
    ·exact hs _ hmem
    ·exact hszl y (qt3 hy)
  clear hnew;have F:=J4 @g0 @g3 @g4 @hl;refine uT ?_;clear F;refine rc_j o97 (fun n T H'=> ∃k,n+k=q/\H'=H2/\gT T 0=v/\gT T 3=v'/\gT T 4= .int .i64 q/\gT T 5= .int .i64 k/\(∀(j:Nat) (r:Rc),j<k->(rcs lo)[j]? =some r->lessB r.nm p.2.nm=true)) q ?_ ?_
  ·exact ⟨0,rfl,rfl,by have F:=@g0;exact vT,by have F:=@g3;exact vT,by have F:=@g4;exact vT,by refine uT0 ?_;rfl,fun j r h=>absurd h (qe4 _)⟩
  rintro n2 T2 H' ⟨k,hnk,rfl,t0,t3,t4,t5,hall⟩;cases n2 with
  |zero =>
   have hkq:k=q:=oM
   have hp:plc p.2 (rcs lo)=k:=zae _ (by rw [zjb];omega) (fun i r hi hr=>hall i r hi hr) (fun r hr=>by
    have:=(qp.1 hr).1;rw [zjb] at this;omega)
   rw [hp] at i1 i2;have d0:decide ((k:Int)<(q:Int))=false:=qq oM
   have F:=J13 @t0 @t3 @t4 @t5 @hll @d0 @i1 @i2 @hix @hld @hbs @i3 @i4;refine uT ?_;clear F;exact fin
  |succ n2 =>
   have hkq:k<q:=oM
   have hkl:k<lo.length:=oM
   obtain ⟨y,hy⟩:∃p,lo[k]? =some p:=⟨_,qo hkl⟩
   have hy2:(rcs lo)[k]? =some y.2:=by rw [qh1,hy];rfl
   have hymem:y∈lo:=qy.2 ⟨k,hy⟩;have hixo:=ix44 (z:=44) (q:=k) hol.is hkl;have hfo:=fa_el hol.is hkl 44 1;have hlo1:=hol.fld hy (j:=1) (x:=.str y.2.nm) rfl;have d0:decide ((k:Int)<(q:Int))=true:=qk oM
   have hle:= @FnX.p _ _ _ _ (zja1 y.2.nm p.2.nm (hszl y hymem) (hs p hmem));cases c:lessB y.2.nm p.2.nm with
   |true =>
    have F:=J14 @t0 @t3 @t4 @t5 @hll @d0 @hixo @hfo @hlo1 @hix @hf1 @hl1 @hle @c;refine uT ?_;clear F;refine ⟨n2,oM,k+1,oM,by push_cast;rfl,fun j r hj hr=> ?_⟩
    rcases qi2 j k with h3|h3
    ·exact hall j r h3 hr
    ·have:j=k:=oM
     subst this;rw [hy2] at hr;cases hr;exact c
   |false =>
    have hp:plc p.2 (rcs lo)=k:=zae _ (by rw [zjb];omega) (fun i r hi hr=>hall i r hi hr) (fun r hr=>by rw [hy2] at hr;cases hr;exact c)
    rw [hp] at i1 i2;have F:=J16 @t0 @t3 @t4 @t5 @hll @d0 @hixo @hfo @hlo1 @hix @hf1 @hl1 @hle @c @i1 (J5 @i2 @hld @hbs @i3 @i4);refine uT ?_;clear F;exact fin
theorem OwD.put {H H':AH}{v:AV}{l:List (AV×Rc)}{N:Nat}(h:OwD H v l N){b:Nat}(hp:HP (·≠ b) H H'){cb:Ce}{eb zb:Nat}{opb rob:Bool}(hb:H.get b=some (.cells cb eb zb opb rob)) (hz:zb≠44\/(∀o n c op,v≠ .sl b o n c op)) (hz2:zb≠2):OwD H' v l N:=by
 refine ⟨OwnS.hq h.own hp fun j o n c op he=> ?_,fun p hp'=>(h.ho p hp').put hp fun cc op ro e=>by rw [hb] at e;cases e;exact hz2 rfl⟩
 intro e;subst e;rcases hz with hz|hz
 ·exact OwnS.ne h.own hb (fun e=>hz e.symm) _ _ _ _ he
 ·exact hz _ _ _ _ he
theorem OwL.put {H H':AH}{lv:AV}{N:Nat}(h:OwL H lv N){b:Nat}(hp:HP (·≠ b) H H'){cb:Ce}{eb zb:Nat}{opb rob:Bool}(hb:H.get b=some (.cells cb eb zb opb rob)) (hz1:zb≠1):OwL H' lv N:=OwnS.hq h hp fun j o n c op he=>by
 intro e;subst e;exact OwnS.ne h hb (fun e=>hz1 e.symm) _ _ _ _ he
theorem hbA (H2:AH):bsF 2 0 (.agg [(.int .i64 (0)),(.int .i64 (0))]) 161 (zipF [] []) H2=some (.sl H2.next 0 0 0 false,H2.new (.cells (Ce.of []) 161 2 false false)):=bs0_q
theorem hbR (p:AV×Rc) (H2:AH):bsF 44 1 (.agg [(.int .i64 (0)),(.str ⟨#[]⟩),(.int .i64 (0)),(.int .i64 (0)),.nilSl,(.int .i64 (0)),(.int .i64 (0)),(.int .u8 (0)),(.int .u8 (0)),(.int .u8 (0)),(.int .u8 (0)),(.int .u8 (0)),(.int .u8 (0)),(.int .u8 (0)),(.int .u8 (0)),(.int .u8 (0)),(.int .u8 (0)),(.int .u8 (0)),(.int .u8 (0)),(.int .u8 (0)),(.int .u8 (0)),(.int .u8 (0)),(.int .u8 (0)),(.int .u8 (0)),(.int .u8 (0)),(.int .u8 (0)),(.int .u8 (0)),(.int .u8 (0)),(.int .u8 (0)),(.int .u8 (0)),(.int .u8 (0)),(.int .u8 (0)),(.int .u8 (0)),(.int .u8 (0)),(.int .u8 (0)),(.int .u8 (0)),(.int .u8 (0)),(.int .u8 (0)),(.int .u8 (0)),(.int .i64 (0)),(.int .i64 (0)),(.int .i64 (0)),(.int .i64 (0)),(.int .i64 (0))]) 84 (zipF [0] [.agg (rcL p)]) H2=some (.sl H2.next 0 1 1 false,H2.new (rcb2 p)):=bs1_q rfl rfl rfl
theorem zam {H:AH}[hn:HN H]{i:Nat}{b:ABlk}(h:H.get i=some b) (b':ABlk):HP (·≠ i) H (H.put i b'):=HP.put _ _ _
theorem bs_at {L:Lk}{H:AH}{d:Nat}{k:K2}{s:List Kf}{T:Tr AV}{Q:PostC}{m n:Nat}{z:AV}{e:Nat}{xs:List (Nat×AV)}(P:AH->Prop) (hp:P H) (hk:∀H,P H->oH false (bsF m n z e xs H) L d k s T H Q):oH false (bsF m n z e xs H) L d k s T H Q:=hk H hp
theorem zlo1 {H:AH}[hn:HN H]{a:AV}(ha:HoD H a):∃a5 H5,appX 161 2 16 [.sl H.next 0 0 0 false,a] (H.new (.cells (Ce.of []) 161 2 false false))=some (a5,H5)/\HX H H5/\HoD H5 a5/\a5.oneCell=true/\a5.toC= .lst [a5]:=by
 have hx1:HX H (H.new (.cells (Ce.of []) 161 2 false false)):=HX.new _ _;obtain ⟨a5,H5,b1,b2,b3,b4,b5⟩:=OwnS.app (b:=16) (OwnS.bs0 (H:=H) (e:=161) (z:=2)) (ha.hx hx1).z rfl dC dC hn.lo (qy3 _)
 exact ⟨a5,H5,b1,HX.hp2 hx1 b3 fun i hi=>zga oM,OwnS.hod b2,(OwnS.one b2).1,(OwnS.one b2).2⟩
theorem rec_new {H:AH}[hn:HN H]{v:AV}{l:List (AV×Rc)}{N:Nat}{p:AV×Rc}(h:OwD H v l N) (hp:HoD H p.1) (hlen:l.length<=1000) (hlo:H.lo<=N) (hN:N<=H.next) :
  ∃s' H',appX 84 44 152 [v,.sl H.next 0 1 1 false] (H.new (rcb2 p))=some (s',H')/\OwD H' s' (l ++ [p]) N/\HP (blkNe v) H H'/\(∀k,k<H.next->blkNe v k->blkNe s' k):=by
 have hx1:HX H (H.new (rcb2 p)):=HX.new _ _;obtain ⟨s',H',a1,a2,a3,a4,a5⟩:=app1 (p:=p) (h.hx hx1) ⟨_,zaa _,rfl⟩ (qd1 _) (zsi hp.is) hlen hlo (by show N<=H.next+1;omega)
 have hh:∀q,HoD H q->HoD H' q:=fun q hq=>by
  rcases hq with hb|⟨i,op,cc,op',hb,hi,hg⟩
  ·exact .inl hb
  ·refine .inr ⟨i,op,cc,op',hb,by have:=a3.next;have:H.next+1<=H'.next:=this;omega,(a3.get (by show i<H.next+1;omega) (OwnS.ne h.own hg dC)).trans ((hx1.get hi).trans hg)⟩
 refine ⟨s',H',a1,⟨a2,fun q hq=> ?_⟩,(hx1.hp (fun _=>True)).trans a3 fun i _ hi=>⟨trivial,hi⟩,fun k hk hb=>a5 k (by show k<H.next+1;omega) hb⟩
 rcases qp2.1 hq with hq|hq
 ·exact hh _ (h.ho q hq)
 ·rw [qx1] at hq
  subst hq;exact hh _ hp
set_option maxHeartbeats 16000000 in
theorem zya1 {H:AH}[hn:HN H]{t:Tb}{v lv a:AV}{x:Rc}{l:List (AV×Rc)}(h:TbD H t v lv l) (hk:Ok t) (hlen:t.rs.length<=900) (hnm:∀r,r∈t.rs->r.nm.size<=100000) (hx:x.nm.size<=100000) (ha:HoD H a) :
  FnE lookM 92 [tbA t.nx v lv,.agg (rcL (a,x))] H fun r H'=>(∃v2 lv2 l2,r=tbA (t.nx+1) v2 lv2/\TbD H' (putT t x) v2 lv2 l2)/\HX H H':=by
 refine fI Tryz.f92 ?_;have hlo:=hn.lo;have hnx:=hk.nx;have hnx1:=hnx.1;have hnx2:=hnx.2;have hll:=h.len;have e01:=hEq_f (oM:H.next≠H.next+1)
 have e02:=hEq_f (oM:H.next≠H.next+2)
 have e10:=hEq_f (oM:H.next+1≠H.next)
 have e12:=hEq_f (oM:H.next+1≠H.next+2)
 have e21:=hEq_f (oM:H.next+2≠H.next+1)
 have e20:=hEq_f (oM:H.next+2≠H.next)
 have hst:∀(i o:Nat) (n:Int) (H:AH),H.lo<=i->st1 lookM 3 (.ptr i o) (.int .i64 n) H=wr1 (H.get i) i o (.int .i64 n) H:=fun i o n H h=>st1_w sz3i rfl rfl h
 have hw0:∀(n:Int) (i:Nat) (H:AH),wr1 (some (rcb2 (a,x))) i 0 (.int .i64 n) H=some (H.put i (rcb2 (a,{x with id:=n}))):=fun n i H=>by rw [wr1_l (by rw [zra];omega),zkj1]
 have F:=J13 @zba @zcb @zpa @tb_0 @zea @e01 @e02 @e10 @e12 @e21 @e20 @hst @hw0;refine uT ?_;refine cR_at (fun H1=>HX H H1/\H1.next=H.next+3/\H1.get H.next=some (tbx t.nx v lv)/\H1.get (H.next+1)=some (rcb2 (a,{x with id:=t.nx}))/\H1.get (H.next+2)=some (tbx 0 .nilSl .nilSl)) ?_ ?_
 ·exact ⟨hxt,rfl,by have F:=@e01;exact vT,zia _ _,by have F:=@e21;exact vT⟩
 rintro H1 ⟨hx1,hn1,g0,g1,g2⟩;haveI:=hx1.hn;refine cR_f (zvk (h.hx hx1) oM) ?_
 rintro r2 H2 ⟨⟨v1,lv1,l1,rfl,hr1,hl1,hod1,hol1⟩,hx2⟩;have hx02:=hx1.trans hx2;have hn2:=hx2.next;have g0:=(hx2.get (i:=H.next) oM).trans g0
 have g1:=(hx2.get (i:=H.next+1) oM).trans g1
 have g2:=(hx2.get (i:=H.next+2) oM).trans g2
 haveI:=hx02.hn;have hlo2:H2.lo=H.lo:=hx02.lo;have o1:=zbb (nn:=t.nx) (v:=v1) (lv:=lv1) (OwnS.one hod1.own).1 (OwnS.one hol1).1;have hw1:∀(n:Int) (i:Nat) (H:AH),wr1 (some (.cells (.lst (tbL t.nx v1 lv1)) 53 7 false false)) i 0 (.int .i64 n) H=some (H.put i (.cells (.lst (tbL n v1 lv1)) 53 7 false false)):=fun n i H=>by rw [wr1_l (by show 0<7;omega),zjj1]
 have F:=J7 @g0 @zba @zea @zha @tb_0 @hst @hw1;refine uT ?_;refine bs_at (fun H3=>HX H H3/\H2.next<=H3.next/\H3.get H.next=some (tbx (t.nx+1) v1 lv1)/\H3.get (H.next+1)=some (rcb2 (a,{x with id:=t.nx}))/\H3.get (H.next+2)=some (tbx 0 .nilSl .nilSl)/\OwD H3 v1 l1 H1.next/\OwL H3 lv1 H1.next) ?_ ?_
 ·have q1:=zam g0 (tbx t.nx v1 lv1)
  have q2:HP (·≠ H.next) (H2.put H.next (tbx t.nx v1 lv1)) ((H2.put H.next (tbx t.nx v1 lv1)).put H.next (tbx (t.nx+1) v1 lv1)):=HP.put _ _ _;have q3:=q1.trans q2 (r:=(·≠ H.next)) fun i _ hi=>⟨hi,hi⟩
  exact ⟨by have K:=hx02;exact hxk,qn _,zia _ _,by have F:=J2 @e10 @g1;exact vT,by have F:=J2 @e20 @g2;exact vT,hod1.put q3 g0 (.inl dC) dC,OwL.put hol1 q3 g0 dC⟩
 rintro H3 ⟨hx03,hn3,g0,g1,g2,hod3,hol3⟩;haveI:=hx03.hn;have hlo3:H3.lo=H.lo:=hx03.lo;obtain ⟨a5,H5,b1,hx5,hha,ho1,ho2⟩:=zlo1 (ha.hx hx03);have e1n:=hEq_f (oM:H.next+1≠H3.next)
 have hx05:=hx03.trans hx5;have hn5:=hx5.next;haveI:=hx05.hn;have hlo5:H5.lo=H.lo:=hx05.lo;have g0:=(hx5.get (i:=H.next) oM).trans g0
 have g1':=g1;have g1:=(hx5.get (i:=H.next+1) oM).trans g1
 have g2:=(hx5.get (i:=H.next+2) oM).trans g2
 have hod5:=hod3.hx hx5;have hol5:=OwnS.hx hol3 hx5;have hstA:=st1_w (L:=lookM) (t:=78) (i:=H.next+1) (o:=4) (H:=H5) szA ho1 ho2 oM
 have hwrA:=wr1_l (i:=H.next+1) (o:=4) (v:=a5) (H:=H5) (l:=rcL (a,{x with id:=t.nx})) (e:=84) (z:=44) (op:=false) (by rw [zra];omega)
 have hs4:(rcL (a,{x with id:=t.nx})).set 4 a5=rcL (a5,{x with id:=t.nx}):=rfl
 have F:=J13 @hbA @g1' @e1n @rc_4 @b1 @g1 @hstA @hwrA @hs4 @e01 @g0 @tb_1 @zud;refine uT ?_;refine bs_at (fun H6=>HX H H6/\H5.next<=H6.next/\H6.get H.next=some (tbx (t.nx+1) v1 lv1)/\H6.get (H.next+2)=some (tbx 0 .nilSl .nilSl)/\OwD H6 v1 l1 H1.next/\OwL H6 lv1 H1.next/\HoD H6 a5) ?_ ?_
 ·have q1:=zam g1 (rcb2 (a5,{x with id:=t.nx}))
  refine ⟨by have K:=hx05;exact hxk,qn _,by have F:=J2 @e01 @g0;exact vT,by have F:=J2 @e21 @g2;exact vT,hod5.put q1 g1 (.inr fun o n c op he=> ?_) dC,OwL.put hol5 q1 g1 dC,HoD.put hha q1 fun cc op ro e=>by rw [g1] at e;cases e⟩
  rcases hod5.own.2 with ⟨rfl,_⟩|⟨j,op',rfl,_,hj,_⟩
  ·cases he
  ·cases he;omega
 rintro H6 ⟨hx06,hn6,g0,g2,hod6,hol6,hha6⟩;haveI:=hx06.hn;have hlo6:H6.lo=H.lo:=hx06.lo;obtain ⟨s7,H7,c1,hod7,c3,c5⟩:=rec_new (p:=(a5,{x with id:=t.nx})) hod6 hha6 oM oM oM
 have hvb:∀i,i<H1.next->blkNe v1 i:=fun i hi=>by
  rcases hod6.own.2 with ⟨rfl,_⟩|⟨j,op,rfl,_,hj,_⟩
  ·exact zfa _
  ·exact zga oM
 have hx07:HX H H7:=HX.hp2 hx06 c3 fun i hi=>hvb i oM
 haveI:=hx07.hn;have hlo7:H7.lo=H.lo:=hx07.lo;have hn7:=c3.next;have g0:=(c3.get (i:=H.next) oM (hvb _ oM)).trans g0
 have g2:=(c3.get (i:=H.next+2) oM (hvb _ oM)).trans g2
 have hol7:OwL H7 lv1 H1.next:=OwnS.hq hol6 c3 fun j o n c op he=>by
  rcases hol6.2 with ⟨_,hc⟩|⟨j',op',rfl,⟨cc,hg,_⟩,_⟩
  ·cases hc
  ·cases he
   exact OwnS.ne hod6.own hg dC
 have F:=J2 @hbR @c1;refine uT ?_;refine cR_f (zku hod7.rd (by rw [qr];show l1.length+1<=900;have:=hk.len;omega) (fun p hp=> ?_)) ?_
 ·rcases qp2.1 hp with hp|hp
  ·have hm:p.2∈t.rs:=by
    rw [← h.eq,← hr1];exact qy2.2 ⟨p,hp,rfl⟩
   have:=hnm _ hm;omega
  ·rw [qx1] at hp
   subst hp;show x.nm.size<=_;omega
 rintro r8 H8 ⟨⟨lo,hrl,hll8,hod8⟩,hx8⟩;have hx08:=hx07.trans hx8;have hn8:=hx8.next;haveI:=hx08.hn;have hlo8:H8.lo=H.lo:=hx08.lo;have g0:=(hx8.get (i:=H.next) oM).trans g0
 have g2:=(hx8.get (i:=H.next+2) oM).trans g2
 have hol8:=OwnS.hx hol7 hx8;have ho8:=OwnS.one hod8.own;have hstR:=st1_w (L:=lookM) (t:=49) (i:=H.next) (o:=1) (H:=H8) szR1 ho8.1 ho8.2 oM
 have hwrR:=wr1_l (i:=H.next) (o:=1) (v:=r8) (H:=H8) (l:=tbL (t.nx+1) v1 lv1) (e:=53) (z:=7) (op:=false) (by show 1<7;omega)
 have o2:=zbb (nn:=t.nx+1) (v:=r8) (lv:=lv1) ho8.1 (OwnS.one hol8).1;have F:=J10 @hstR @g0 @hwrR @zcj @zea @g2 @e20 @zba @zha @ld7;refine uT ?_;have q1:=zam g0 (tbx (t.nx+1) r8 lv1);have g2':(H8.put H.next (tbx (t.nx+1) r8 lv1)).get (H.next+2)=some (tbx 0 .nilSl .nilSl):=(zyb _ oM).trans g2
 have q2:=zam g2' (tbx (t.nx+1) r8 lv1);refine ⟨⟨r8,lv1,lo,rfl,⟨((hod8.put q1 g0 (.inl dC) dC).put q2 g2' (.inl dC) dC).rd,?_,OwL.lvd (OwL.put (OwL.put hol8 q1 g0 dC) q2 g2' dC)⟩⟩,by have K:=hx08;exact hxk⟩
 show rcs lo=layL {x with id:=t.nx} t.rs
 rw [hrl,zym1 hk];congr 1;show (l1 ++ [(a5,{x with id:=t.nx})]).map _=_
 rw [qe3,← h.eq,← hr1];rfl
def DbR (H:AH) (r:AV) (out:Res):Prop:=(∃e,e≠0/\out=bad e/\r= .tup [tb0,.int .i64 e])\/(∃t2 v lv l,out=good t2/\r= .tup [tbA t2.nx v lv,.int .i64 0]/\TbD H t2 v lv l)
structure DbIn (H:AH) (t:Tb) (v lv:AV) (l:List (AV×Rc)):Prop where
 d:TbD H t v lv l
 len:t.rs.length<=900
 nm:∀r,r∈t.rs->r.nm.size<=100000
 nx:0<=t.nx/\t.nx<=4294967296
theorem DbIn.hx {H H':AH}{t:Tb}{v lv:AV}{l:List (AV×Rc)}(h:DbIn H t v lv l) (hx:HX H H'):DbIn H' t v lv l:=⟨h.d.hx hx,h.len,h.nm,h.nx⟩
theorem DbIn.ll {H:AH}{t:Tb}{v lv:AV}{l:List (AV×Rc)}(h:DbIn H t v lv l):l.length<=900:=by have:=h.d.len;have:=h.len;omega
theorem DbIn.lnm {H:AH}{t:Tb}{v lv:AV}{l:List (AV×Rc)}(h:DbIn H t v lv l):∀p,p∈l->p.2.nm.size<=1000000:=fun p hp=>by
 have:p.2∈t.rs:=by rw [← h.d.eq];exact qy2.2 ⟨p,hp,rfl⟩
 have:=h.nm _ this;omega
theorem DbIn.lvv {H:AH}{t:Tb}{v lv:AV}{l:List (AV×Rc)}(h:DbIn H t v lv l):Lv H lv:=h.d.lv.lv
theorem DbIn.at {H:AH}{t:Tb}{v lv:AV}{l:List (AV×Rc)}(h:DbIn H t v lv l){k:Nat}(hk:k<t.rs.length):∃p,l[k]? =some p/\p.2=get t.rs k/\HoD H p.1:=by
 have hl:=h.d.len;obtain ⟨p,hp⟩:∃p,l[k]? =some p:=⟨_,qo oM⟩
 refine ⟨p,hp,?_,h.d.rd.ho p (qy.2 ⟨k,hp⟩)⟩;rw [← h.d.eq,zti hp]
theorem dchk {H:AH}[hn:HN H]{t:Tb}{v lv:AV}{l:List (AV×Rc)}(h:DbIn H t v lv l):FnE lookM 90 [tbA t.nx v lv] H fun r H'=>r= .int .i64 (chkI t)/\HX H H':=by
 have:=zkf1 (nn:=t.nx) h.d.rd.sl h.lvv (by have:=h.ll;omega) h.lnm
 rw [h.d.eq] at this;exact this
theorem dfnd {H:AH}[hn:HN H]{t:Tb}{v lv:AV}{l:List (AV×Rc)}(h:DbIn H t v lv l) (s:ByteArray):FnE lookM 66 [tbA t.nx v lv,.str s] H fun r H'=>r= .tup [.int .i64 (fndI s t.rs:Nat),.bool (hasB s t.rs)]/\HX H H':=by
 have:=zma1 (nn:=t.nx) (lv:=lv) (s:=s) h.d.rd.sl (by have:=h.ll;omega)
 rw [h.d.eq] at this;exact this
theorem d13_ok (n a b:Int) (H:AH):FnX lookM 49 [.int .i64 n,.int .i64 a,.int .i64 b] H (.bool (wi n a b)) H:=by
 refine fI Tryz.f49 ?_;rw [wi_d];cases h1:decide (a<=n) with
 |false=>have F:=@h1;refine uT ?_;rfl
 |true=>have F:=@h1;refine uT ?_;rfl
theorem d13 (n a b:Int){H:AH}{d:Nat}{k:K2}{s:List Kf}{T:Tr AV}{Q:PostC}:cR false lookM 49 [.int .i64 n,.int .i64 a,.int .i64 b] H d k s T Q=RK lookM k s (pS d (.bool (wi n a b)) T) H Q:=FnX.p (d13_ok n a b)
theorem zlu (s:ByteArray) (hs:s.size<=1000000) (H:AH):FnX lookM 95 [.str s] H (.bool (partB s || snapB s)) H:=by
 refine fI Tryz.f95 ?_;have h1:= @FnX.p _ _ _ _ (ztk s hs);have h2:= @FnX.p _ _ _ _ (zyn s hs);cases ha:partB s with
 |true=>rw [ha] at h1;have F:=J2 @h1 @h2;refine uT ?_;rfl
 |false=>rw [ha] at h1;have F:=J2 @h1 @h2;refine uT ?_;rfl
theorem zlr {H:AH}[hn:HN H]{t:Tb}{v lv:AV}{l:List (AV×Rc)}(h:DbIn H t v lv l) (s:ByteArray):FnE lookM 91 [tbA t.nx v lv,.str s] H fun r H'=>r= .int .i64 (roomE t s)/\HX H H':=by
 refine fI Tryz.f91 ?_;have hx1:HX H (H.new (tbx t.nx v lv)):=HX.new _ _;have F:=J2 @zba @zea;refine uT ?_;refine cR_f (dfnd (h.hx hx1) s) ?_;rintro r H2 ⟨rfl,hx2⟩;have hx:=hx1.trans hx2;have hg2:=(hx2.get (i:=H.next) (qd1 _)).trans (zaa _);have hl:∀H',fstO (zda .len lookM [49] [v] H')=some (.int .i64 t.rs.length):=fun H'=>by have:=ztc (H':=H') uRs h.d.rd.sl.is;rwa [h.d.len] at this
 cases hh:hasB s t.rs with
 |true =>
  refine uT0 ?_;refine ⟨?_,hx⟩;unfold roomE;rw [qi hh]
 |false =>
  by_cases h1:(16:Int)<=(t.rs.length:Int)
  ·have d1:decide ((16:Int)<=(t.rs.length:Int))=true:=qk h1
   have F:=J4 @hg2 @tb_1 @hl @d1;refine uT ?_;refine ⟨?_,hx⟩;unfold roomE;rw [hh,qd dC,qi (.inl oM)]
  ·have d1:decide ((16:Int)<=(t.rs.length:Int))=false:=qq h1
   by_cases h2:(2147483648:Int)<=t.nx
   ·have d2:decide ((2147483648:Int)<=t.nx)=true:=qk h2
    have F:=J6 @hg2 @tb_1 @tb_0 @hl @d1 @d2;refine uT ?_;refine ⟨?_,hx⟩;unfold roomE;rw [hh,qd dC,qi (.inr h2)]
   ·have d2:decide ((2147483648:Int)<=t.nx)=false:=qq h2
    have F:=J6 @hg2 @tb_1 @tb_0 @hl @d1 @d2;refine uT ?_;refine ⟨?_,hx⟩;unfold roomE;rw [hh,qd dC,qd (by rintro (h|h);omega;exact h2 h)]
theorem dbad {H H2:AH}[hn:HN H2]{e:Int}{out:Res}{b:Nat}(hx:HX H H2) (hb:H.next<=b) (he:e≠0) (ho:out=bad e):DbR (H2.put b (tbx 0 .nilSl .nilSl)) (.tup [tb0,.int .i64 e]) out/\HX H (H2.put b (tbx 0 .nilSl .nilSl)):=⟨.inl ⟨e,he,ho,rfl⟩,HX.put hx hb _⟩
theorem o0:(tbL 0 .nilSl .nilSl).all AV.oneCell=true:=rfl
theorem zmr {t:Tb}(h:zvb t=true):chkI t=0:=by unfold chkI;rw [h];rfl
theorem znr {t:Tb}(h:zvb t=false):chkI t=2:=by unfold chkI;rw [h];rfl
theorem zmo1 {H:AH}[hn:HN H]{t:Tb}{v lv:AV}{l:List (AV×Rc)}{s:ByteArray}{n:Int}(h:DbIn H t v lv l) (hs:s.size<=100000) :
  FnE lookM 76 [tbA t.nx v lv,.str s,.int .i64 n,.int .i64 1] H fun r H'=>DbR H' r (makeT t s n)/\HX H H':=by
 refine fI Tryz.f76 ?_;have hlo:=hn.lo;have e01:=hEq_f (oM:H.next≠H.next+1)
 have o1:=o0;have hv:= @FnX.p _ _ _ _ (ztk s oM)
 have hw1:wi 1 1 2147483648=true:=dC
 have F:=J4 @zba @zcb @zea @e01;refine uT ?_;refine cR_at (fun H1=>HX H H1/\H1.next=H.next+2/\H1.get H.next=some (tbx t.nx v lv)/\H1.get (H.next+1)=some (tbx 0 .nilSl .nilSl)) ?_ ?_
 ·exact ⟨hxt,rfl,by have F:=@e01;exact vT,zaa _⟩
 rintro H1 ⟨hx1,hn1,g0,g1⟩;haveI:=hx1.hn;refine cR_f (dchk (h.hx hx1)) ?_;rintro r2 H2 ⟨rfl,hx2⟩;have hx02:=hx1.trans hx2;have hn2:=hx2.next;have g0:=(hx2.get (i:=H.next) oM).trans g0
 have g1:=(hx2.get (i:=H.next+1) oM).trans g1
 haveI:=hx02.hn;have hlo2:H2.lo=H.lo:=hx02.lo;rw [zpa1];cases hc:zvb t with
 |false =>
  rw [znr hc];have F:=J6 @tb_bu @g1 @zba @zea @zha @ld7;refine uX ?_;exact dbad hx02 oM dC rfl
 |true =>
 rw [zmr hc];unfold makeO;cases a1:partB s with
 |false =>
  have F:=J8 @tb_bu @g1 @zba @zea @zha @ld7 @hv @a1;refine uX ?_;exact dbad hx02 oM dC rfl
 |true =>
 cases a2:wi n 1 64 with
 |false =>
  have F:=J10 @tb_bu @g1 @zba @zea @zha @ld7 @hv @a1 @d13 @a2;refine uX ?_;exact dbad hx02 oM dC rfl
 |true =>
 have F:=J7 @hv @a1 @d13 @a2 @hw1 @g0 @zea;refine uT ?_;refine cR_f (zlr (h.hx hx02) s) ?_;rintro r3 H3 ⟨rfl,hx3⟩;have hx03:=hx02.trans hx3;have hn3:=hx3.next;have g0:=(hx3.get (i:=H.next) oM).trans g0
 have g1:=(hx3.get (i:=H.next+1) oM).trans g1
 haveI:=hx03.hn;have hlo3:H3.lo=H.lo:=hx03.lo;by_cases hr:roomE t s=0
 ·simp only [hr,reduceIte,qz3,qr2]
  have F:=J3 @g0 @zea @mk_bu;refine uT ?_;refine cR_f (zya1 (h.hx hx03).d (checkB_ok.1 hc) h.len h.nm (show s.size<=_ from hs) (.inl rfl)) ?_
  rintro r4 H4 ⟨⟨v2,l2,ll,rfl,hd⟩,hx4⟩;have hx04:=hx03.trans hx4;have g1:=(hx4.get (i:=H.next+1) oM).trans g1
  haveI:=hx04.hn;have hlo4:H4.lo=H.lo:=hx04.lo;have o2:=zbb (nn:=t.nx+1) (RdD.one hd.rd) hd.lv.one.1;have F:=J5 @g1 @zba @zea @zha @ld7;refine uT ?_;exact ⟨.inr ⟨_,v2,l2,ll,rfl,rfl,hd.put (HP.put _ _ _) g1 dC dC dC⟩,HX.put hx04 oM _⟩
 ·simp only [qd hr,reduceIte,qz3,qr2]
  have d1:decide (roomE t s≠0)=true:=qk hr;have F:=J7 @d1 @tb_bu @g1 @zba @zea @zha @ld7;refine uT ?_;exact dbad hx03 oM hr rfl
theorem sn_bu2 (s:ByteArray) (n m o:Int) (i:Nat) (op:Bool):zsa lookM 84 (zipF [1,2,3,4,5,6] [.str s,.int .i64 2,.int .i64 n,roA (.sl i 0 0 0 op),.int .i64 m,.int .i64 o])=some (.agg (rcL (.sl i 0 0 0 op,⟨0,s,2,n,m,o,0,0,0⟩))):=kR
theorem cl_bu2 (s:ByteArray) (n m o:Int) (i:Nat) (op:Bool):zsa lookM 84 (zipF [1,2,3,4,5,7] [.str s,.int .i64 1,.int .i64 n,roA (.sl i 0 0 0 op),.int .i64 m,.int .i64 o])=some (.agg (rcL (.sl i 0 0 0 op,⟨0,s,1,n,m,0,o,0,0⟩))):=kR
theorem sn_bu3 {H:AH}{a:AV}(ha:HoD H a) (s:ByteArray) (n m o:Int):zsa lookM 84 (zipF [1,2,3,4,5,6] [.str s,.int .i64 2,.int .i64 n,roA a,.int .i64 m,.int .i64 o])=some (.agg (rcL (a,⟨0,s,2,n,m,o,0,0,0⟩))):=by
 rcases ha with rfl|⟨i,op,cc,op',rfl,_⟩
 ·exact sn_bu _ _ _ _
 ·exact sn_bu2 _ _ _ _ _ _
theorem cl_bu3 {H:AH}{a:AV}(ha:HoD H a) (s:ByteArray) (n m o:Int):zsa lookM 84 (zipF [1,2,3,4,5,7] [.str s,.int .i64 1,.int .i64 n,roA a,.int .i64 m,.int .i64 o])=some (.agg (rcL (a,⟨0,s,1,n,m,0,o,0,0⟩))):=by
 rcases ha with rfl|⟨i,op,cc,op',rfl,_⟩
 ·exact cl_bu _ _ _ _
 ·exact cl_bu2 _ _ _ _ _ _
theorem zsf1 {H:AH}[hn:HN H]{t:Tb}{v lv:AV}{l:List (AV×Rc)}{s:ByteArray}(h:DbIn H t v lv l) (hs:s.size<=100000) :
  FnE lookM 77 [tbA t.nx v lv,.str s,.int .i64 1] H fun r H'=>DbR H' r (snapT t s)/\HX H H':=by
 refine fI Tryz.f77 ?_;have hlo:=hn.lo;have e01:=hEq_f (oM:H.next≠H.next+1)
 have o1:=o0;have hsp:= @FnX.p _ _ _ _ (zue s oM)
 have hw1:wi 1 1 2147483648=true:=dC
 have F:=J5 @zba @zcb @zea @e01 @hsp;refine uT ?_;refine cR_at (fun H1=>HX H H1/\H1.next=H.next+2/\H1.get H.next=some (tbx t.nx v lv)/\H1.get (H.next+1)=some (tbx 0 .nilSl .nilSl)) ?_ ?_
 ·exact ⟨hxt,rfl,by have F:=@e01;exact vT,zaa _⟩
 rintro H1 ⟨hx1,hn1,g0,g1⟩;haveI:=hx1.hn;refine cR_f (dchk (h.hx hx1)) ?_;rintro r2 H2 ⟨rfl,hx2⟩;have hx02:=hx1.trans hx2;have hn2:=hx2.next;have g0:=(hx2.get (i:=H.next) oM).trans g0
 have g1:=(hx2.get (i:=H.next+1) oM).trans g1
 haveI:=hx02.hn;have hlo2:H2.lo=H.lo:=hx02.lo;rw [zra1];cases hc:zvb t with
 |false =>
  rw [znr hc];have F:=J6 @tb_bu @g1 @zba @zea @zha @ld7;refine uX ?_;exact dbad hx02 oM dC rfl
 |true =>
 rw [zmr hc];unfold snapO;cases a1:snapB s with
 |false =>
  have F:=J7 @tb_bu @g1 @zba @zea @zha @ld7 @a1;refine uX ?_;exact dbad hx02 oM dC rfl
 |true =>
 have F:=J5 @a1 @d13 @hw1 @g0 @zea;refine uT ?_;refine cR_f (dfnd (h.hx hx02) (splA s)) ?_;rintro r3 H3 ⟨rfl,hx3⟩;have hx03:=hx02.trans hx3;have hn3:=hx3.next;have g0:=(hx3.get (i:=H.next) oM).trans g0
 have g1:=(hx3.get (i:=H.next+1) oM).trans g1
 haveI:=hx03.hn;have hlo3:H3.lo=H.lo:=hx03.lo;cases a2:hasB (splA s) t.rs with
 |false =>
  have F:=J6 @tb_bu @g1 @zba @zea @zha @ld7;refine uX ?_;exact dbad hx03 oM dC rfl
 |true =>
 obtain ⟨q1,q2⟩:=zza a2;have F:=J2 @g0 @zea;refine uT ?_;refine cR_f (zlr (h.hx hx03) s) ?_;rintro r4 H4 ⟨rfl,hx4⟩;have hx04:=hx03.trans hx4;have hn4:=hx4.next;have g0:=(hx4.get (i:=H.next) oM).trans g0
 have g1:=(hx4.get (i:=H.next+1) oM).trans g1
 haveI:=hx04.hn;have hlo4:H4.lo=H.lo:=hx04.lo;by_cases hr:roomE t s=0
 ·have h4:=h.hx hx04
  obtain ⟨p,hp,hp2,hph⟩:=h4.at q1;have hix:=ix44 (z:=44) (q:=fndI (splA s) t.rs) h4.d.rd.sl.is (by have:=h4.d.len;omega)
  have hld:=h4.d.rd.sl.agg hp;have hone:=zir hph.is;have e0n:=hEq_f (oM:H.next≠H4.next)
  have hbu:=sn_bu3 hph s (get t.rs (fndI (splA s) t.rs)).sz 1 (get t.rs (fndI (splA s) t.rs)).id;rw [← hp2] at hbu ⊢
  simp only [hr,reduceIte,qz3,qr2];have F:=J12 @g0 @tb_1 @zea @hix @hld @zpa @rc_0 @rc_3 @rc_5 @rc_ro @e0n @hbu;refine uT ?_;refine cR_at (fun H5=>HX H4 H5/\H5.next=H4.next+1) ?_ ?_
  ·exact ⟨hxt,rfl⟩
  rintro H5 ⟨hx5,hn5⟩;have hx05:=hx04.trans hx5;have g1:=(hx5.get (i:=H.next+1) oM).trans g1
  haveI:=hx05.hn;refine cR_f (zya1 (h.hx hx05).d (checkB_ok.1 hc) h.len h.nm (show s.size<=_ from hs) (hph.hx hx5)) ?_
  rintro r6 H6 ⟨⟨v2,l2,ll,rfl,hd⟩,hx6⟩;have hx06:=hx05.trans hx6;have g1:=(hx6.get (i:=H.next+1) oM).trans g1
  haveI:=hx06.hn;have hlo6:H6.lo=H.lo:=hx06.lo;have o2:=zbb (nn:=t.nx+1) (RdD.one hd.rd) hd.lv.one.1;have F:=J5 @g1 @zba @zea @zha @ld7;refine uT ?_;exact ⟨.inr ⟨_,v2,l2,ll,rfl,rfl,hd.put (HP.put _ _ _) g1 dC dC dC⟩,HX.put hx06 oM _⟩
 ·simp only [qd hr,reduceIte,qz3,qr2]
  have d1:decide (roomE t s≠0)=true:=qk hr;have F:=J7 @d1 @tb_bu @g1 @zba @zea @zha @ld7;refine uT ?_;exact dbad hx04 oM hr rfl
theorem zza1 {H:AH}[hn:HN H]{t:Tb}{v lv:AV}{l:List (AV×Rc)}{s to:ByteArray}(h:DbIn H t v lv l) (hs:s.size<=100000) (hto:to.size<=100000) :
  FnE lookM 78 [tbA t.nx v lv,.str s,.str to,.int .i64 1] H fun r H'=>DbR H' r (zsn t s to)/\HX H H':=by
 refine fI Tryz.f78 ?_;have hlo:=hn.lo;have e01:=hEq_f (oM:H.next≠H.next+1)
 have o1:=o0;have hsn:= @FnX.p _ _ _ _ (zyn s oM)
 have hv:= @FnX.p _ _ _ _ (ztk to oM)
 have hw1:wi 1 1 2147483648=true:=dC
 have F:=J4 @zba @zcb @zea @e01;refine uT ?_;refine cR_at (fun H1=>HX H H1/\H1.next=H.next+2/\H1.get H.next=some (tbx t.nx v lv)/\H1.get (H.next+1)=some (tbx 0 .nilSl .nilSl)) ?_ ?_
 ·exact ⟨hxt,rfl,by have F:=@e01;exact vT,zaa _⟩
 rintro H1 ⟨hx1,hn1,g0,g1⟩;haveI:=hx1.hn;refine cR_f (dchk (h.hx hx1)) ?_;rintro r2 H2 ⟨rfl,hx2⟩;have hx02:=hx1.trans hx2;have hn2:=hx2.next;have g0:=(hx2.get (i:=H.next) oM).trans g0
 have g1:=(hx2.get (i:=H.next+1) oM).trans g1
 haveI:=hx02.hn;have hlo2:H2.lo=H.lo:=hx02.lo;rw [zgu];cases hc:zvb t with
 |false =>
  rw [znr hc];have F:=J6 @tb_bu @g1 @zba @zea @zha @ld7;refine uX ?_;exact dbad hx02 oM dC rfl
 |true =>
 rw [zmr hc];unfold zkr;cases a1:snapB s with
 |false =>
  have F:=J8 @tb_bu @g1 @zba @zea @zha @ld7 @hsn @a1;refine uX ?_;exact dbad hx02 oM dC rfl
 |true =>
 cases a0:partB to with
 |false =>
  have F:=J10 @tb_bu @g1 @zba @zea @zha @ld7 @hsn @a1 @hv @a0;refine uX ?_;exact dbad hx02 oM dC rfl
 |true =>
 have F:=J8 @hsn @a1 @hv @a0 @d13 @hw1 @g0 @zea;refine uT ?_;refine cR_f (dfnd (h.hx hx02) s) ?_;rintro r3 H3 ⟨rfl,hx3⟩;have hx03:=hx02.trans hx3;have hn3:=hx3.next;have g0:=(hx3.get (i:=H.next) oM).trans g0
 have g1:=(hx3.get (i:=H.next+1) oM).trans g1
 haveI:=hx03.hn;have hlo3:H3.lo=H.lo:=hx03.lo;cases a2:hasB s t.rs with
 |false =>
  have F:=J6 @tb_bu @g1 @zba @zea @zha @ld7;refine uX ?_;exact dbad hx03 oM dC rfl
 |true =>
 obtain ⟨q1,q2⟩:=zza a2;have F:=J2 @g0 @zea;refine uT ?_;refine cR_f (zlr (h.hx hx03) to) ?_;rintro r4 H4 ⟨rfl,hx4⟩;have hx04:=hx03.trans hx4;have hn4:=hx4.next;have g0:=(hx4.get (i:=H.next) oM).trans g0
 have g1:=(hx4.get (i:=H.next+1) oM).trans g1
 haveI:=hx04.hn;have hlo4:H4.lo=H.lo:=hx04.lo;by_cases hr:roomE t to=0
 ·have h4:=h.hx hx04
  obtain ⟨p,hp,hp2,hph⟩:=h4.at q1;have hix:=ix44 (z:=44) (q:=fndI s t.rs) h4.d.rd.sl.is (by have:=h4.d.len;omega)
  have hld:=h4.d.rd.sl.agg hp;have hone:=zir hph.is;have e0n:=hEq_f (oM:H.next≠H4.next)
  have hbu:=cl_bu3 hph to (get t.rs (fndI s t.rs)).sz 1 (get t.rs (fndI s t.rs)).id;rw [← hp2] at hbu ⊢
  simp only [hr,reduceIte,qz3,qr2];have F:=J12 @g0 @tb_1 @zea @hix @hld @zpa @rc_0 @rc_3 @rc_5 @rc_ro @e0n @hbu;refine uT ?_;refine cR_at (fun H5=>HX H4 H5/\H5.next=H4.next+1) ?_ ?_
  ·exact ⟨hxt,rfl⟩
  rintro H5 ⟨hx5,hn5⟩;have hx05:=hx04.trans hx5;have g1:=(hx5.get (i:=H.next+1) oM).trans g1
  haveI:=hx05.hn;refine cR_f (zya1 (h.hx hx05).d (checkB_ok.1 hc) h.len h.nm (show to.size<=_ from hto) (hph.hx hx5)) ?_
  rintro r6 H6 ⟨⟨v2,l2,ll,rfl,hd⟩,hx6⟩;have hx06:=hx05.trans hx6;have g1:=(hx6.get (i:=H.next+1) oM).trans g1
  haveI:=hx06.hn;have hlo6:H6.lo=H.lo:=hx06.lo;have o2:=zbb (nn:=t.nx+1) (RdD.one hd.rd) hd.lv.one.1;have F:=J5 @g1 @zba @zea @zha @ld7;refine uT ?_;exact ⟨.inr ⟨_,v2,l2,ll,rfl,rfl,hd.put (HP.put _ _ _) g1 dC dC dC⟩,HX.put hx06 oM _⟩
 ·simp only [qd hr,reduceIte,qz3,qr2]
  have d1:decide (roomE t to≠0)=true:=qk hr;have F:=J7 @d1 @tb_bu @g1 @zba @zea @zha @ld7;refine uT ?_;exact dbad hx04 oM hr rfl
def nwB (s x:Rc):Bool:=decide (x.kd=2) && (decide (x.ow=s.ow) && zop x s)
theorem zab1 {f:Rc->Bool}{l:List Rc}{q:Nat}{r:Rc}(h:l[q]? =some r):(l.take (q+1)).any f=((l.take q).any f || f r):=by
 rw [qc4,h,qj3,List.any_append];simp
theorem any_at {f:Rc->Bool}{l:List Rc}{q:Nat}{r:Rc}(h:l[q]? =some r) (hf:f r=true):l.any f=true:=qw3.2 ⟨r,qy.2 ⟨q,h⟩,hf⟩
theorem ztf1 {H:AH}[hn:HN H]{nn:Int}{v lv:AV}{l:List (AV×Rc)}{s:AV×Rc}(hsl:SlRc H v l) (hlen:l.length<=1000000) (hs:IsSl H s.1 0) :
  FnE lookM 93 [tbA nn v lv,.agg (rcL s)] H fun r H'=>r= .bool (!(rcs l).any (nwB s.2))/\HX H H':=by
 refine fI Tryz.f93 ?_;have hlo:=hn.lo;have hl:=fun H'=>ztc (H':=H') uRs hsl.is
 have F:=J2 @zba @zpa;refine uT ?_;refine rc_at (fun H1=>HX H H1/\H1.next=H.next+2/\H1.get H.next=some (tbx nn v lv)/\H1.get (H.next+1)=some (rcb2 s)) ?_ ?_
 ·exact ⟨hxt,rfl,by rw [zah _ (oM:H.next≠H.next+1),zaa],zaa _⟩
 rintro H1 ⟨hx1,hn1,g0,g1⟩;haveI:=hx1.hn;refine rc_l (fun n T H'=> ∃q,n+q=l.length/\HX H1 H'/\((rcs l).take q).any (nwB s.2)=false/\gT T 2= .ptr H.next 0/\gT T 3= .ptr (H.next+1) 0/\gT T 5= .int .i64 q) l.length ?_ ?_
 ·exact ⟨0,rfl,HX.refl _,by simp,vT0,vT0,by refine uT0 ?_;rfl⟩
 rintro n T H2 ⟨q,hnq,hx2,hall,t2,t3,t5⟩;have hx02:=hx1.trans hx2;have g0:=(hx2.get oM).trans g0
 have g1:=(hx2.get oM).trans g1
 haveI:=hx02.hn;have hn2:=hx2.next;have hlo2:H2.lo<=H2.next:=HN.lo;cases n with
 |zero =>
  rw [qx (by rw [zjb];omega)] at hall
  rw [hall];have F:=J6 @t2 @t3 @t5 @g0 @tb_1 @hl;refine uT ?_;exact hx02
 |succ n =>
  have hq:q<l.length:=oM
  obtain ⟨p,hk⟩:∃p,l[q]? =some p:=⟨_,qo hq⟩
  have hk2:(rcs l)[q]? =some p.2:=by rw [qh1,hk];rfl
  have hix:=ix44 (z:=44) (q:=q) hsl.is hq;have hld:=(hsl.hx hx02).agg hk;have hp1:=zir (hsl.holeAt hk);have e1:=hEq_f (oM:H.next+1≠H2.next)
  have e0:=hEq_f (oM:H.next≠H2.next)
  have yes:nwB s.2 p.2=true-> ∀H',HX H H'->AV.bool false= .bool (!(rcs l).any (nwB s.2))/\HX H H':=fun h H' hx'=>⟨by rw [any_at hk2 h];rfl,hx'⟩
  have no:nwB s.2 p.2=false-> ∀H',HX H1 H'-> ∃n',n'<n+1/\ ∃q',n'+q'=l.length/\HX H1 H'/\((rcs l).take q').any (nwB s.2)=false/\AV.int .i64 ((q:Int)+1)= .int .i64 (q':Int):=fun h H' hx'=>⟨n,oM,q+1,oM,hx',by rw [zab1 hk2,hall,h];rfl,by push_cast;rfl⟩
  have en:zop p.2 s.2=(decide (s.2.md<p.2.md) || (decide (p.2.md=s.2.md) && decide (s.2.id<p.2.id))):=rfl;unfold nwB at yes no;rw [en] at yes no;cases a1:decide (p.2.kd=2) with
  |false=>rw [a1] at no;have F:=J14 @t2 @t3 @t5 @g0 @g1 @e0 @e1 @tb_1 @hl @hix @hld @zpa @rc_2 @a1;refine uT ?_;exact no rfl _ (by have K:=hx2;exact hxk)
  |true =>
  cases a2:decide (p.2.ow=s.2.ow) with
  |false=>rw [a1,a2] at no;have F:=J16 @t2 @t3 @t5 @g0 @g1 @e0 @e1 @tb_1 @hl @hix @hld @zpa @rc_2 @rc_40 @a1 @a2;refine uT ?_;exact no rfl _ (by have K:=hx2;exact hxk)
  |true =>
  cases a3:decide (s.2.md<p.2.md) with
  |true=>rw [a1,a2,a3] at yes;have F:=J16 @t2 @t3 @t5 @g0 @g1 @e0 @e1 @tb_1 @hl @hix @hld @zpa @rc_2 @rc_40 @rc_39 (J3 @a1 @a2 @a3);refine uT ?_;exact yes rfl _ (by have K:=hx02;exact hxk)
  |false =>
  cases a4:decide (p.2.md=s.2.md) with
  |false=>rw [a1,a2,a3,a4] at no;have F:=J16 @t2 @t3 @t5 @g0 @g1 @e0 @e1 @tb_1 @hl @hix @hld @zpa @rc_2 @rc_40 @rc_39 (J4 @a1 @a2 @a3 @a4);refine uT ?_;exact no rfl _ (by have K:=hx2;exact hxk)
  |true =>
  cases a5:decide (s.2.id<p.2.id) with
  |false=>rw [a1,a2,a3,a4,a5] at no;have F:=J16 @t2 @t3 @t5 @g0 @g1 @e0 @e1 @tb_1 @hl @hix @hld @zpa @rc_0 @rc_2 @rc_40 (J6 @rc_39 @a1 @a2 @a3 @a4 @a5);refine uT ?_;exact no rfl _ (by have K:=hx2;exact hxk)
  |true=>rw [a1,a2,a3,a4,a5] at yes;have F:=J16 @t2 @t3 @t5 @g0 @g1 @e0 @e1 @tb_1 @hl @hix @hld @zpa @rc_0 @rc_2 @rc_40 (J6 @rc_39 @a1 @a2 @a3 @a4 @a5);refine uT ?_;exact yes rfl _ (by have K:=hx02;exact hxk)
theorem busy_ok {H:AH}[hn:HN H]{nn id:Int}{v lv:AV}{l:List (AV×Rc)}(hsl:SlRc H v l) (hlen:l.length<=1000000) :
  FnE lookM 96 [tbA nn v lv,.int .i64 id] H fun r H'=>r= .bool ((rcs l).any (drp id))/\HX H H':=by
 refine fI Tryz.f96 ?_;have hl:=fun H'=>ztc (H':=H') uRs hsl.is
 have hx1:HX H (H.new (tbx nn v lv)):=HX.new _ _;have F:=@zba;refine uT ?_;refine rc_l (fun n T H'=> ∃q,n+q=l.length/\H'=H.new (tbx nn v lv)/\((rcs l).take q).any (drp id)=false/\gT T 1= .int .i64 id/\gT T 2= .ptr H.next 0/\gT T 5= .int .i64 q) l.length ?_ ?_
 ·exact ⟨0,rfl,rfl,by simp,vT0,vT0,by refine uT0 ?_;rfl⟩
 rintro n T H' ⟨q,hnq,rfl,hall,t1,t2,t5⟩;cases n with
 |zero =>
  rw [qx (by rw [zjb];omega)] at hall
  rw [hall];have F:=J5 @t1 @t2 @t5 @tb_1 @hl;refine uT ?_;exact hx1
 |succ n =>
  have hq:q<l.length:=oM
  obtain ⟨p,hk⟩:∃p,l[q]? =some p:=⟨_,qo hq⟩
  have hk2:(rcs l)[q]? =some p.2:=by rw [qh1,hk];rfl
  have hix:=ix44 (z:=44) (q:=q) hsl.is hq;have hf0:=fa_el hsl.is hq 44 40;have hf1:=fa_el hsl.is hq 44 41;have hl0:=(hsl.hx hx1).fld hk (j:=40) (x:=.int .i64 p.2.ow) rfl;have hl1:=(hsl.hx hx1).fld hk (j:=41) (x:=.int .i64 p.2.og) rfl;have yes:drp id p.2=true->AV.bool true= .bool ((rcs l).any (drp id)):=fun h=>by rw [any_at hk2 h]
  have no:drp id p.2=false-> ∃n',n'<n+1/\ ∃q',n'+q'=l.length/\((rcs l).take q').any (drp id)=false/\AV.int .i64 ((q:Int)+1)= .int .i64 (q':Int):=fun h=>⟨n,oM,q+1,oM,by rw [zab1 hk2,hall,h];rfl,by push_cast;rfl⟩
  unfold drp at yes no;cases a1:decide (p.2.ow=id) with
  |true =>
   rw [a1] at yes;have F:=J9 @t1 @t2 @t5 @tb_1 @hl @hix @hf0 @hl0 @a1;refine uT ?_;exact ⟨yes rfl,hx1⟩
  |false =>
   cases a2:decide (p.2.og=id) with
   |true =>
    rw [a1,a2] at yes;have F:=J12 @t1 @t2 @t5 @tb_1 @hl @hix @hf0 @hl0 @hf1 @hl1 @a1 @a2;refine uT ?_;exact ⟨yes rfl,hx1⟩
   |false =>
    rw [a1,a2] at no;have F:=J12 @t1 @t2 @t5 @tb_1 @hl @hix @hf0 @hl0 @hf1 @hl1 @a1 @a2;refine uT ?_;exact no rfl
theorem OwD.st {H:AH}[hn:HN H]{j N k f t:Nat}{op:Bool}{l:List (AV×Rc)}{p p':AV×Rc}{x:AV}(h:OwD H (.sl j 0 l.length l.length op) l N) (hk:l[k]? =some p) (hf:f<44) (hset:(rcL p).set f x=rcL p') (hp:p'.1=p.1) (hs:lookM.size t=some 1) (hx:x.oneCell=true) (hlo:H.lo<=j) :
  ∃H',st1 lookM t (.ptr j (k*44+f)) x H=some H'/\OwD H' (.sl j 0 l.length l.length op) (l.set k p') N/\HP (·≠ j) H H':=by
 have hlt:=(qp.1 hk).1;obtain ⟨c0,⟨h1,_⟩|⟨j',op',h1,hr,hN,hj,hop⟩⟩:=h.own
 ·cases h1
 cases h1
 have hl:k*44+f<(encC rcL l).length:=by rw [c0];have:(k+1)*44<=l.length*44:=qd2 44 hlt;omega
 obtain ⟨H',w1,w2,w3,w4⟩:=Row.st1 (L:=lookM) (t:=t) (k:=k*44+f) (v:=x) hr hn.hide hlo hs hx hl;rw [zwh zra hk hf hset] at w2;have hll:(l.set k p').length=l.length:=qj2;refine ⟨H',w1,⟨⟨by rw [zmc zra],.inr ⟨j,op,by rw [hll],w2,hN,oM,by rw [hll];exact hop⟩⟩,fun y hy=> ?_⟩,w3⟩
 have hy':HoD H y.1:=by
  rcases qu6 hy with hy|hy
  ·exact h.ho y hy
  ·subst hy
   rw [hp];exact h.ho p (qy.2 ⟨k,hk⟩)
 obtain ⟨cc,hg,_⟩:=hr;exact hy'.put w3 fun cc' op' ro e=>by rw [hg] at e;cases e
theorem zuf1 {l:List (AV×Rc)}{k:Nat}{p:AV×Rc}(hk:l[k]? =some p) (a:AV):(encC rcL l).take (k*44+4) ++ roL a ++ (encC rcL l).drop (k*44+4+35)=encC rcL (l.set k (a,p.2)):=by
 have hlt:=(qp.1 hk).1;rw [← zsz zra (a,p.2) hlt];have h1:=zof zra hk;have e1:(encC rcL l).take (k*44+4)=(encC rcL l).take (k*44) ++ (rcL p).take 4:=by
  rw [qt7,← h1,qh5];rfl
 have e2:(encC rcL l).drop (k*44+4+35)=(rcL p).drop 39 ++ (encC rcL l).drop (k*44+44):=by
  have h2:(encC rcL l).drop (k*44)=rcL p ++ (encC rcL l).drop (k*44+44):=by
   rw [← h1,← qq3,qo4]
  have h3:(encC rcL l).drop (k*44+4+35)=((encC rcL l).drop (k*44)).drop 39:=by rw [qq3]
  rw [h3,h2,qe6 (by rw [zra];omega)]
 rw [e1,e2];have e3:rcL (a,p.2)=(rcL p).take 4 ++ roL a ++ (rcL p).drop 39:=rfl;rw [e3];simp only [qi1]
theorem OwD.str {H:AH}[hn:HN H]{j N k:Nat}{op:Bool}{l:List (AV×Rc)}{p:AV×Rc}{a:AV}(h:OwD H (.sl j 0 l.length l.length op) l N) (hk:l[k]? =some p) (ha:HoD H a) (hlo:H.lo<=j) :
  ∃H',stN 35 (.ptr j (k*44+4)) (roA a) H=some H'/\OwD H' (.sl j 0 l.length l.length op) (l.set k (a,p.2)) N/\HP (·≠ j) H H':=by
 have hlt:=(qp.1 hk).1;obtain ⟨c0,⟨h1,_⟩|⟨j',op',h1,hr,hN,hj,hop⟩⟩:=h.own
 ·cases h1
 cases h1
 have hcl:(roA a).cells=roL a:=by rcases ha.is with ⟨rfl,_⟩|⟨i,o,c,op,rfl,_⟩<;>rfl
 have hon:(roA a).toC.one=true:=by rw [zlw ha.is];show (roL a).all AV.oneCell=true;rcases ha.is with ⟨rfl,_⟩|⟨i,o,c,op,rfl,_⟩<;>rfl
 obtain ⟨H',w1,w2,w3,w4⟩:=Row.stN (L:=lookM) (t:=0) (s:=35) (k:=k*44+4) (v:=roA a) hr hn.hide hlo (by rw [hcl,ztz]) hon (by rw [c0];have:(k+1)*44<=l.length*44:=qd2 44 hlt;omega)
 rw [hcl,zuf1 hk] at w2;have hll:(l.set k (a,p.2)).length=l.length:=qj2;refine ⟨H',w1,⟨⟨by rw [zmc zra],.inr ⟨j,op,by rw [hll],w2,hN,oM,by rw [hll];exact hop⟩⟩,fun y hy=> ?_⟩,w3⟩
 have hy':HoD H y.1:=by
  rcases qu6 hy with hy|hy
  ·exact h.ho y hy
  ·subst hy;exact ha
 obtain ⟨cc,hg,_⟩:=hr;exact hy'.put w3 fun cc' op' ro e=>by rw [hg] at e;cases e
theorem OwD.ldr {H:AH}{j N k:Nat}{op:Bool}{l:List (AV×Rc)}{p:AV×Rc}(h:OwD H (.sl j 0 l.length l.length op) l N) (hk:l[k]? =some p):sbB (H.get j) (k*44+4) 35=some (roA p.1):=by
 have hlt:=(qp.1 hk).1;obtain ⟨c0,⟨h1,_⟩|⟨j',op',h1,hr,hN,hj,hop⟩⟩:=h.own
 ·cases h1
 cases h1
 obtain ⟨c,e1,e2⟩:=hr.rdN (o:=k*44+4) (s:=35) (by rw [c0];have:(k+1)*44<=l.length*44:=qd2 44 hlt;omega)
 rw [ldN_q] at e1;rw [e1];have h2:((encC rcL l).drop (k*44+4)).take 35=roL p.1:=by
  have h1:=zof zra hk;have:((((encC rcL l).drop (k*44)).take 44).drop 4).take 35=roL p.1:=by rw [h1];rfl
  rw [qd7,qh5,qq3] at this;exact this
 rw [h2] at e2;have hh:=(h.ho p (qy.2 ⟨k,hk⟩)).is;rw [zuy (x:=p.1) (l:=(roL p.1).tail) (by rw [e2];rfl) (fun n hn=>by rcases hh with ⟨h,_⟩|⟨i,o,c,op,h,_⟩<;>(rw [h] at hn;cases hn))]
 rfl
theorem OwD.ld {H:AH}{j N k f:Nat}{op:Bool}{l:List (AV×Rc)}{p:AV×Rc}{x:AV}(h:OwD H (.sl j 0 l.length l.length op) l N) (hk:l[k]? =some p) (hx:(rcL p)[f]? =some x):rdB (H.get j) (k*44+f)=some x:=by
 have hf:f<44:=by have:=(qp.1 hx).1;rwa [zra] at this
 obtain ⟨c0,⟨h1,_⟩|⟨j',op',h1,hr,hN,hj,hop⟩⟩:=h.own
 ·cases h1
 cases h1
 have:=hr.rd (k:=k*44+f) (v:=x) (by rw [zri zra hk hf];exact hx)
 rwa [ld1_q] at this
theorem OwD.sl_of {H:AH}{v:AV}{l:List (AV×Rc)}{N:Nat}(h:OwD H v l N) (hl:0<l.length):∃j op,v= .sl j 0 l.length l.length op/\N<=j/\j<H.next/\ ∃cc,H.get j=some (.cells cc 84 44 op false):=by
 rcases h.own.2 with ⟨_,h0⟩|⟨j,op,rfl,⟨cc,hg,_⟩,hN,hj,_⟩
 ·omega
 ·exact ⟨j,op,rfl,hN,hj,cc,hg⟩
theorem OwD.tbd {H:AH}{t:Tb}{v lv:AV}{l:List (AV×Rc)}{N M:Nat}(h:OwD H v l N) (he:rcs l=t.rs) (hl:OwL H lv M):TbD H t v lv l:=⟨h.rd,he,OwL.lvd hl⟩
theorem zwk (l:List (AV×Rc)) (k:Nat) (p:AV×Rc):rcs (l.set k p)=(rcs l).set k p.2:=by
 show (l.set k p).map _=(l.map _).set k _
 rw [List.map_set]
set_option maxHeartbeats 16000000 in
theorem zvf1 {H:AH}[hn:HN H]{t:Tb}{v lv:AV}{l:List (AV×Rc)}{s:ByteArray}(h:DbIn H t v lv l) (hs:s.size<=100000) :
  FnE lookM 79 [tbA t.nx v lv,.str s] H fun r H'=>DbR H' r (rollT t s)/\HX H H':=by
 refine fI Tryz.f79 ?_;have hlo:=hn.lo;have e01:=hEq_f (oM:H.next≠H.next+1)
 have o1:=o0;have hsp:= @FnX.p _ _ _ _ (zue s oM)
 have F:=J5 @zba @zcb @zea @e01 @hsp;refine uT ?_;refine cR_at (fun H1=>HX H H1/\H1.next=H.next+2/\H1.get H.next=some (tbx t.nx v lv)/\H1.get (H.next+1)=some (tbx 0 .nilSl .nilSl)) ?_ ?_
 ·exact ⟨hxt,rfl,by have F:=@e01;exact vT,zaa _⟩
 rintro H1 ⟨hx1,hn1,g0,g1⟩;haveI:=hx1.hn;refine cR_f (dchk (h.hx hx1)) ?_;rintro r2 H2 ⟨rfl,hx2⟩;have hx02:=hx1.trans hx2;have hn2:=hx2.next;have g0:=(hx2.get (i:=H.next) oM).trans g0
 have g1:=(hx2.get (i:=H.next+1) oM).trans g1
 haveI:=hx02.hn;have hlo2:H2.lo=H.lo:=hx02.lo;rw [zta1];cases hc:zvb t with
 |false =>
  rw [znr hc];have F:=J6 @tb_bu @g1 @zba @zea @zha @ld7;refine uX ?_;exact dbad hx02 oM dC rfl
 |true =>
 have hk:=checkB_ok.1 hc;rw [zmr hc];unfold rollO;cases a1:snapB s with
 |false =>
  have F:=J7 @tb_bu @g1 @zba @zea @zha @ld7 @a1;refine uX ?_;exact dbad hx02 oM dC rfl
 |true =>
 have F:=J3 @a1 @g0 @zea;refine uT ?_;refine cR_f (dfnd (h.hx hx02) s) ?_;rintro r3 H3 ⟨rfl,hx3⟩;have hx03:=hx02.trans hx3;have hn3:=hx3.next;have g0:=(hx3.get (i:=H.next) oM).trans g0
 have g1:=(hx3.get (i:=H.next+1) oM).trans g1
 haveI:=hx03.hn;have hlo3:H3.lo=H.lo:=hx03.lo;cases a2:hasB s t.rs with
 |false =>
  have F:=J6 @tb_bu @g1 @zba @zea @zha @ld7;refine uX ?_;exact dbad hx03 oM dC rfl
 |true =>
 obtain ⟨q1,q2⟩:=zza a2;have h3:=h.hx hx03;obtain ⟨p,hp,hp2,hph⟩:=h3.at q1;have hix:=ix44 (z:=44) (q:=fndI s t.rs) h3.d.rd.sl.is (by have:=h3.d.len;omega)
 have hld:=h3.d.rd.sl.agg hp;have F:=J5 @g0 @zea @tb_1 @hix @hld;refine uT ?_;refine cR_f (ztf1 h3.d.rd.sl (by have:=h3.ll;omega) hph.is) ?_
 rintro r4 H4 ⟨rfl,hx4⟩;have hx04:=hx03.trans hx4;have hn4:=hx4.next;have g0:=(hx4.get (i:=H.next) oM).trans g0
 have g1:=(hx4.get (i:=H.next+1) oM).trans g1
 haveI:=hx04.hn;have hlo4:H4.lo=H.lo:=hx04.lo;have eany:(rcs l).any (nwB p.2)=t.rs.any (rb11 (get t.rs (fndI s t.rs))):=by
  rw [hp2,h.d.eq];have:=zxm1 hk a1 a2;exact this.symm
 rw [eany];cases a3:t.rs.any (rb11 (get t.rs (fndI s t.rs))) with
 |true =>
  have F:=J6 @tb_bu @g1 @zba @zea @zha @ld7;refine uT ?_;exact dbad hx04 oM dC rfl
 |false =>
 have F:=J2 @g0 @zea;refine uX ?_;refine cR_f (dfnd (h.hx hx04) (splA s)) ?_;rintro r5 H5 ⟨rfl,hx5⟩;have hx05:=hx04.trans hx5;have hn5:=hx5.next;have g0:=(hx5.get (i:=H.next) oM).trans g0
 have g1:=(hx5.get (i:=H.next+1) oM).trans g1
 haveI:=hx05.hn;have hlo5:H5.lo=H.lo:=hx05.lo;have F:=J2 @g0 @zea;refine uT ?_;refine cR_f (zvk (h.hx hx05).d h.ll) ?_;rintro r6 H6 ⟨⟨v6,lv6,l6,rfl,hr6,hl6,hod6,hol6⟩,hx6⟩;have hx06:=hx05.trans hx6;have hn6:=hx6.next;have g1:=(hx6.get (i:=H.next+1) oM).trans g1
 haveI:=hx06.hn;have hlo6:H6.lo=H.lo:=hx06.lo;have hll:=h.d.len;have hlpos:0<l6.length:=oM
 have q3:fndI (splA s) t.rs<t.rs.length:=zlj1 oM
 have o6:=zbb (nn:=t.nx) (v:=v6) (lv:=lv6) (OwnS.one hod6.own).1 (OwnS.one hol6).1;obtain ⟨pi,hpi⟩:∃p,l6[fndI s t.rs]? =some p:=⟨_,qo oM⟩
 obtain ⟨pk,hpk⟩:∃p,l6[fndI (splA s) t.rs]? =some p:=⟨_,qo oM⟩
 have he6:rcs l6=t.rs:=hr6.trans h.d.eq;have hgi:pi.2=get t.rs (fndI s t.rs):=by have:=zti hpi;rw [he6] at this;exact this.symm
 have hgk:pk.2=get t.rs (fndI (splA s) t.rs):=by have:=zti hpk;rw [he6] at this;exact this.symm
 obtain ⟨j,op,rfl,hNj,hj,cc,hgj⟩:=hod6.sl_of hlpos;have hod7:OwD ((H6.new (tbx 0 .nilSl .nilSl)).put H6.next (tbx t.nx (.sl j 0 l6.length l6.length op) lv6)) (.sl j 0 l6.length l6.length op) l6 H5.next:=hod6.hx (hxt);have hx7:HX H6 ((H6.new (tbx 0 .nilSl .nilSl)).put H6.next (tbx t.nx (.sl j 0 l6.length l6.length op) lv6)):=hxt;have g7:((H6.new (tbx 0 .nilSl .nilSl)).put H6.next (tbx t.nx (.sl j 0 l6.length l6.length op) lv6)).get H6.next=some (tbx t.nx (.sl j 0 l6.length l6.length op) lv6):=zia _ _;have hn7:((H6.new (tbx 0 .nilSl .nilSl)).put H6.next (tbx t.nx (.sl j 0 l6.length l6.length op) lv6)).next=H6.next+1:=rfl
 have hh7:HN ((H6.new (tbx 0 .nilSl .nilSl)).put H6.next (tbx t.nx (.sl j 0 l6.length l6.length op) lv6)):=inferInstance;have hol7:=OwnS.hx hol6 hx7;have hix1:ixS 44 (.sl j 0 l6.length l6.length op) (.int .i64 (fndI s t.rs:Nat))=some (elA 44 (.sl j 0 l6.length l6.length op) (fndI s t.rs)):=ix44 (H:=H6) hod6.rd.sl.is oM
 have hix2:ixS 44 (.sl j 0 l6.length l6.length op) (.int .i64 (fndI (splA s) t.rs:Nat))=some (elA 44 (.sl j 0 l6.length l6.length op) (fndI (splA s) t.rs)):=ix44 (H:=H6) hod6.rd.sl.is oM
 have hl60:H6.lo<=H6.next:=HN.lo;have F:=J3 @zcb @zba @zha;refine uT ?_;generalize ((H6.new (tbx 0 .nilSl .nilSl)).put H6.next (tbx t.nx (.sl j 0 l6.length l6.length op) lv6))=H7 at *
 have hlo7:H7.lo=H.lo:=hx7.lo.trans hlo6;have d3:=hod7.ld hpi (f:=3) (x:=.int .i64 pi.2.sz) rfl;obtain ⟨H8,w1,hod8,w3⟩:=hod7.st (t:=3) (x:=.int .i64 pi.2.sz) hpk (oM:3<44) (p':=(pk.1,{pk.2 with sz:=pi.2.sz})) rfl rfl sz3i rfl oM
 have hll8:(l6.set (fndI (splA s) t.rs) (pk.1,{pk.2 with sz:=pi.2.sz})).length=l6.length:=qj2
 haveI hh8:HN H8:=w3.hn;have hlo8:H8.lo=H.lo:=w3.lo.trans hlo7;have hne:H6.next≠j:=oM
 have g8:=(w3.get (i:=H6.next) oM hne).trans g7
 have hol8:OwL H8 lv6 H5.next:=OwnS.hq hol7 w3 fun j' o n c op' he=>by
  intro e;subst e;have:=(hx7.get hj).trans hgj;exact OwnS.ne hol7 this dC _ _ _ _ he
 rw [← hll8] at hod8;obtain ⟨pi8,hpi8⟩:∃p,(l6.set (fndI (splA s) t.rs) (pk.1,{pk.2 with sz:=pi.2.sz}))[fndI s t.rs]? =some p:=⟨_,qo (by rw [hll8];omega)⟩
 have hpk8:(l6.set (fndI (splA s) t.rs) (pk.1,{pk.2 with sz:=pi.2.sz}))[fndI (splA s) t.rs]? =some (pk.1,{pk.2 with sz:=pi.2.sz}):=qk4 oM
 have d4:=hod8.ldr hpi8;have hha8:=hod8.ho pi8 (qy.2 ⟨_,hpi8⟩);obtain ⟨H9,x1,hod9,x3⟩:=hod8.str hpk8 hha8 oM
 haveI hh9:HN H9:=x3.hn;have hlo9:H9.lo=H.lo:=x3.lo.trans hlo8;have g9:=(x3.get (i:=H6.next) (by have:=w3.next;omega) hne).trans g8
 have hol9:OwL H9 lv6 H5.next:=OwnS.hq hol8 x3 fun j' o n c op' he=>by
  intro e;subst e;have:=((hx7.get hj).trans hgj);exact OwnS.ne hol7 this dC _ _ _ _ he
 have hx09:HX H H9:=HX.hp2 (HX.hp2 (hx06.trans hx7) w3 fun i hi=>oM) x3 fun i hi=>oM
 have g1:=(x3.get (i:=H.next+1) (by have:=w3.next;omega) oM).trans ((w3.get (i:=H.next+1) oM oM).trans ((hx7.get (i:=H.next+1) oM).trans g1))
 rw [hll8] at hod9;have F:=J11 @g7 @tb_1 @hix1 @hix2 @d3 @w1 @g8 @d4 @x1 @g9 @zea;refine uT ?_;have hd9:TbD H9 ⟨t.nx,setSz t.rs (fndI (splA s) t.rs) (get t.rs (fndI s t.rs)).sz⟩ (.sl j 0 l6.length l6.length op) lv6 _:=hod9.tbd (by
  rw [zwk,zwk,List.set_set,he6,hgk,hgi];rfl) hol9
 refine cR_f (zvk (t:=⟨t.nx,setSz t.rs (fndI (splA s) t.rs) (get t.rs (fndI s t.rs)).sz⟩) hd9 (by rw [qj2,qj2];have:=h.ll;omega)) ?_
 rintro r10 H10 ⟨⟨v10,lv10,l10,rfl,hr10,hl10,hod10,hol10⟩,hx10⟩;have hx010:=hx09.trans hx10;have hn9:=hx09.next;have g1:=(hx10.get (i:=H.next+1) (by have:=x3.next;have:=w3.next;omega)).trans g1
 haveI:=hx010.hn;have hlo10:H10.lo=H.lo:=hx010.lo;have o10:=zbb (nn:=t.nx) (v:=v10) (lv:=lv10) (OwnS.one hod10.own).1 (OwnS.one hol10).1;have F:=J5 @g1 @zba @zea @zha @ld7;refine uT ?_;have hd10:TbD H10 ⟨t.nx,setSz t.rs (fndI (splA s) t.rs) (get t.rs (fndI s t.rs)).sz⟩ v10 lv10 l10:=hod10.tbd (hr10.trans hd9.eq) hol10;exact ⟨.inr ⟨_,v10,lv10,l10,rfl,rfl,hd10.put (HP.put _ _ _) g1 dC dC dC⟩,HX.put hx010 oM _⟩
set_option maxHeartbeats 16000000 in
theorem zwf1 {H:AH}[hn:HN H]{t:Tb}{v lv:AV}{l:List (AV×Rc)}{s:ByteArray}(h:DbIn H t v lv l) (hs:s.size<=100000) :
  FnE lookM 80 [tbA t.nx v lv,.str s] H fun r H'=>DbR H' r (dropT t s)/\HX H H':=by
 refine fI Tryz.f80 ?_;have hlo:=hn.lo;have hlen:=h.len;have e01:=hEq_f (oM:H.next≠H.next+1)
 have o1:=o0;have hnm:= @FnX.p _ _ _ _ (zlu s oM)
 have F:=J4 @zba @zcb @zea @e01;refine uT ?_;refine cR_at (fun H1=>HX H H1/\H1.next=H.next+2/\H1.get H.next=some (tbx t.nx v lv)/\H1.get (H.next+1)=some (tbx 0 .nilSl .nilSl)) ?_ ?_
 ·exact ⟨hxt,rfl,by have F:=@e01;exact vT,zaa _⟩
 rintro H1 ⟨hx1,hn1,g0,g1⟩;haveI:=hx1.hn;refine cR_f (dchk (h.hx hx1)) ?_;rintro r2 H2 ⟨rfl,hx2⟩;have hx02:=hx1.trans hx2;have hn2:=hx2.next;have g0:=(hx2.get (i:=H.next) oM).trans g0
 have g1:=(hx2.get (i:=H.next+1) oM).trans g1
 haveI:=hx02.hn;have hlo2:H2.lo=H.lo:=hx02.lo;rw [zua1];cases hc:zvb t with
 |false =>
  rw [znr hc];have F:=J6 @tb_bu @g1 @zba @zea @zha @ld7;refine uX ?_;exact dbad hx02 oM dC rfl
 |true =>
 rw [zmr hc];unfold dropO;cases a1:partB s || snapB s with
 |false =>
  have F:=J8 @tb_bu @g1 @zba @zea @zha @ld7 @hnm @a1;refine uX ?_;exact dbad hx02 oM dC rfl
 |true =>
 have F:=J4 @hnm @a1 @g0 @zea;refine uT ?_;refine cR_f (dfnd (h.hx hx02) s) ?_;rintro r3 H3 ⟨rfl,hx3⟩;have hx03:=hx02.trans hx3;have hn3:=hx3.next;have g0:=(hx3.get (i:=H.next) oM).trans g0
 have g1:=(hx3.get (i:=H.next+1) oM).trans g1
 haveI:=hx03.hn;have hlo3:H3.lo=H.lo:=hx03.lo;cases a2:hasB s t.rs with
 |false =>
  have F:=J6 @tb_bu @g1 @zba @zea @zha @ld7;refine uX ?_;exact dbad hx03 oM dC rfl
 |true =>
 obtain ⟨q1,q2⟩:=zza a2;have h3:=h.hx hx03;obtain ⟨p,hp,hp2,hph⟩:=h3.at q1;have hll:=h3.d.len;have hix:=ix44 (z:=44) (q:=fndI s t.rs) h3.d.rd.sl.is oM
 have hfa:=fa_el h3.d.rd.sl.is (oM:fndI s t.rs<l.length) 44 0
 have hld:=h3.d.rd.sl.fld hp (j:=0) (x:=.int .i64 p.2.id) rfl;have F:=J6 @g0 @zea @tb_1 @hix @hfa @hld;refine uT ?_;refine cR_f (busy_ok h3.d.rd.sl (by have:=h3.ll;omega)) ?_
 rintro r4 H4 ⟨rfl,hx4⟩;have hx04:=hx03.trans hx4;have hn4:=hx4.next;have g0:=(hx4.get (i:=H.next) oM).trans g0
 have g1:=(hx4.get (i:=H.next+1) oM).trans g1
 haveI:=hx04.hn;have hlo4:H4.lo=H.lo:=hx04.lo;rw [h.d.eq,hp2];cases a3:t.rs.any (drp (get t.rs (fndI s t.rs)).id) with
 |true =>
  have F:=J6 @tb_bu @g1 @zba @zea @zha @ld7;refine uT ?_;exact dbad hx04 oM dC rfl
 |false =>
 have F:=J2 @g0 @zea;refine uX ?_;refine cR_f (zvk (h.hx hx04).d h.ll) ?_;rintro r6 H6 ⟨⟨v6,lv6,l6,rfl,hr6,hl6,hod6,hol6⟩,hx6⟩;have hx06:=hx04.trans hx6;have hn6:=hx6.next;have g1:=(hx6.get (i:=H.next+1) oM).trans g1
 haveI:=hx06.hn;have hlo6:H6.lo=H.lo:=hx06.lo;have hlpos:0<l6.length:=oM
 have o6:=zbb (nn:=t.nx) (v:=v6) (lv:=lv6) (OwnS.one hod6.own).1 (OwnS.one hol6).1;have he6:rcs l6=t.rs:=hr6.trans h.d.eq;obtain ⟨j,op,rfl,hNj,hj,cc,hgj⟩:=hod6.sl_of hlpos;have hop:op=true:=by
  rcases hod6.own.2 with ⟨hx,_⟩|⟨j',op',hx,_,_,_,hop⟩
  ·cases hx
  ·cases hx;exact hop oM
 subst hop;have hl60:H6.lo<=H6.next:=HN.lo;have s1:zua lookM 49 false true true [.sl j 0 l6.length l6.length true,.int .i64 (fndI s t.rs:Nat),.int .i64 (fndI s t.rs:Nat)]=some (.sl j 0 (fndI s t.rs) (fndI s t.rs) false):=by
  show zgb lookM 49 (.sl j 0 l6.length l6.length true) none (some (.int .i64 (fndI s t.rs:Nat))) (some (.int .i64 (fndI s t.rs:Nat)))=_
  unfold zgb;simp only [maxOk,bndOf,uRs,sz3,natOf];rw [show Nat.ble 0 (fndI s t.rs)=true from qe (qo2 _),show Nat.ble (fndI s t.rs) (fndI s t.rs)=true from qe (qn _),show Nat.ble (fndI s t.rs) l6.length=true from qe oM]
  show some (AV.sl j (offOf (fndI s t.rs) 0 0 44) ((fndI s t.rs) - 0) ((fndI s t.rs) - 0) false)=_
  have:offOf (fndI s t.rs) 0 0 44=0:=by unfold offOf;split<;>rfl
  rw [this];rfl
 have s2:=zfo1 (L:=lookM) uRs sz3 j l6.length (fndI s t.rs+1) oM
 have hk1:((fndI s t.rs+1:Nat):Int)=(fndI s t.rs:Int)+1:=by push_cast;rfl
 rw [hk1] at s2;have F:=J6 @zcb @zba @zha @tb_1 @s1 @s2;refine uT ?_;refine znw (fun H7=>HX H6 H7/\H6.next<H7.next/\H7.get H6.next=some (tbx t.nx (.sl j 0 l6.length l6.length true) lv6)) ?_ ?_
 ·exact ⟨hxt,qd1 _,zia _ _⟩
 rintro H7 ⟨hx7,hn7,g7⟩;have hx07:=hx06.trans hx7;have hod7:=hod6.hx hx7;have hol7:=OwnS.hx hol6 hx7;have g1:=(hx7.get (i:=H.next+1) oM).trans g1
 haveI:=hx07.hn;have hlo7:H7.lo=H.lo:=hx07.lo;generalize hk:fndI s t.rs=k at *
 have hkl:k<l6.length:=oM
 have c0:=hod7.own.1;have hr7:Row H7 j false true 84 44 (encC rcL l6):=by
  rcases hod7.own.2 with ⟨hx,_⟩|⟨j',op',hx,hr,_⟩
  ·cases hx
  ·cases hx;exact hr
 have hel:(l6.eraseIdx k).length+1=l6.length:=by rw [List.length_eraseIdx_of_lt hkl];omega
 have htk:(l6.take k) ++ l6.drop (k+1)=l6.eraseIdx k:=by rw [qi5]
 have hho:∀{H8:AH},(∀q,HoD H7 q->HoD H8 q)-> ∀q,q∈l6.eraseIdx k->HoD H8 q.1:=fun hf q hq=>hf _ (hod7.ho q (List.mem_of_mem_eraseIdx hq))
 have heq:rcs (l6.eraseIdx k)=t.rs.eraseIdx k:=by
  rw [← he6];show (l6.eraseIdx k).map _=(l6.map _).eraseIdx k
  rw [qi5,qi5,qe3,qk5,ql5]
 obtain ⟨v8,H8,a1',hx8p,hrd8⟩:∃v8 H8,appX 84 44 152 [.sl j 0 k k false,if k+1=l6.length then .ext 1 j (l6.length*44+1) else .sl j ((k+1)*44) (l6.length - (k+1)) (l6.length - (k+1)) true] H7=some (v8,H8)/\HP (·≠ j) H7 H8/\RdD H8 v8 (l6.eraseIdx k):=by
  by_cases hc2:k+1=l6.length
  ·rw [qi hc2]
   obtain ⟨cc,hg,hcc⟩:=hr7;obtain ⟨c',h3',h4'⟩:=Ce.over_ex (x:=Ce.lst []) (c:=cc) (o:=0+k*44) (by rw [hcc,c0];show 0+k*44+0<=_;omega)
   have h5':c'.l=cc.l:=by rw [h4'];show cc.l.take _ ++ [] ++ cc.l.drop _=_;rw [qw1];exact qo4 _ _
   refine ⟨.sl j 0 k k false,H7.put j (.cells c' 84 44 true false),?_,HP.put _ _ _,⟨.inr ⟨j,k,false,true,c'.l,by rw [show (l6.eraseIdx k).length=k from oM],by show j<H7.next;omega,?_,oM,by rw [h5',hcc,c0];omega,?_⟩,hho fun q hq=>hq.put (HP.put _ _ _) fun cc' op' ro e=>by rw [hg] at e;cases e⟩⟩
   ·rw [zxn (n:=0) (new:=.lst []) (by
     show (match Nat.beq 1 1 && Nat.ble 1 (l6.length*44+1) with|true=>some 0|false=>none)=some 0
     rw [show Nat.ble 1 (l6.length*44+1)=true from qe oM];rfl) (by
     show (match Nat.beq 1 1 && (Nat.ble 1 (l6.length*44+1) && Nat.beq 0 0) with|true=>some (Ce.lst [])|false=>none)=_
     rw [show Nat.ble 1 (l6.length*44+1)=true from qe oM];rfl) rfl]
    show brec _ (orec none (fun H'=>some (AV.sl j 0 (Nat.add k 0) k false,H')) (zpe H7 j (Nat.add 0 (Nat.mul k 44)) (.lst []))) (Nat.ble (Nat.add k 0) k)=_
    rw [show Nat.ble (Nat.add k 0) k=true from qe (qn k),zad]
    unfold AH.writeC;rw [show Nat.ble H7.lo j=true from qe oM,hg]
    have h3'':Ce.over (Ce.lst []) cc (Nat.add 0 (Nat.mul k 44))=some c':=h3';simp only [h3'',show (Ce.lst []).one=true from rfl]
    rfl
   ·exact ⟨c',zia _ _,rfl⟩
   ·rw [h5',hcc,show (l6.eraseIdx k).length=k from oM,zse zra]
    rw [← htk,ql4 oM,qw1]
  ·rw [qd hc2]
   obtain ⟨m,hm⟩:∃m,k+1+m=l6.length:=⟨l6.length - (k+1),oM⟩
   rw [show l6.length - (k+1)=m from oM]
   obtain ⟨new,n1,n2⟩:=zzq (z:=44) (m:=m) (c:=m) (op:=true) hr7 (o:=(k+1)*44) (n:=m) (by rw [c0,← qj4];exact qd2 44 oM)
   have hnl:new.l=(encC rcL l6).drop ((k+1)*44):=by
    rw [n2,qx];rw [qb2,c0];omega
   have hall:(encC rcL l6).all AV.oneCell=true:=by
    refine qb1.2 fun y hy=> ?_
    have key:∀l:List (AV×Rc),(∀q,q∈l->q.1.oneCell=true)-> ∀y,y∈encC rcL l->y.oneCell=true:=by
     intro l
     induction l with
     |nil=>intro _ y hy;cases hy
     |cons a l ih =>
      intro hq y hy;rw [znd] at hy;rcases qp2.1 hy with hy|hy
      ·exact qb1.1 (zbc a (hq a qq1)) y hy
      ·exact ih (fun q hq'=>hq q (qj1 _ hq')) y hy
    exact key l6 (fun q hq=>zsi (hod7.ho q hq).is) y hy
   have hone:new.one=true:=zdg (by rw [hnl];exact qb1.2 fun y hy=>qb1.1 hall y (qt3 hy))
   obtain ⟨H8,b1,b2,b3,b4⟩:=zmt (b:=152) (e:=84) (z:=44) (i:=j) (o:=0) (l:=k) (c:=k) (n:=m) rfl n1 hone hr7 (by rw [c0,qy1];exact qd2 44 oM) oM oM oM HN.hide
   refine ⟨_,H8,b1,b2.hp _,⟨.inr ⟨H7.next,k+m,true,true,_,by rw [show (l6.eraseIdx k).length=k+m from oM],oM,b4,oM,?_,?_⟩,hho fun q hq=>hq.hx b2⟩⟩
   ·rw [qd3,qr,qa1,hnl,qb2,c0];omega
   ·rw [qd3,hnl,zse zra,znf zra,← zqi,htk,show (l6.eraseIdx k).length*44=(encC rcL (l6.eraseIdx k)).length from (zmc zra _).symm,qp5]
 have hne:H6.next≠j:=oM
 have g8:=(hx8p.get (i:=H6.next) oM hne).trans g7
 have g18:=(hx8p.get (i:=H.next+1) oM oM).trans g1
 have hx08:=HX.hp2 hx07 hx8p fun i hi=>oM
 haveI:=hx08.hn;have hlo8:H8.lo=H.lo:=hx08.lo;have hn8:=hx8p.next;have hol8:OwL H8 lv6 H4.next:=OwnS.hq hol7 hx8p fun j' o n c op' he=>by
  intro e;subst e;obtain ⟨cc,hg,_⟩:=hr7;exact OwnS.ne hol7 hg dC _ _ _ _ he
 have hv8:v8.oneCell=true/\v8.toC= .lst [v8]:=by
  rcases hrd8.rd with ⟨rfl,_⟩|⟨_,_,_,_,_,rfl,_⟩<;>exact ⟨rfl,rfl⟩
 have hstR:=st1_w (L:=lookM) (t:=49) (i:=H6.next) (o:=1) (H:=H8) szR1 hv8.1 hv8.2 oM
 have hwrR:=wr1_l (i:=H6.next) (o:=1) (v:=v8) (H:=H8) (l:=tbL t.nx (.sl j 0 l6.length l6.length true) lv6) (e:=53) (z:=7) (op:=false) (by show 1<7;omega)
 have o8:=zbb (nn:=t.nx) (v:=v8) (lv:=lv6) hv8.1 (OwnS.one hol8).1;have e1n:=hEq_f (oM:H.next+1≠H6.next)
 refine ⟨(v8,H8),a1',?_⟩;have F:=J10 @hstR @g8 @hwrR @zcj @zea @e1n @g18 @zba @zha @ld7;refine uT ?_;have hd8:TbD H8 ⟨t.nx,t.rs.eraseIdx k⟩ v8 lv6 (l6.eraseIdx k):=⟨hrd8,heq,OwL.lvd hol8⟩;have q1:=zam g8 (tbx t.nx v8 lv6);have g19:(H8.put H6.next (tbx t.nx v8 lv6)).get (H.next+1)=some (tbx 0 .nilSl .nilSl):=(zyb _ oM).trans g18
 exact ⟨.inr ⟨_,v8,lv6,_,rfl,rfl,(hd8.put q1 g8 dC dC dC).put (HP.put _ _ _) g19 dC dC dC⟩,HX.put (HX.put hx08 oM _) oM _⟩
theorem zno1 {t:Tb}(hk:Ok t){i j:Nat}(hi:i<t.rs.length) (hj:j<t.rs.length) (hne:i≠j):(get t.rs i).nm≠(get t.rs j).nm:=by
 intro e;rcases qi2 i j with h|h
 ·have:=zuh hk.strict (get_lt hi) (get_lt hj) h
  rw [e,zqn] at this;cases this
 ·have:=zuh hk.strict (get_lt hj) (get_lt hi) oM
  rw [e,zqn] at this;cases this
theorem zmu (s:ByteArray):(splB s).size<=s.size:=by
 unfold splB;split
 ·exact (zfu s).2
 ·exact qo2 _
noncomputable def sq2 (c:C2):C2:=match c with| .seq _ b=>b|c=>c
theorem sq2_s (a b:C2):sq2 (.seq a b)=b:=rfl
theorem zxf1 (s to:ByteArray):zgj s to=((partB s && partB to) || (snapB s && (snapB to && decide (splA s=splA to)))):=rfl
theorem zoo1 {t:Tb}(hk:Ok t){s to:ByteArray}(hs:hasB s t.rs=true){k:Nat}(hkl:k<t.rs.length){x:Rc}
  (hx:x=if k=fndI s t.rs then {get t.rs k with nm:=to} else get t.rs k) :
  renD (get t.rs (fndI s t.rs)).id s to (get t.rs k)=if (partB s && partB to) && (snapB x.nm && decide (x.ow=(get t.rs (fndI s t.rs)).id)) then {x with nm:=to ++ sign ++ splB x.nm} else x:=by
 obtain ⟨q1,q2⟩:=zza hs;by_cases h:k=fndI s t.rs
 ·rw [qi h] at hx
  subst hx;have e1:(get t.rs k).nm=s:=by rw [h];exact q2
  unfold renD;rw [qi e1];have:((partB s && partB to) && (snapB to && decide ((get t.rs k).ow=(get t.rs (fndI s t.rs)).id)))=false:=by
   cases h1:partB to with
   |false=>rw [qr3,qi3]
   |true =>
    cases h2:snapB to with
    |false=>rw [qi3,qr3]
    |true=>rw [zoj h2] at h1;cases h1
  exact (qd (by rw [this];decide)).symm
 ·rw [qd h] at hx
  subst hx;have e1:(get t.rs k).nm≠s:=by have:=zno1 hk hkl q1 h;rw [q2] at this;exact this
  unfold renD;rw [qd e1]
theorem zyf1 {id:Int}{s to:ByteArray}(hto:to.size<=100000){x:Rc}(hx:x.nm.size<=100000):(renD id s to x).nm.size<=300000:=by
 unfold renD;split
 ·show to.size<=_;omega
 ·split
  ·show (to ++ sign ++ splB x.nm).size<=_
   have e1:(to ++ sign).size=to.size+1:=qn4;have e2:(to ++ sign ++ splB x.nm).size=(to ++ sign).size+(splB x.nm).size:=qn4;have:=zmu x.nm;omega
  ·omega
theorem zdj {l:List (AV×Rc)}{m r:List Rc}{k:Nat}{p:AV×Rc}(hl:rcs l=m.take k ++ r.drop k) (hm:k<m.length) (hr:k<r.length) (hp:m[k]? =some p.2):rcs (l.set k p)=m.take (k+1) ++ r.drop (k+1):=by
 rw [zwk,hl,List.set_append,qa1,qv3 oM,qd oM,qn7,qc4,hp,qj3,qi1]
 congr 1
 rw [qt6 hr,List.set_cons_zero,qg5]
theorem zpo1 {α:Type}{l:List α}{k:Nat}{p:α}(h:l[k]? =some p):l.set k p=l:=by
 refine qb4 fun i=> ?_
 rw [List.getElem?_set];split
 ·next e =>
  subst e;have:=(qp.1 h).1;rw [qi this,h]
 ·rfl
theorem rcs_mid {l:List (AV×Rc)}{m r:List Rc}{k:Nat}{p:AV×Rc}(hl:rcs l=m.take k ++ r.drop k) (hm:k<m.length) (hr:k<r.length) (hp:l[k]? =some p):r[k]? =some p.2:=by
 have h1:(rcs l)[k]? =some p.2:=by rw [qh1,hp];rfl
 rw [hl,qz1 (by rw [qa1];omega),qa1,qv3 oM,qn7,qu2] at h1
 exact h1
set_option maxHeartbeats 32000000 in
theorem dren2 {H H2:AH}[hn:HN H][hn2':HN H2]{t:Tb}{v lv:AV}{l:List (AV×Rc)}{s to:ByteArray}(h:DbIn H t v lv l) (hs:s.size<=100000) (hto:to.size<=100000)
  (hx02:HX H H2) (hn2:H.next+2<=H2.next) (g0:H2.get H.next=some (tbx t.nx v lv)) (g1:H2.get (H.next+1)=some (tbx 0 .nilSl .nilSl)) (hk:Ok t) (ha:zgj s to=true) (T:Tr AV)
  (t1:gT T 1= .str s) (t2:gT T 2= .str to) (t3:gT T 3= .ptr H.next 0) (t6:gT T 6= .ptr (H.next+1) 0) (t14:gT T 14= .bool (partB s && partB to)) :
  RC lookM (sq2 (sq2 (sq2 (sq2 (sq2 f81c))))) [] T H2 (FnQ lookM [.cell 6 53,.tmp 7] fun r H'=>DbR H' r (renO t s to)/\HX H H'):=by
 have hlo:=hn.lo;have hlen:=h.len;have o1:=o0;have hlo2:H2.lo=H.lo:=hx02.lo;simp only [f81c,sq2_s];unfold renO;rw [ha,qi rfl];have F:=J7 @t1 @t2 @t3 @t6 @t14 @g0 @zea;refine uT ?_;clear F;refine cR_f (dfnd (h.hx hx02) s) ?_;rintro r3 H3 ⟨rfl,hx3⟩;have hx03:=hx02.trans hx3;have hn3:=hx3.next;have g0:=(hx3.get (i:=H.next) oM).trans g0
 have g1:=(hx3.get (i:=H.next+1) oM).trans g1
 haveI:=hx03.hn;have hlo3:H3.lo=H.lo:=hx03.lo;cases a2:hasB s t.rs with
 |false =>
  have F:=J11 @t1 @t2 @t3 @t6 @t14 @tb_bu @g1 @zba @zea @zha @ld7;refine uX ?_;clear F;exact dbad hx03 oM dC rfl
 |true =>
 obtain ⟨q1,q2⟩:=zza a2;have F:=J7 @t1 @t2 @t3 @t6 @t14 @g0 @zea;refine uT ?_;clear F;refine cR_f (dfnd (h.hx hx03) to) ?_;rintro r4 H4 ⟨rfl,hx4⟩;have hx04:=hx03.trans hx4;have hn4:=hx4.next;have g0:=(hx4.get (i:=H.next) oM).trans g0
 have g1:=(hx4.get (i:=H.next+1) oM).trans g1
 haveI:=hx04.hn;have hlo4:H4.lo=H.lo:=hx04.lo;cases a3:hasB to t.rs with
 |true =>
  have F:=J11 @t1 @t2 @t3 @t6 @t14 @tb_bu @g1 @zba @zea @zha @ld7;refine uT ?_;clear F;exact dbad hx04 oM dC rfl
 |false =>
 have F:=J7 @t1 @t2 @t3 @t6 @t14 @g0 @zea;refine uX ?_;clear F;refine cR_f (zvk (h.hx hx04).d h.ll) ?_;rintro r6 H6 ⟨⟨v6,lv6,l6,rfl,hr6,hl6,hod6,hol6⟩,hx6⟩;have hx06:=hx04.trans hx6;have hn6:=hx6.next;have g1:=(hx6.get (i:=H.next+1) oM).trans g1
 haveI:=hx06.hn;have hlo6:H6.lo=H.lo:=hx06.lo;have hll:=h.d.len;have hlpos:0<l6.length:=oM
 have o6:=zbb (nn:=t.nx) (v:=v6) (lv:=lv6) (OwnS.one hod6.own).1 (OwnS.one hol6).1;obtain ⟨pi,hpi⟩:∃p,l6[fndI s t.rs]? =some p:=⟨_,qo oM⟩
 have he6:rcs l6=t.rs:=hr6.trans h.d.eq;have hgi:pi.2=get t.rs (fndI s t.rs):=by have:=zti hpi;rw [he6] at this;exact this.symm
 obtain ⟨j,op,rfl,hNj,hj,cc,hgj⟩:=hod6.sl_of hlpos;have hx7:HX H6 ((H6.new (tbx 0 .nilSl .nilSl)).put H6.next (tbx t.nx (.sl j 0 l6.length l6.length op) lv6)):=hxt;have hod7:OwD ((H6.new (tbx 0 .nilSl .nilSl)).put H6.next (tbx t.nx (.sl j 0 l6.length l6.length op) lv6)) (.sl j 0 l6.length l6.length op) l6 H4.next:=hod6.hx hx7;have g7:((H6.new (tbx 0 .nilSl .nilSl)).put H6.next (tbx t.nx (.sl j 0 l6.length l6.length op) lv6)).get H6.next=some (tbx t.nx (.sl j 0 l6.length l6.length op) lv6):=zia _ _;have hn7:((H6.new (tbx 0 .nilSl .nilSl)).put H6.next (tbx t.nx (.sl j 0 l6.length l6.length op) lv6)).next=H6.next+1:=rfl
 have hh7:HN ((H6.new (tbx 0 .nilSl .nilSl)).put H6.next (tbx t.nx (.sl j 0 l6.length l6.length op) lv6)):=inferInstance;have hol7:=OwnS.hx hol6 hx7;have hix:∀q:Nat,q<l6.length->ixS 44 (.sl j 0 l6.length l6.length op) (.int .i64 (q:Nat))=some (elA 44 (.sl j 0 l6.length l6.length op) q):=fun q hq=>ix44 (H:=H6) hod6.rd.sl.is hq
 have hl:∀H',fstO (zda .len lookM [49] [.sl j 0 l6.length l6.length op] H')=some (.int .i64 l6.length):=fun H'=>ztc (H':=H') uRs hod6.rd.sl.is
 have hl60:H6.lo<=H6.next:=HN.lo;have hix1:=hix (fndI s t.rs) oM
 have F:=J8 @t1 @t2 @t3 @t6 @t14 @zcb @zba @zha;refine uT ?_;clear F;generalize ((H6.new (tbx 0 .nilSl .nilSl)).put H6.next (tbx t.nx (.sl j 0 l6.length l6.length op) lv6))=H7 at *
 have hlo7:H7.lo=H.lo:=hx7.lo.trans hlo6;have d3:=hod7.ld hpi (f:=0) (x:=.int .i64 pi.2.id) rfl;rw [qx4] at d3;obtain ⟨H8,w1,hod8,w3⟩:=hod7.st (t:=9) (x:=.str to) hpi (oM:1<44) (p':=(pi.1,{pi.2 with nm:=to})) rfl rfl sz9 rfl oM
 have hll8:(l6.set (fndI s t.rs) (pi.1,{pi.2 with nm:=to})).length=l6.length:=qj2
 haveI hh8:HN H8:=w3.hn;have hlo8:H8.lo=H.lo:=w3.lo.trans hlo7;have hne:H6.next≠j:=oM
 have g8:=(w3.get (i:=H6.next) oM hne).trans g7
 have hx08:HX H H8:=HX.hp2 (hx06.trans hx7) w3 fun i hi=>oM
 have g1:=(w3.get (i:=H.next+1) oM oM).trans ((hx7.get (i:=H.next+1) oM).trans g1)
 have hgj8:∃cc,H7.get j=some (.cells cc 84 44 op false):=⟨cc,(hx7.get hj).trans hgj⟩
 have F:=J10 @t1 @t2 @t3 @t6 @t14 @g7 @tb_1 @hix1 @d3 @w1;refine uT ?_;clear F;rw [hgi];obtain ⟨rs1,hrs1⟩:∃r,r=t.rs.set (fndI s t.rs) {get t.rs (fndI s t.rs) with nm:=to}:=⟨_,rfl⟩
 obtain ⟨mp,hmp⟩:∃r,r=t.rs.map (renD (get t.rs (fndI s t.rs)).id s to):=⟨_,rfl⟩
 have hm:mp.length=l6.length:=by rw [hmp,qm3];omega
 have hr:rs1.length=l6.length:=by rw [hrs1,qj2];omega
 refine rc_lp zko1 (fun n T H'=> ∃k l',n+k=l6.length/\OwD H' (.sl j 0 l6.length l6.length op) l' H4.next/\l'.length=l6.length/\HP (·≠ j) H8 H'/\rcs l'=mp.take k ++ rs1.drop k /\
  gT T 2= .str to/\gT T 6= .ptr (H.next+1) 0/\gT T 14= .bool (partB s && partB to)/\gT T 19= .ptr H6.next 0/\gT T 20= .int .i64 (get t.rs (fndI s t.rs)).id/\gT T 21= .int .i64 k) l6.length ?_ ?_
 ·refine ⟨0,_,rfl,hod8,hll8,HP.refl _ _,?_,by have F:=@t2;exact vT,by have F:=@t6;exact vT,by have F:=@t14;exact vT,vT0,vT0,by refine uT0 ?_;rfl⟩
  rw [qo5,qm1,qd3,zwk,he6,hgi,hrs1]
 rintro n T H9 ⟨k,l',hnk,hod9,hll9,hp9,hrc9,t2,t6,t14,t19,t20,t21⟩;haveI hh9:HN H9:=hp9.hn;have hlo9:H9.lo=H.lo:=hp9.lo.trans hlo8;have hn8:=w3.next;have hn9:=hp9.next;have g9:=(hp9.get (i:=H6.next) oM hne).trans g8
 have g1:=(hp9.get (i:=H.next+1) oM oM).trans g1
 have hx09:HX H H9:=HX.hp2 hx08 hp9 fun i hi=>oM
 unfold f81l0;cases n with
 |zero =>
  have hk':k=l6.length:=oM
  rw [hk',qx oM,ql4 oM,qw1,hmp,← zyi1 hk ha a2] at hrc9
  have hnms:∀p,p∈l'->p.2.nm.size<=1000000:=fun p hp=>by
   have h1:p.2∈t.rs.map (Md.ren s to):=by rw [← hrc9];exact qy2.2 ⟨p,hp,rfl⟩
   rw [zyi1 hk ha a2] at h1;obtain ⟨x,hx,hxe⟩:=qy2.1 h1;rw [← hxe];have:=zyf1 (id:=(get t.rs (fndI s t.rs)).id) (s:=s) hto (h.nm x hx);omega
  have F:=J9 @t2 @t6 @t14 @t19 @t20 @t21 @g9 @tb_1 @hl;refine uT ?_;clear F;refine cR_f (zku (l:=l') hod9.rd oM hnms) ?_
  rintro r10 H10 ⟨⟨lo,hlo10,hlol,hod10⟩,hx10⟩;have hn10:=hx10.next;have hol8:OwL H8 lv6 H4.next:=OwnS.hq hol7 w3 fun j' o n c op' he=>by
   intro e;subst e;have:=(hx7.get hj).trans hgj;exact OwnS.ne hol7 this dC _ _ _ _ he
  have hol9:OwL H9 lv6 H4.next:=OwnS.hq hol8 hp9 fun j' o n c op' he=>by
   intro e;subst e;have:=(hx7.get hj).trans hgj;exact OwnS.ne hol7 this dC _ _ _ _ he
  have hol10:=OwnS.hx hol9 hx10;have g10:=(hx10.get (i:=H6.next) oM).trans g9
  have g1:=(hx10.get (i:=H.next+1) oM).trans g1
  have hx010:=hx09.trans hx10;haveI:=hx010.hn;have hlo10':H10.lo=H.lo:=hx010.lo;have hv:=OwnS.one hod10.own;have hstR:=st1_w (L:=lookM) (t:=49) (i:=H6.next) (o:=1) (H:=H10) szR1 hv.1 hv.2 oM
  have hwrR:=wr1_l (i:=H6.next) (o:=1) (v:=r10) (H:=H10) (l:=tbL t.nx (.sl j 0 l6.length l6.length op) lv6) (e:=53) (z:=7) (op:=false) (by show 1<7;omega)
  have o8:=zbb (nn:=t.nx) (v:=r10) (lv:=lv6) hv.1 (OwnS.one hol10).1;have e1n:=hEq_f (oM:H.next+1≠H6.next)
  have F:=J12 @t6 @t19 @hstR @g10 @hwrR @zcj @zea @e1n @g1 @zba @zha @ld7;refine uT ?_;clear F;rw [hrc9] at hlo10;have hd8:TbD H10 ⟨t.nx,sortL (t.rs.map (Md.ren s to))⟩ r10 lv6 lo:=⟨hod10.rd,hlo10,OwL.lvd hol10⟩;have q1:=zam g10 (tbx t.nx r10 lv6);have g19:(H10.put H6.next (tbx t.nx r10 lv6)).get (H.next+1)=some (tbx 0 .nilSl .nilSl):=(zyb _ oM).trans g1
  exact ⟨.inr ⟨_,r10,lv6,_,rfl,rfl,(hd8.put q1 g10 dC dC dC).put (HP.put _ _ _) g19 dC dC dC⟩,HX.put (HX.put hx010 oM _) oM _⟩
 |succ n =>
  have hq:k<l'.length:=oM
  obtain ⟨p,hp⟩:∃p,l'[k]? =some p:=⟨_,qo hq⟩
  have hpx:=rcs_mid hrc9 oM oM hp
  have hpx2:p.2=if k=fndI s t.rs then {get t.rs k with nm:=to} else get t.rs k:=by
   by_cases e:k=fndI s t.rs
   ·rw [qi e]
    rw [hrs1,e,qk4 oM] at hpx
    rw [e];exact (ql3 hpx).symm
   ·rw [qd e]
    rw [hrs1,qi4 (fun x=>e x.symm),get_lt oM] at hpx
    exact (ql3 hpx).symm
  have hst:=zoo1 hk (to:=to) a2 (oM:k<t.rs.length) hpx2
  have hmk:mp[k]? =some (renD (get t.rs (fndI s t.rs)).id s to (get t.rs k)):=by rw [hmp,qh1,get_lt oM];rfl
  rw [hst] at hmk;have hsz:p.2.nm.size<=100000:=by
   rw [hpx2];split
   ·exact hto
   ·exact h.nm _ (zuk oM)
  clear hst hpx2 hpx;have hsp:= @FnX.p _ _ _ _ (zue p.2.nm oM)
  have hixk:=hix k oM
  have hod9':=hod9;rw [← hll9] at hod9;have e1:=hod9.ld hp (f:=1) (x:=.str p.2.nm) rfl;have e2:=hod9.ld hp (f:=40) (x:=.int .i64 p.2.ow) rfl;rw [hll9] at hod9;have stay:mp[k]? =some p.2-> ∃n',n'<n+1/\ ∃k_1 l',n'+k_1=l6.length/\OwD H9 (.sl j 0 l6.length l6.length op) l' H4.next/\l'.length=l6.length/\HP (fun x=> ¬x=j) H8 H9 /\
    rcs l'=mp.take k_1 ++ rs1.drop k_1/\AV.int .i64 ((k:Int)+1)=AV.int .i64 (k_1:Int):=fun hmm=>by
   have hl2:=zdj hrc9 oM oM hmm
   rw [zpo1 hp] at hl2;exact ⟨n,oM,k+1,l',oM,hod9,hll9,hp9,hl2,by push_cast;rfl⟩
  cases b1:(partB s && partB to) with
  |false =>
   rw [b1] at t14 hmk;rw [qi3,qd dC] at hmk
   have F:=J13 @t2 @t6 @t14 @t19 @t20 @t21 @g9 @tb_1 @hl @hixk @hsp @e1 @e2;refine uT ?_;clear F;exact stay hmk
  |true =>
   rw [b1] at t14 hmk;rw [qn3] at hmk;cases b2:snapB p.2.nm with
   |false =>
    rw [b2,qi3,qd dC] at hmk
    have F:=J14 @t2 @t6 @t14 @t19 @t20 @t21 @g9 @tb_1 @hl @hixk @hsp @e1 @e2 @b2;refine uT ?_;clear F;exact stay hmk
   |true =>
    rw [b2,qn3] at hmk;cases b3:decide (p.2.ow=(get t.rs (fndI s t.rs)).id) with
    |false =>
     rw [b3,qd dC] at hmk
     have F:=J15 @t2 @t6 @t14 @t19 @t20 @t21 @g9 @tb_1 @hl @hixk @hsp @e1 @e2 @b2 @b3;refine uT ?_;clear F;exact stay hmk
    |true =>
     rw [b3,qi rfl] at hmk;have hss:=zmu p.2.nm;have k1:=fun t xo yo=> @zzt lookM t xo yo to ⟨#[64]⟩ (by show to.size+1<=_;omega)
     have k2:=fun t xo yo=> @zzt lookM t xo yo (to ++ ⟨#[64]⟩) (splB p.2.nm) (by
      have:(to ++ (⟨#[64]⟩:ByteArray)).size=to.size+1:=qn4;omega)
     rw [← hll9] at hod9;obtain ⟨H10,y1,hod10,y3⟩:=hod9.st (t:=9) (x:=.str (to ++ ⟨#[64]⟩ ++ splB p.2.nm)) hp (oM:1<44) (p':=(p.1,{p.2 with nm:=to ++ sign ++ splB p.2.nm})) rfl rfl sz9 rfl oM
     rw [hll9] at hod10;have F:=J16 @t2 @t6 @t14 @t19 @t20 @t21 @g9 @tb_1 @hl @hixk @hsp @e1 @e2 @b2 @b3 (J3 @k1 @k2 @y1);refine uT ?_;clear F;exact ⟨n,oM,k+1,_,oM,hod10,by rw [qj2];exact hll9,hp9.trans y3 (fun i _ hi=>⟨hi,hi⟩),zdj hrc9 oM oM hmk,by push_cast;rfl⟩
set_option maxHeartbeats 32000000 in
theorem zqo1 {H:AH}[hn:HN H]{t:Tb}{v lv:AV}{l:List (AV×Rc)}{s to:ByteArray}(h:DbIn H t v lv l) (hs:s.size<=100000) (hto:to.size<=100000) :
  FnE lookM 81 [tbA t.nx v lv,.str s,.str to] H fun r H'=>DbR H' r (renT t s to)/\HX H H':=by
 refine zuc f81_eq rfl rfl ?_;have hlo:=hn.lo;have hlen:=h.len;have e01:=hEq_f (oM:H.next≠H.next+1)
 have o1:=o0;have hsp:= @FnX.p _ _ _ _ (zue s oM)
 have hsq:= @FnX.p _ _ _ _ (zue to oM)
 have hv1:= @FnX.p _ _ _ _ (ztk s oM)
 have hv2:= @FnX.p _ _ _ _ (ztk to oM)
 obtain ⟨REST2,hR2⟩:∃c,c=sq2 (sq2 (sq2 (sq2 (sq2 f81c)))):=⟨_,rfl⟩
 obtain ⟨REST,hR⟩:∃c,c=sq2 (sq2 (sq2 (sq2 f81c))):=⟨_,rfl⟩
 have hf:f81c=(.seq (.reg (bx_ false 53 7 (tO 0) 3<|al_ false (AV.toC (.agg [(.int .i64 (0)),.nilSl,(.int .i64 (0)),(.int .i64 (0)),(.int .i64 (0)),(.int .i64 (0)),.nilSl])) 53 7 6<|m_ (.con (.int .i64 (0))) 7<| .done))
  (.seq (.reg (m_ (tO 1) 26<|cl_ false 62 [(tO 26)] 27<|m_ (tO 27) 25<|ex_ 0 (tO 25) 28<|ex_ 1 (tO 25) 29<|ex_ 2 (tO 25) 30<|m_ (tO 28) 8<|m_ (tO 29) 9<|m_ (tO 30) 10<| .done))
  (.seq (.reg (m_ (tO 2) 32<|cl_ false 62 [(tO 32)] 33<|m_ (tO 33) 31<|ex_ 0 (tO 31) 34<|ex_ 1 (tO 31) 35<|ex_ 2 (tO 31) 36<|m_ (tO 34) 11<|m_ (tO 35) 12<|m_ (tO 36) 13<| .done))
  (.seq (.reg (m_ (tO 1) 37<|cl_ false 34 [(tO 37)] 38<|m_ (tO 38) 39<|o_ 39 true 40 (m_ (tO 2) 40)<|o_ 39 true 41 (cl_ false 34 [(tO 40)] 41)<|pk_ (tO 39) (tO 41) (.con (.bool false)) 42<|m_ (tO 42) 14<| .done))
  REST)))):=by rw [hR];rfl
 have hR':REST= .seq (.seq (.reg (lN_ 7 (tO 3) 43<|cl_ false 90 [(tO 43)] 44<|b_ lookM .neq 34 (.tmp 44) (.const (.int .i64 (0))) 45<|m_ (tO 45) 46<|o_ 46 false 47 (m_ (tO 14) 47)<|o_ 46 false 48 (nt_ (tO 47) 48)<|o_ 46 false 49 (m_ (tO 48) 49)<|o_ 49 true 50 (m_ (tO 10) 50)<|o_ 49 true 51 (nt_ (tO 50) 51)<|o_ 49 true 52 (m_ (tO 51) 52)<|o_ 52 false 53 (m_ (tO 13) 53)<|o_ 52 false 54 (nt_ (tO 53) 54)<|o_ 49 true 55 (pk_ (tO 52) (.con (.bool true)) (tO 54) 55)<|o_ 49 true 56 (m_ (tO 55) 56)<|o_ 56 false 57 (m_ (tO 8) 57)<|o_ 56 false 58 (m_ (tO 11) 58)<|o_ 56 false 59 (b_ lookM .neq 9 (.tmp 57) (.tmp 58) 59)<|o_ 49 true 60 (pk_ (tO 56) (.con (.bool true)) (tO 59) 60)<|o_ 46 false 61 (pk_ (tO 49) (tO 60) (.con (.bool false)) 61)<|pk_ (tO 46) (.con (.bool true)) (tO 61) 62<| .done))
 (.cond (tO 62) (.seq (.reg (bu_ lookM 53 [] [] 63<|sN_ false 7 (tO 6) (tO 63)<|m_ (.con (.int .i64 (2))) 7<| .done))
 .ret) .skip)) REST2:=by rw [hR,hR2];rfl
 have hx1:HX H ((H.new (tbx t.nx v lv)).new (tbx 0 .nilSl .nilSl)):=hxt;have rest:∀T:Tr AV,gT T 1= .str s->gT T 2= .str to->gT T 3= .ptr H.next 0->gT T 6= .ptr (H.next+1) 0->gT T 8= .str (splA s)->gT T 10= .bool (snapB s)->gT T 11= .str (splA to)->gT T 13= .bool (snapB to)->gT T 14= .bool (partB s && partB to) ->
   RC lookM REST [] T ((H.new (tbx t.nx v lv)).new (tbx 0 .nilSl .nilSl)) (FnQ lookM [.cell 6 53,.tmp 7] fun r H'=>DbR H' r (renT t s to)/\HX H H'):=by
  intro T t1 t2 t3 t6 t8 t10 t11 t13 t14;rw [hR'];clear hf hR hR';have F:=J3 @t3 @e01 @zea;refine uT ?_;clear F;refine cR_at (fun H1=>HX H H1/\H1.next=H.next+2/\H1.get H.next=some (tbx t.nx v lv)/\H1.get (H.next+1)=some (tbx 0 .nilSl .nilSl)) ?_ ?_
  ·exact ⟨hx1,rfl,by have F:=@e01;exact vT,zaa _⟩
  rintro H1 ⟨hx1,hn1,g0,g1⟩;haveI:=hx1.hn;refine cR_f (dchk (h.hx hx1)) ?_;rintro r2 H2 ⟨rfl,hx2⟩;have hx02:=hx1.trans hx2;have hn2:=hx2.next;have g0:=(hx2.get (i:=H.next) oM).trans g0
  have g1:=(hx2.get (i:=H.next+1) oM).trans g1
  haveI:=hx02.hn;have hlo2:H2.lo=H.lo:=hx02.lo;rw [zmj1];cases hc:zvb t with
  |false =>
   rw [znr hc];have F:=J15 @t1 @t2 @t3 @t6 @t8 @t10 @t11 @t13 @t14 @tb_bu @g1 @zba @zea @zha @ld7;refine uX ?_;clear F;exact dbad hx02 oM dC rfl
  |true =>
  rw [zmr hc];have hk:=checkB_ok.1 hc;have hb:∀T,gT T 1= .str s->gT T 2= .str to->gT T 3= .ptr H.next 0->gT T 6= .ptr (H.next+1) 0->gT T 14= .bool (partB s && partB to)->zgj s to=true ->
    RC lookM REST2 [] T H2 (FnQ lookM [.cell 6 53,.tmp 7] fun r H'=>DbR H' r (renO t s to)/\HX H H'):=fun T t1 t2 t3 t6 t14 ha=>by
   rw [hR2];exact dren2 h hs hto hx02 oM g0 g1 hk ha T t1 t2 t3 t6 t14
  have no:zgj s to=false->renO t s to=bad 2:=fun e=>by unfold renO;rw [e];rfl
  clear hR2;rw [zxf1] at hb no;cases b1:(partB s && partB to) with
  |true =>
   rw [b1] at hb t14;have F:=J9 @t1 @t2 @t3 @t6 @t8 @t10 @t11 @t13 @t14;refine uT ?_;clear F;exact hb _ (by have F:=@t1;exact vT) (by have F:=@t2;exact vT) (by have F:=@t3;exact vT) (by have F:=@t6;exact vT) (by have F:=@t14;exact vT) rfl
  |false =>
  rw [b1] at hb no t14;cases b2:snapB s with
  |false =>
   rw [b2] at hb no t10;have F:=J15 @t1 @t2 @t3 @t6 @t8 @t10 @t11 @t13 @t14 @tb_bu @g1 @zba @zea @zha @ld7;refine uT ?_;clear F;exact dbad hx02 oM dC (no rfl)
  |true =>
  cases b3:snapB to with
  |false =>
   rw [b2,b3] at hb no;rw [b2] at t10;rw [b3] at t13;have F:=J15 @t1 @t2 @t3 @t6 @t8 @t10 @t11 @t13 @t14 @tb_bu @g1 @zba @zea @zha @ld7;refine uT ?_;clear F;exact dbad hx02 oM dC (no rfl)
  |true =>
  rw [b2] at t10;rw [b3] at t13;rw [b2,b3] at hb no;by_cases b4:splA s=splA to
  ·rw [qk b4] at hb
   have d4:decide (splA s=splA to)=true:=qk b4;have F:=J11 @t1 @t2 @t3 @t6 @t8 @t10 @t11 @t13 @t14 @ztd @d4;refine uT ?_;clear F;exact hb _ (by have F:=@t1;exact vT) (by have F:=@t2;exact vT) (by have F:=@t3;exact vT) (by have F:=@t6;exact vT) (by have F:=@t14;exact vT) rfl
  ·rw [qq b4] at no
   have d4:decide (splA s=splA to)=false:=qq b4;have F:=J16 @t1 @t2 @t3 @t6 @t8 @t10 @t11 @t13 @t14 @ztd @d4 @tb_bu @g1 @zba @zea (J2 @zha @ld7);refine uT ?_;clear F;exact dbad hx02 oM dC (no rfl)
 clear hR2 hR;rw [hf];cases p1:partB s with
 |true =>
  cases p2:partB to with
  |true =>
   rw [p1,p2] at rest;rw [p2] at hv2;have F:=J9 @hsp @hsq @hv1 @hv2 @p1 @zba @zcb @zea @e01;refine uT ?_;clear F;exact rest _ vT0 vT0 vT0 vT0 vT0 vT0 vT0 vT0 wT0
  |false =>
   rw [p1,p2] at rest;rw [p2] at hv2;have F:=J9 @hsp @hsq @hv1 @hv2 @p1 @zba @zcb @zea @e01;refine uT ?_;clear F;exact rest _ vT0 vT0 vT0 vT0 vT0 vT0 vT0 vT0 wT0
 |false =>
  rw [p1,qi3] at rest;have F:=J9 @hsp @hsq @hv1 @hv2 @p1 @zba @zcb @zea @e01;refine uT ?_;clear F;exact rest _ vT0 vT0 vT0 vT0 vT0 vT0 vT0 vT0 wT0
theorem kd_dec {t:Tb}(hk:Ok t){i:Nat}(hi:i<t.rs.length):decide ((get t.rs i).kd≠1)=decide ((get t.rs i).kd=2):=by
 have h:=hk.alone _ hi;rcases zvh h with h|h<;>rw [h.1]<;>decide
def VolR (t:Tb) (s:ByteArray) (fine:Bool) (r:AV):Prop :=
 (∃e,e≠0/\(∀f,zsd t s fine f=bad e)/\r= .tup [.int .i64 0,.int .i64 e]) \/
 (hasB s t.rs=true/\(∀f,zsd t s fine f=good ⟨t.nx,t.rs.set (fndI s t.rs) (f (get t.rs (fndI s t.rs)))⟩)/\r= .tup [.int .i64 (fndI s t.rs:Nat),.int .i64 0])
theorem zpp {H:AH}[hn:HN H]{t:Tb}{v lv:AV}{l:List (AV×Rc)}{s:ByteArray}{fine:Bool}(h:DbIn H t v lv l) (hs:s.size<=100000) :
  FnE lookM 98 [tbA t.nx v lv,.str s,.bool fine] H fun r H'=>VolR t s fine r/\HX H H':=by
 refine fI Tryz.f98 ?_;have hlo:=hn.lo;have hnm:= @FnX.p _ _ _ _ (zlu s oM)
 have F:=J2 @zba @zea;refine uT ?_;refine cR_at (fun H1=>HX H H1/\H1.next=H.next+1/\H1.get H.next=some (tbx t.nx v lv)) ?_ ?_
 ·exact ⟨hxt,rfl,zaa _⟩
 rintro H1 ⟨hx1,hn1,g0⟩;haveI:=hx1.hn;refine cR_f (dchk (h.hx hx1)) ?_;rintro r2 H2 ⟨rfl,hx2⟩;have hx02:=hx1.trans hx2;have hn2:=hx2.next;have g0:=(hx2.get (i:=H.next) oM).trans g0
 haveI:=hx02.hn;have ec:∀f,zsd t s fine f=if zvb t then chgO t s fine f else bad 2:=fun f=>znj1 t s fine f
 cases hc:zvb t with
 |false =>
  rw [znr hc];refine uX0 ?_;exact ⟨.inl ⟨2,dC,fun f=>by rw [ec,hc];rfl,rfl⟩,hx02⟩
 |true =>
 rw [zmr hc];have hk:=checkB_ok.1 hc;have ec:∀f,zsd t s fine f=chgO t s fine f:=fun f=>by rw [ec,hc];rfl
 unfold chgO at ec;cases a1:partB s || snapB s with
 |false =>
  have F:=J2 @hnm @a1;refine uX ?_;exact ⟨.inl ⟨2,dC,fun f=>by rw [ec,a1,qr3];rfl,rfl⟩,hx02⟩
 |true =>
 cases a0:fine with
 |false =>
  have F:=J2 @hnm @a1;refine uX ?_;exact ⟨.inl ⟨2,dC,fun f=>by rw [← a0,ec,a0,qi3];rfl,rfl⟩,hx02⟩
 |true =>
 have ec:∀f,zsd t s true f=if hasB s t.rs then (if (get t.rs (fndI s t.rs)).kd=2 then bad 18 else good ⟨t.nx,t.rs.set (fndI s t.rs) (f (get t.rs (fndI s t.rs)))⟩) else bad 6:=fun f=>by
  rw [← a0,ec,a0,a1];rfl
 have F:=J4 @hnm @a1 @g0 @zea;refine uT ?_;refine cR_f (dfnd (h.hx hx02) s) ?_;rintro r3 H3 ⟨rfl,hx3⟩;have hx03:=hx02.trans hx3;have hn3:=hx3.next;have g0:=(hx3.get (i:=H.next) oM).trans g0
 haveI:=hx03.hn;cases a2:hasB s t.rs with
 |false =>
  refine uX0 ?_;exact ⟨.inl ⟨6,dC,fun f=>by rw [ec,a2];rfl,rfl⟩,hx03⟩
 |true =>
 obtain ⟨q1,q2⟩:=zza a2;have h3:=h.hx hx03;obtain ⟨p,hp,hp2,hph⟩:=h3.at q1;have hix:=ix44 (z:=44) (q:=fndI s t.rs) h3.d.rd.sl.is (by have:=h3.d.len;omega)
 have hfa:=fa_el h3.d.rd.sl.is (show fndI s t.rs<l.length by have:=h3.d.len;omega) 44 2
 have hld:=h3.d.rd.sl.fld hp (j:=2) (x:=.int .i64 p.2.kd) rfl;rw [hp2] at hld;have hkd:=kd_dec hk q1;by_cases c2:(get t.rs (fndI s t.rs)).kd=2
 ·rw [qk c2] at hkd
  have F:=J6 @g0 @tb_1 @hix @hfa @hld @hkd;refine uT ?_;exact ⟨.inl ⟨18,dC,fun f=>by rw [ec,a2,qi rfl,qi c2],rfl⟩,hx03⟩
 ·rw [qq c2] at hkd
  have F:=J6 @g0 @tb_1 @hix @hfa @hld @hkd;refine uT ?_;exact ⟨.inr ⟨a2,fun f=>by rw [ec,a2,qi rfl,qd c2],rfl⟩,hx03⟩
theorem zao (n a b:Int) (H:AH):FnE lookM 49 [.int .i64 n,.int .i64 a,.int .i64 b] H fun r H'=>r= .bool (wi n a b)/\H=H':=(d13_ok n a b H).mono fun _ _ h=>⟨h.1,h.2.symm⟩
set_option maxHeartbeats 16000000 in
theorem zro1 {H:AH}[hn:HN H]{t:Tb}{v lv:AV}{l:List (AV×Rc)}{s:ByteArray}{n:Int}(h:DbIn H t v lv l) (hs:s.size<=100000) :
  FnE lookM 82 [tbA t.nx v lv,.str s,.int .i64 n] H fun r H'=>DbR H' r (sizeT t s n)/\HX H H':=by
 refine fJ Tryz.f82 o82 ?_;have hlo:=hn.lo;have hlen:=h.len;have e01:=hEq_f (oM:H.next≠H.next+1)
 have o1:=o0;have F:=J4 @zba @zcb @zea @e01;refine uT ?_;refine rk_at (fun H1=>HX H H1/\H1.next=H.next+2/\H1.get H.next=some (tbx t.nx v lv)/\H1.get (H.next+1)=some (tbx 0 .nilSl .nilSl)) ?_ ?_
 ·exact ⟨hxt,rfl,by have F:=@e01;exact vT,zaa _⟩
 rintro H1 ⟨hx1,hn1,g0,g1⟩;haveI:=hx1.hn;refine rk_cw (js:= [H.next]) (R:=fun r H'=>r= .bool (wi n 1 64)/\H1=H') ?_ ?_ ?_
 ·rw [zwc]
  refine zka (o:=0) ?_ zeb<;>(exact vT0)
 ·refine uT0 ?_;exact zao n 1 64 H1
 rintro r2 H2 ⟨rfl,rfl⟩;refine ⟨zhb (HX.refl _) _ fun i hi=> ?_,?_⟩
 ·simp only [qx1] at hi
  subst hi;exact ⟨oM,_,_,_,_,_,g0⟩
 have F:=@zvd;refine uT ?_;refine cR_f (zpp (h.hx hx1) hs) ?_;rintro r2 H2 ⟨hv2,hx2⟩;have hx02:=hx1.trans hx2;have hn2:=hx2.next;have g0:=(hx2.get (i:=H.next) oM).trans g0
 have g1:=(hx2.get (i:=H.next+1) oM).trans g1
 haveI:=hx02.hn;have hlo2:H2.lo=H.lo:=hx02.lo;unfold sizeT;rcases hv2 with ⟨e,he,hch,rfl⟩|⟨a2,hch,rfl⟩
 ·have d1:decide (e≠0)=true:=qk he
  have F:=J7 @d1 @tb_bu @g1 @zba @zea @zha @ld7;refine uT ?_;exact dbad hx02 oM he (hch _)
 rw [hch];obtain ⟨q1,q2⟩:=zza a2;have F:=J2 @g0 @zea;refine uT ?_;refine cR_f (zvk (h.hx hx02).d h.ll) ?_;rintro r6 H6 ⟨⟨v6,lv6,l6,rfl,hr6,hl6,hod6,hol6⟩,hx6⟩;have hx06:=hx02.trans hx6;have hn6:=hx6.next;have g1:=(hx6.get (i:=H.next+1) oM).trans g1
 haveI:=hx06.hn;have hlo6:H6.lo=H.lo:=hx06.lo;have hll:=h.d.len;have hlpos:0<l6.length:=oM
 have o6:=zbb (nn:=t.nx) (v:=v6) (lv:=lv6) (OwnS.one hod6.own).1 (OwnS.one hol6).1;obtain ⟨pi,hpi⟩:∃p,l6[fndI s t.rs]? =some p:=⟨_,qo oM⟩
 have he6:rcs l6=t.rs:=hr6.trans h.d.eq;have hgi:pi.2=get t.rs (fndI s t.rs):=by have:=zti hpi;rw [he6] at this;exact this.symm
 obtain ⟨j,op,rfl,hNj,hj,cc,hgj⟩:=hod6.sl_of hlpos;have hx7:HX H6 ((H6.new (tbx 0 .nilSl .nilSl)).put H6.next (tbx t.nx (.sl j 0 l6.length l6.length op) lv6)):=hxt;have hod7:=hod6.hx hx7;have g7:((H6.new (tbx 0 .nilSl .nilSl)).put H6.next (tbx t.nx (.sl j 0 l6.length l6.length op) lv6)).get H6.next=some (tbx t.nx (.sl j 0 l6.length l6.length op) lv6):=zia _ _;have hn7:((H6.new (tbx 0 .nilSl .nilSl)).put H6.next (tbx t.nx (.sl j 0 l6.length l6.length op) lv6)).next=H6.next+1:=rfl;have hh7:HN ((H6.new (tbx 0 .nilSl .nilSl)).put H6.next (tbx t.nx (.sl j 0 l6.length l6.length op) lv6)):=inferInstance
 have hol7:=OwnS.hx hol6 hx7;have hix:ixS 44 (.sl j 0 l6.length l6.length op) (.int .i64 (fndI s t.rs:Nat))=some (elA 44 (.sl j 0 l6.length l6.length op) (fndI s t.rs)):=ix44 (H:=H6) hod6.rd.sl.is oM
 have hl60:H6.lo<=H6.next:=HN.lo;have F:=J3 @zcb @zba @zha;refine uT ?_;generalize ((H6.new (tbx 0 .nilSl .nilSl)).put H6.next (tbx t.nx (.sl j 0 l6.length l6.length op) lv6))=H7 at *
 have hlo7:H7.lo=H.lo:=hx7.lo.trans hlo6;obtain ⟨H8,w1,hod8,w3⟩:=hod7.st (t:=3) (x:=.int .i64 n) hpi (oM:3<44) (p':=(pi.1,{pi.2 with sz:=n})) rfl rfl sz3i rfl oM
 haveI hh8:HN H8:=w3.hn;have hlo8:H8.lo=H.lo:=w3.lo.trans hlo7;have hne:H6.next≠j:=oM
 have hgj7:=(hx7.get hj).trans hgj;have g8:=(w3.get (i:=H6.next) oM hne).trans g7
 have g1:=(w3.get (i:=H.next+1) oM oM).trans ((hx7.get (i:=H.next+1) oM).trans g1)
 have hol8:OwL H8 lv6 H2.next:=OwnS.hq hol7 w3 fun j' o n c op' he=>by
  intro e;subst e;exact OwnS.ne hol7 hgj7 dC _ _ _ _ he
 have hx08:HX H H8:=HX.hp2 (hx06.trans hx7) w3 fun i hi=>oM
 have e1n:=hEq_f (oM:H.next+1≠H6.next)
 have F:=J11 @g7 @tb_1 @hix @w1 @g8 @zea @e1n @g1 @zba @zha @ld7;refine uT ?_;have hd8:TbD H8 ⟨t.nx,t.rs.set (fndI s t.rs) {get t.rs (fndI s t.rs) with sz:=n}⟩ (.sl j 0 l6.length l6.length op) lv6 (l6.set (fndI s t.rs) (pi.1,{pi.2 with sz:=n})):=by
  refine ⟨?_,?_,OwL.lvd hol8⟩
  ·have:=hod8.rd;exact this
  ·rw [zwk,he6,hgi]
 exact ⟨.inr ⟨_,_,lv6,_,rfl,rfl,hd8.put (HP.put _ _ _) g1 dC dC dC⟩,HX.put hx08 oM _⟩
set_option maxHeartbeats 16000000 in
theorem dlim_ok {H:AH}[hn:HN H]{t:Tb}{v lv:AV}{l:List (AV×Rc)}{s:ByteArray}{q r:Int}(h:DbIn H t v lv l) (hs:s.size<=100000) :
  FnE lookM 83 [tbA t.nx v lv,.str s,.int .i64 q,.int .i64 r] H fun r' H'=>DbR H' r' (limT t s q r)/\HX H H':=by
 refine fJ Tryz.f83 o83 ?_;have hlo:=hn.lo;have hlen:=h.len;have e01:=hEq_f (oM:H.next≠H.next+1)
 have o1:=o0;have F:=J4 @zba @zcb @zea @e01;refine uT ?_;refine rk_at (fun H1=>HX H H1/\H1.next=H.next+2/\H1.get H.next=some (tbx t.nx v lv)/\H1.get (H.next+1)=some (tbx 0 .nilSl .nilSl)) ?_ ?_
 ·exact ⟨hxt,rfl,by have F:=@e01;exact vT,zaa _⟩
 rintro H1 ⟨hx1,hn1,g0,g1⟩;haveI:=hx1.hn;have cont:∀(T:Tr AV) (k:K2) (ss:List Kf) (Q:PostC),(∀v2 H2,VolR t s (wi q 0 64 && wi r 0 64) v2->HX H1 H2->RK lookM k ss (pS 22 v2 T) H2 Q) ->
   cR false lookM 98 [tbA t.nx v lv,.str s,.bool (wi q 0 64 && wi r 0 64)] H1 22 k ss T Q:=by
  intro T k ss Q hk;refine cR_f (zpp (h.hx hx1) hs) ?_;rintro v2 H2 ⟨hv2,hx2⟩;exact hk v2 H2 hv2 hx2
 refine rk_cw (js:= [H.next]) (R:=fun r H'=>r= .bool (wi q 0 64)/\H1=H') ?_ ?_ ?_
 ·rw [zwc]
  refine zka (o:=0) ?_ zeb<;>(exact vT0)
 ·refine uT0 ?_;exact zao q 0 64 H1
 rintro r2 H2 ⟨rfl,rfl⟩;refine ⟨zhb (HX.refl _) _ fun i hi=> ?_,?_⟩
 ·simp only [qx1] at hi
  subst hi;exact ⟨oM,_,_,_,_,_,g0⟩
 cases a1:wi q 0 64 with
 |false =>
  rw [a1] at cont;have F:=@zvd;refine uX ?_;refine cont _ _ _ _ ?_;intro r2 H2 hv2 hx2;have hx02:=hx1.trans hx2;have hn2:=hx2.next;have g1:=(hx2.get (i:=H.next+1) oM).trans g1
  haveI:=hx02.hn;have hlo2:H2.lo=H.lo:=hx02.lo;unfold limT;rw [a1];rcases hv2 with ⟨e,he,hch,rfl⟩|⟨a2,hch,rfl⟩
  ·have d1:decide (e≠0)=true:=qk he
   have F:=J7 @d1 @tb_bu @g1 @zba @zea @zha @ld7;refine uT ?_;exact dbad hx02 oM he (hch _)
  ·have h1:=hch (fun x=>x)
   unfold zsd at h1;rw [qi3,qi3,qr3] at h1;cases h1
 |true =>
 rw [a1] at cont;have F:=@zvd;refine uT ?_;refine rk_cw (js:= [H.next]) (R:=fun r' H'=>r'= .bool (wi r 0 64)/\H1=H') ?_ ?_ ?_
 ·rw [zwc]
  refine zka (o:=0) ?_ zeb<;>(exact vT0)
 ·refine uT0 ?_;exact zao r 0 64 H1
 rintro r2 H2 ⟨rfl,rfl⟩;refine ⟨zhb (HX.refl _) _ fun i hi=> ?_,?_⟩
 ·simp only [qx1] at hi
  subst hi;exact ⟨oM,_,_,_,_,_,g0⟩
 have F:=@zvd;refine uT ?_;refine cont _ _ _ _ ?_;intro r2 H2 hv2 hx2;have hx02:=hx1.trans hx2;have hn2:=hx2.next;have g0:=(hx2.get (i:=H.next) oM).trans g0
 have g1:=(hx2.get (i:=H.next+1) oM).trans g1
 haveI:=hx02.hn;have hlo2:H2.lo=H.lo:=hx02.lo;unfold limT;rw [a1];rcases hv2 with ⟨e,he,hch,rfl⟩|⟨a2,hch,rfl⟩
 ·have d1:decide (e≠0)=true:=qk he
  have F:=J7 @d1 @tb_bu @g1 @zba @zea @zha @ld7;refine uT ?_;exact dbad hx02 oM he (hch _)
 rw [hch];obtain ⟨q1,q2⟩:=zza a2;have F:=J2 @g0 @zea;refine uT ?_;refine cR_f (zvk (h.hx hx02).d h.ll) ?_;rintro r6 H6 ⟨⟨v6,lv6,l6,rfl,hr6,hl6,hod6,hol6⟩,hx6⟩;have hx06:=hx02.trans hx6;have hn6:=hx6.next;have g1:=(hx6.get (i:=H.next+1) oM).trans g1
 haveI:=hx06.hn;have hlo6:H6.lo=H.lo:=hx06.lo;have hll:=h.d.len;have hlpos:0<l6.length:=oM
 have o6:=zbb (nn:=t.nx) (v:=v6) (lv:=lv6) (OwnS.one hod6.own).1 (OwnS.one hol6).1;obtain ⟨pi,hpi⟩:∃p,l6[fndI s t.rs]? =some p:=⟨_,qo oM⟩
 have he6:rcs l6=t.rs:=hr6.trans h.d.eq;have hgi:pi.2=get t.rs (fndI s t.rs):=by have:=zti hpi;rw [he6] at this;exact this.symm
 obtain ⟨j,op,rfl,hNj,hj,cc,hgj⟩:=hod6.sl_of hlpos;have hx7:HX H6 ((H6.new (tbx 0 .nilSl .nilSl)).put H6.next (tbx t.nx (.sl j 0 l6.length l6.length op) lv6)):=hxt;have hod7:=hod6.hx hx7;have g7:((H6.new (tbx 0 .nilSl .nilSl)).put H6.next (tbx t.nx (.sl j 0 l6.length l6.length op) lv6)).get H6.next=some (tbx t.nx (.sl j 0 l6.length l6.length op) lv6):=zia _ _;have hn7:((H6.new (tbx 0 .nilSl .nilSl)).put H6.next (tbx t.nx (.sl j 0 l6.length l6.length op) lv6)).next=H6.next+1:=rfl;have hh7:HN ((H6.new (tbx 0 .nilSl .nilSl)).put H6.next (tbx t.nx (.sl j 0 l6.length l6.length op) lv6)):=inferInstance
 have hol7:=OwnS.hx hol6 hx7;have hix:ixS 44 (.sl j 0 l6.length l6.length op) (.int .i64 (fndI s t.rs:Nat))=some (elA 44 (.sl j 0 l6.length l6.length op) (fndI s t.rs)):=ix44 (H:=H6) hod6.rd.sl.is oM
 have hl60:H6.lo<=H6.next:=HN.lo;have F:=J3 @zcb @zba @zha;refine uT ?_;generalize ((H6.new (tbx 0 .nilSl .nilSl)).put H6.next (tbx t.nx (.sl j 0 l6.length l6.length op) lv6))=H7 at *
 have hlo7:H7.lo=H.lo:=hx7.lo.trans hlo6;obtain ⟨H8,w1,hod8,w3⟩:=hod7.st (t:=3) (x:=.int .i64 q) hpi (oM:42<44) (p':=(pi.1,{pi.2 with qu:=q})) rfl rfl sz3i rfl oM
 haveI hh8:HN H8:=w3.hn;have hlo8:H8.lo=H.lo:=w3.lo.trans hlo7;have hne:H6.next≠j:=oM
 have hgj7:=(hx7.get hj).trans hgj;have g8:=(w3.get (i:=H6.next) oM hne).trans g7
 have g1:=(w3.get (i:=H.next+1) oM oM).trans ((hx7.get (i:=H.next+1) oM).trans g1)
 have hol8:OwL H8 lv6 H2.next:=OwnS.hq hol7 w3 fun j' o n c op' he=>by
  intro e;subst e;exact OwnS.ne hol7 hgj7 dC _ _ _ _ he
 have hll8:(l6.set (fndI s t.rs) (pi.1,{pi.2 with qu:=q})).length=l6.length:=qj2
 have hpi8:(l6.set (fndI s t.rs) (pi.1,{pi.2 with qu:=q}))[fndI s t.rs]? =some (pi.1,{pi.2 with qu:=q}):=qk4 oM
 rw [← hll8] at hod8;obtain ⟨H9,x1,hod9,x3⟩:=hod8.st (t:=3) (x:=.int .i64 r) hpi8 (oM:43<44) (p':=(pi.1,{pi.2 with qu:=q,rs:=r})) rfl rfl sz3i rfl oM
 rw [hll8] at hod9;haveI hh9:HN H9:=x3.hn;have hlo9:H9.lo=H.lo:=x3.lo.trans hlo8;have hn8:=w3.next;have g9:=(x3.get (i:=H6.next) oM hne).trans g8
 have g1:=(x3.get (i:=H.next+1) oM oM).trans g1
 have hol9:OwL H9 lv6 H2.next:=OwnS.hq hol8 x3 fun j' o n c op' he=>by
  intro e;subst e;exact OwnS.ne hol7 hgj7 dC _ _ _ _ he
 have hx09:HX H H9:=HX.hp2 (HX.hp2 (hx06.trans hx7) w3 fun i hi=>oM) x3 fun i hi=>oM
 have e1n:=hEq_f (oM:H.next+1≠H6.next)
 have F:=J13 @g7 @tb_1 @hix @w1 @g8 @x1 @g9 @zea @e1n @g1 @zba @zha @ld7;refine uT ?_;have hd9:TbD H9 ⟨t.nx,t.rs.set (fndI s t.rs) {get t.rs (fndI s t.rs) with qu:=q,rs:=r}⟩ (.sl j 0 l6.length l6.length op) lv6 _:=hod9.tbd (by
  rw [zwk,zwk,List.set_set,he6,hgi]) hol9
 exact ⟨.inr ⟨_,_,lv6,_,rfl,rfl,hd9.put (HP.put _ _ _) g1 dC dC dC⟩,HX.put hx09 oM _⟩
abbrev lvb:ABlk:=.cells (.lst [.int .i64 0,.int .i64 0]) 3 1 false false
theorem ms2 (H:AH):zqc lookM 35 (.int .i64 2) (.int .i64 2) H=some (.sl H.next 0 2 2 false,H.new lvb):=kR
theorem tb_bu4 (i:Nat):zsa lookM 53 (zipF [0,3] [.int .i64 1,.sl i 0 2 2 false])=some (tbA 1 .nilSl (.sl i 0 2 2 false)):=kR
def NewR (H H':AH) (r:AV):Prop:= ∃lv,r= .tup [tbA 1 .nilSl lv,.int .i64 0]/\LvD H' lv/\HX H H'
theorem zoj1 {H:AH}[hn:HN H](b b':ABlk):LvD (((H.new b).new lvb).put H.next b') (.sl (H.next+1) 0 2 2 false):=by
 refine ⟨H.next+1,false,rfl,⟨.lst lvL,?_,rfl⟩,by show H.next+1<_;exact qd1 _⟩
 rw [zyb _ oM]
 exact zaa _
theorem zyu {H:AH}[hn:HN H]:FnE lookM 21 [.int .i64 2] H fun r H'=>NewR H H' r:=by
 refine fI Tryz.f21 ?_;have hlo:=hn.lo;have o1:=o0;have e01:=hEq_f (oM:H.next≠H.next+1)
 have o2:=zbb (nn:=1) (v:=.nilSl) (lv:=.sl (H.next+1) 0 2 2 false) rfl rfl;have d1:decide ((2:Int)<2)=false:=rfl;have d2:decide ((8:Int)<2)=false:=rfl;have F:=J11 @zba @zcb @zea @zha @ld7 @ms2 @tb_bu4 @d1 @d2 @e01 @o2;refine uT ?_;exact ⟨_,rfl,zoj1 _ _,hxt⟩
theorem dnew_ok {H:AH}[hn:HN H]:FnE lookM 22 [.int .i64 2] H fun r H'=>NewR H H' r:=by
 refine fI Tryz.f22 ?_;have hlo:=hn.lo;have o1:=o0;have e01:=hEq_f (oM:H.next≠H.next+1)
 have o2:=zbb (nn:=1) (v:=.nilSl) (lv:=.sl (H.next+1) 0 2 2 false) rfl rfl;have w:wi 2 2 8=true:=dC
 have F:=J11 @zba @zcb @zea @zha @ld7 @ms2 @tb_bu4 @d13 @w @e01 @o2;refine uT ?_;exact ⟨_,rfl,zoj1 _ _,hxt⟩
abbrev us6 (a b c d e f:Bool):List AV:= [.bool a,.bool b,.bool c,.bool d,.bool e,.bool f]
abbrev us6A (a b c d e f:Bool):AV:=.agg [.bool a,.bool b,.bool c,.bool d,.bool e,.bool f]
def usA (u:Bool×Bool×Bool×Bool×Bool×Bool):AV:=us6A u.1 u.2.1 u.2.2.1 u.2.2.2.1 u.2.2.2.2.1 u.2.2.2.2.2
def uAllL:List AV:=us6 false false false false false false ++
 us6 true false true false false false ++
 us6 true false false false false false ++
 us6 true true false false false false ++
 us6 true false false false false false ++
 us6 true false false false false false ++
 us6 true true false false false false ++
 us6 true false true false false false ++
 us6 true false true true false false ++
 us6 true false false false false false ++
 us6 true true false false false false ++
 us6 false false false false true false ++
 us6 true false true true false false ++
 us6 true false true false false true ++
 us6 true false true true false false ++
 us6 true false false false false false ++
 us6 true false false false false false ++
 us6 false false false false false false ++
 us6 false false true false false false ++
 us6 false false false false false false ++
 us6 false false true false false false ++
 us6 false false true false false false ++
 us6 false false false false false false ++
 us6 false false false false false false ++
 us6 false false false false false false
def zUL:List AV:=List.replicate 150 (.bool false)
theorem zsb (a b c d e f:Bool):AV.toC (us6A a b c d e f)= .lst (us6 a b c d e f):=rfl
theorem zxb (a b c d e f:Bool) (e' z:Nat) (op ro:Bool):sbB (some (.cells (.lst (us6 a b c d e f)) e' z op ro)) 0 6=some (us6A a b c d e f):=zth rfl
theorem us_w (a b c d e f a' b' c' d' e' f':Bool) (i t:Nat) (op:Bool) (H:AH):wrN (some (.cells (.lst (us6 a b c d e f)) t 6 op false)) i 0 6 (.lst (us6 a' b' c' d' e' f')) H=some (H.put i (.cells (.lst (us6 a' b' c' d' e' f')) t 6 op false)):=wrN_l rfl rfl rfl
theorem ld6 (i o:Nat) (H:AH):zub lookM 103 (.ptr i o) H=ldN 6 (.ptr i o) H:=zeg kR kR
theorem us_b0:zsa lookM 103 (zipF [0,2] [.bool true,.bool true])=some (us6A true false true false false false):=kR
theorem us_b1:zsa lookM 103 (zipF [0] [.bool true])=some (us6A true false false false false false):=kR
theorem us_b2:zsa lookM 103 (zipF [0,1] [.bool true,.bool true])=some (us6A true true false false false false):=kR
theorem us_b3:zsa lookM 103 (zipF [0,2,3] [.bool true,.bool true,.bool true])=some (us6A true false true true false false):=kR
theorem us_b4:zsa lookM 103 (zipF [4] [.bool true])=some (us6A false false false false true false):=kR
theorem us_b5:zsa lookM 103 (zipF [0,2,5] [.bool true,.bool true,.bool true])=some (us6A true false true false false true):=kR
theorem us_b6:zsa lookM 103 (zipF [2] [.bool true])=some (us6A false false true false false false):=kR
theorem us_b7:zsa lookM 103 (zipF [] [])=some (us6A false false false false false false):=kR
theorem us_bA:zsa lookM 123 (zipF [1,2,3,4,5,6,7,8,9,10,11,12,13,14,15,16,18,20,21,24] [us6A true false true false false false,us6A true false false false false false,us6A true true false false false false,us6A true false false false false false,us6A true false false false false false,us6A true true false false false false,us6A true false true false false false,us6A true false true true false false,us6A true false false false false false,us6A true true false false false false,us6A false false false false true false,us6A true false true true false false,us6A true false true false false true,us6A true false true true false false,us6A true false false false false false,us6A true false false false false false,us6A false false true false false false,us6A false false true false false false,us6A false false true false false false,us6A false false false false false false])=some (.agg uAllL):=kR
theorem us_zA:zC lookM 123= .lst zUL:=kR
theorem us_cA:AV.toC (.agg uAllL)= .lst uAllL:=kR
theorem us_wA (i e:Nat) (op:Bool) (H:AH):wrN (some (.cells (.lst zUL) e 150 op false)) i 0 150 (.lst uAllL) H=some (H.put i (.cells (.lst uAllL) e 150 op false)):=wrN_l rfl rfl rfl
theorem us_at (e z:Nat) (op ro:Bool):∀k:Nat,k<25->sbB (some (.cells (.lst uAllL) e z op ro)) (k*6) 6=some (usA (usesO k))
 |0,_=>kR
 |1,_=>kR
 |2,_=>kR
 |3,_=>kR
 |4,_=>kR
 |5,_=>kR
 |6,_=>kR
 |7,_=>kR
 |8,_=>kR
 |9,_=>kR
 |10,_=>kR
 |11,_=>kR
 |12,_=>kR
 |13,_=>kR
 |14,_=>kR
 |15,_=>kR
 |16,_=>kR
 |17,_=>kR
 |18,_=>kR
 |19,_=>kR
 |20,_=>kR
 |21,_=>kR
 |22,_=>kR
 |23,_=>kR
 |24,_=>kR
 |k+25,h=>absurd h oM
theorem ixA_n {n z i o k:Nat}(h:k<n):ixA n z (.ptr i o) (.int .i64 (k:Nat))=some (.ptr i (o+k*z)):=by
 show (brec none (some (AV.ptr i (Nat.add o (Nat.mul k z)))) (Nat.blt k n))=_
 rw [show Nat.blt k n=true from qe h];rfl
theorem zpj1 {op:Int}(h:op<0\/25<=op):usesO op=(false,false,false,false,false,false):=by
 unfold usesO;rw [qd oM,qd oM,qd oM,qd oM,qd oM,qd oM,qd oM]
theorem uses_ok {H:AH}[hn:HN H](op:Int):FnE lookM 50 [.int .i64 op] H fun r H'=>r=usA (usesO op)/\HX H H':=by
 refine fI Tryz.f50 ?_;have hlo:=hn.lo;have e01:=hEq_f (oM:H.next≠H.next+1)
 cases a1:decide (op<0) with
 |true =>
  have h1:=qg a1;rw [zpj1 (.inl h1)];have F:=J16 @zsb @zxb @us_w @us_b0 @us_b1 @us_b2 @us_b3 @us_b4 @us_b5 @us_b6 @us_b7 @us_bA @us_zA @us_cA @us_wA (J3 @a1 @ld6 @e01);refine uT ?_;exact ⟨rfl,hxt⟩
 |false =>
 have h1:=qh a1;cases a2:decide (25<=op) with
 |true =>
  have h2:=qg a2;rw [zpj1 (.inr h2)];have F:=J16 @zsb @zxb @us_w @us_b0 @us_b1 @us_b2 @us_b3 @us_b4 @us_b5 @us_b6 @us_b7 @us_bA @us_zA @us_cA @us_wA (J4 @a1 @a2 @ld6 @e01);refine uT ?_;exact ⟨rfl,hxt⟩
 |false =>
 have h2:=qh a2;obtain ⟨k,rfl⟩:∃k:Nat,op=k:=⟨op.toNat,oM⟩
 have hk:k<25:=oM
 have hix:=fun i=> @ixA_n 25 6 i 0 k hk
 have hat:=fun e z op ro=>us_at e z op ro k hk
 have hu:usA (usesO (k:Int))=us6A (usesO (k:Int)).1 (usesO (k:Int)).2.1 (usesO (k:Int)).2.2.1 (usesO (k:Int)).2.2.2.1 (usesO (k:Int)).2.2.2.2.1 (usesO (k:Int)).2.2.2.2.2:=rfl;rw [hu] at hat ⊢
 have F:=J16 @zsb @zxb @us_w @us_b0 @us_b1 @us_b2 @us_b3 @us_b4 @us_b5 @us_b6 @us_b7 @us_bA @us_zA @us_cA @us_wA (J6 @a1 @a2 @ld6 @e01 @hix @hat);refine uT ?_;exact hxt
def LenV (v:AV) (n:Nat):Prop:=(∀{t e:Nat},lookM.under t=some (.slice e)-> ∀H:AH,fstO (zda .len lookM [t] [v] H)=some (.int .i64 n))/\v.oneCell=true/\v.toC= .lst [v]
theorem zbm {H:AH}{v:AV}{n:Nat}(h:IsSl H v n):LenV v n:=by
 refine ⟨fun {t e} ht H'=>ztc ht h,?_⟩
 rcases h with ⟨rfl,_⟩|⟨i,o,c,op,rfl,_⟩<;>exact ⟨rfl,rfl⟩
def SlT (H:AH) (v:AV) (l:List ByteArray):Prop:=LenV v l.length/\(0<l.length->SlR H v l.length fun k=>.str ((l[k]?).getD ⟨#[]⟩))
theorem SlT.is {H:AH}{v:AV}{l:List ByteArray}(h:SlT H v l) (h0:0<l.length):IsSl H v l.length:=(h.2 h0).is
theorem SlT.hx {H H':AH}{v:AV}{l:List ByteArray}(h:SlT H v l) (hx:HX H H'):SlT H' v l:=⟨h.1,fun h0=>(h.2 h0).hx hx⟩
theorem uTs:lookM.under 29=some (.slice 9):=kR
theorem uBs:lookM.under 30=some (.slice 5):=kR
theorem uOs:lookM.under 22=some (.slice 32):=kR
theorem SlT.at {H:AH}{v:AV}{l:List ByteArray}(h:SlT H v l){k:Nat}{s:ByteArray}(hk:l[k]? =some s):ld1 (elA 1 v k) H=some (.str s):=by
 have hl:=(qp.1 hk).1;have:=(h.2 oM).el k hl
 rw [hk] at this;exact this
theorem zyh {α:Type}{f:α->Bool}{l:List α}{q:Nat}{r:α}(h:l[q]? =some r):(l.take (q+1)).any f=((l.take q).any f || f r):=by
 rw [qc4,h,qj3,List.any_append];simp
theorem zqp {α:Type}{f:α->Bool}{l:List α}{q:Nat}{r:α}(h:l[q]? =some r) (hf:f r=true):l.any f=true:=qw3.2 ⟨r,qy.2 ⟨q,h⟩,hf⟩
theorem idxS_ok {H:AH}[hn:HN H]{v:AV}{l:List ByteArray}{p:ByteArray->Bool}{g:Nat}{caps:List AV}(hsl:SlT H v l) (hlen:l.length<=1000000)
  (hp:∀(H1:AH) (s:ByteArray),FnX lookM g (.str s::caps) H1 (.bool (p s)) H1) :
  FnE lookM 70 [v,.fn (.func g) [] caps] H fun r H'=>(∃n:Int,r= .int .i64 n/\decide (0<=n)=l.any p)/\HX H H':=by
 refine fI Tryz.f70 ?_;have hl:=fun H'=>hsl.1.1 uTs H'
 have F:=@hl;refine uT ?_;refine rc_l (fun n T H'=> ∃q,n+q=l.length/\H'=H/\gT T 0=v/\gT T 1= .fn (.func g) [] caps/\gT T 7= .int .i64 l.length/\gT T 8= .int .i64 q/\(l.take q).any p=false) l.length ?_ ?_
 ·exact ⟨0,rfl,rfl,vT0,vT0,vT0,by refine uT0 ?_;rfl,by simp⟩
 ·rintro n T H' ⟨q,hnq,rfl,g0,g1,g7,g8,hall⟩
  cases n with
  |zero =>
   rw [qx oM] at hall
   have F:=J4 @g0 @g1 @g7 @g8;refine uT ?_;exact ⟨⟨-1,rfl,by rw [hall];rfl⟩,HX.refl _⟩
  |succ n =>
   have hq:q<l.length:=oM
   have hk:l[q]? =some l[q]:=qo hq;have hix:=ix44 (z:=1) (q:=q) (hsl.is oM) hq
   have hld:=hsl.at hk;generalize l[q]=s at *
   have hc:= @FnX.p _ _ _ _ (fun H1=>hp H1 s)
   cases hpr:p s with
   |true =>
    have F:=J8 @g0 @g1 @g7 @g8 @hix @hld @hc @hpr;refine uX ?_;refine ⟨⟨q,rfl,?_⟩,HX.refl _⟩;rw [zqp hk hpr];exact qk (Int.natCast_nonneg q)
   |false =>
    have F:=J8 @g0 @g1 @g7 @g8 @hix @hld @hc @hpr;refine uX ?_;exact ⟨n,oM,q+1,oM,by push_cast;rfl,by rw [zyh hk,hall,hpr];rfl⟩
theorem zso1 {H:AH}[hn:HN H]{v:AV}{l:List ByteArray}{p:ByteArray->Bool}{g:Nat}{caps:List AV}(hsl:SlT H v l) (hlen:l.length<=1000000)
  (hp:∀(H1:AH) (s:ByteArray),FnX lookM g (.str s::caps) H1 (.bool (p s)) H1) :
  FnE lookM 53 [v,.fn (.func g) [] caps] H fun r H'=>r= .bool (l.any p)/\HX H H':=by
 refine fI Tryz.f53 ?_;refine uT0 ?_;refine cR_f (idxS_ok hsl hlen hp) ?_;rintro r H1 ⟨⟨n,rfl,hn2⟩,hx⟩;have F:=@hn2;refine uT ?_;exact hx
def longB (s:ByteArray):Bool:=decide (48<(s.size:Int))
theorem zqj1 (s:ByteArray) (H:AH):FnX lookM 51 [.str s] H (.bool (longB s)) H:=by
 refine fI Tryz.f51 ?_;have F:=@ls9;refine uT ?_;rfl
theorem zbb1 (n:Int) (H:AH):FnX lookM 52 [.int .i64 n] H (.bool (wi n 0 maxN)) H:=by
 refine fI Tryz.f52 ?_;rw [wi_d];cases h1:decide (0<=n) with
 |false=>have F:=@h1;refine uT ?_;rfl
 |true=>have F:=@h1;refine uT ?_;rfl
theorem zcb1 (n:Int) (H:AH):FnX lookM 60 [.int .i64 n] H (.bool (wi n 0 maxN)) H:=by
 refine fI Tryz.f60 ?_;rw [wi_d];cases h1:decide (0<=n) with
 |false=>have F:=@h1;refine uT ?_;rfl
 |true=>have F:=@h1;refine uT ?_;rfl
abbrev odL (o:Od) (lv bv:AV):List AV:= [.int .i64 o.op,.str o.nm,.str o.to,.int .i64 o.n,.int .i64 o.m,lv,bv]
abbrev odA (o:Od) (lv bv:AV):AV:=.agg [.int .i64 o.op,.str o.nm,.str o.to,.int .i64 o.n,.int .i64 o.m,lv,bv]
abbrev odx (o:Od) (lv bv:AV):ABlk:=.cells (.lst (odL o lv bv)) 32 7 false false
theorem zke (o:Od) (lv bv:AV):AV.toC (odA o lv bv)= .lst (odL o lv bv):=rfl
theorem od_0 (o:Od) (lv bv:AV):nth (odL o lv bv) 0=some (.int .i64 o.op):=rfl
theorem od_1 (o:Od) (lv bv:AV):nth (odL o lv bv) 1=some (.str o.nm):=rfl
theorem od_2 (o:Od) (lv bv:AV):nth (odL o lv bv) 2=some (.str o.to):=rfl
theorem od_3 (o:Od) (lv bv:AV):nth (odL o lv bv) 3=some (.int .i64 o.n):=rfl
theorem od_4 (o:Od) (lv bv:AV):nth (odL o lv bv) 4=some (.int .i64 o.m):=rfl
theorem od_5 (o:Od) (lv bv:AV):nth (odL o lv bv) 5=some lv:=rfl
theorem od_6 (o:Od) (lv bv:AV):nth (odL o lv bv) 6=some bv:=rfl
theorem zuf (o:Od) (lv bv:AV) (e z:Nat) (op ro:Bool):sbB (some (.cells (.lst (odL o lv bv)) e z op ro)) 0 7=some (odA o lv bv):=zth rfl
theorem us_0 (a b c d e f:Bool):nth (us6 a b c d e f) 0=some (.bool a):=rfl
theorem us_1 (a b c d e f:Bool):nth (us6 a b c d e f) 1=some (.bool b):=rfl
theorem us_2 (a b c d e f:Bool):nth (us6 a b c d e f) 2=some (.bool c):=rfl
theorem us_3 (a b c d e f:Bool):nth (us6 a b c d e f) 3=some (.bool d):=rfl
theorem us_4 (a b c d e f:Bool):nth (us6 a b c d e f) 4=some (.bool e):=rfl
theorem us_5 (a b c d e f:Bool):nth (us6 a b c d e f) 5=some (.bool f):=rfl
structure OdIn (H:AH) (o:Od) (lv bv:AV):Prop where
 l:SlT H lv o.l
 b:LenV bv o.b.length
 ll:o.l.length<=1000000
 bl:o.b.length<=1000000
theorem OdIn.hx {H H':AH}{o:Od}{lv bv:AV}(h:OdIn H o lv bv) (hx:HX H H'):OdIn H' o lv bv:=⟨h.l.hx hx,h.b,h.ll,h.bl⟩
structure OrdP (o:Od):Prop where
 op1:¬o.op<1
 op2:¬24<o.op
 n:wi o.n 0 maxN=true
 m:wi o.m 0 maxN=true
 l:¬16<(o.l.length:Int)
 b:¬16384<(o.b.length:Int)
 nm:longB o.nm=false
 to:longB o.to=false
 ls:o.l.any longB=false
 u1:o.nm=⟨#[]⟩\/(usesO o.op).1=true
 u2:o.to=⟨#[]⟩\/(usesO o.op).2.1=true
 u3:o.n=0\/(usesO o.op).2.2.1=true
 u4:o.m=0\/(usesO o.op).2.2.2.1=true
 u5:¬0<(o.l.length:Int)\/(usesO o.op).2.2.2.2.1=true
 u6:¬0<(o.b.length:Int)\/(usesO o.op).2.2.2.2.2=true
theorem zto1 {s:ByteArray}:s.size=0↔s=⟨#[]⟩:=by
 constructor
 ·intro h
  cases s with
  |mk a =>
   have:a.size=0:=h;rw [Array.eq_empty_of_size_eq_zero this]
 ·rintro rfl;rfl
theorem longB_f {s:ByteArray}:longB s=false↔s.size<=48:=by
 unfold longB;rw [qd4];omega
theorem zxk (o:Od):ordOk o=true↔OrdP o:=by
 unfold ordOk;simp only [qm,qa5,qs,qb1,zto1];constructor
 ·rintro ⟨h1,h2,h3,h4,h5,h6,h7,h8,h9,h10,h11,h12,h13,h14⟩
  rw [wi_d,qm,qs,qs] at h1;refine ⟨oM,oM,h2,h3,oM,oM,longB_f.2 h6,longB_f.2 h7,?_,h9,h10,h11,h12,?_,?_⟩
  ·rw [qh7]
   intro s hs;rw [longB_f.2 (h8 s hs)];decide
  ·rcases h13 with h|h
   ·exact .inl oM
   ·exact .inr h
  ·rcases h14 with h|h
   ·exact .inl oM
   ·exact .inr h
 ·intro h
  refine ⟨by rw [wi_d,qm,qs,qs];exact ⟨by have:=h.op1;omega,by have:=h.op2;omega⟩,h.n,h.m,by have:=h.l;omega,by have:=h.b;omega,longB_f.1 h.nm,longB_f.1 h.to,fun s hs=> ?_,h.u1,h.u2,h.u3,h.u4,?_,?_⟩
  ·have:=qh7.1 h.ls s hs
   exact longB_f.1 (by cases hl:longB s with|false=>rfl|true=>exact absurd hl this)
  ·rcases h.u5 with h|h
   ·exact .inl oM
   ·exact .inr h
  ·rcases h.u6 with h|h
   ·exact .inl oM
   ·exact .inr h
def ordI (o:Od):Int:=if ordOk o then 0 else 2
theorem zrj1 {o:Od}(h:¬OrdP o):ordI o=2:=by
 unfold ordI;cases e:ordOk o with
 |false=>rfl
 |true=>exact absurd ((zxk o).1 e) h
theorem zdb1 {o:Od}(h:OrdP o):ordI o=0:=by
 unfold ordI;rw [(zxk o).2 h];rfl
theorem gR_at {x:AV}{w:Bool}{L:Lk}{d:Nat}{a b:K2}{s:List Kf}{T:Tr AV}{H:AH}{Q:PostC}(P:Tr AV->Prop) (hp:P T) (hk:∀T,P T->gR x w L d a b s T H Q):gR x w L d a b s T H Q:=hk T hp
theorem join3 {x u:Bool}{G C:Prop}(h0:x=false->C->G) (h1:x=true->u=true->C->G) (h2:x=true->u=false->G) (hc:(x=false\/u=true)->C):G:=by
 cases x with
 |false=>exact h0 rfl (hc (.inl rfl))
 |true =>
  cases u with
  |true=>exact h1 rfl rfl (hc (.inr rfl))
  |false=>exact h2 rfl rfl
set_option maxHeartbeats 32000000 in
theorem zzf1 {H:AH}[hn:HN H]{o:Od}{lv bv:AV}(h:OdIn H o lv bv) :
  FnE lookM 28 [odA o lv bv] H fun r H'=>r= .int .i64 (ordI o)/\HX H H':=by
 refine fI Tryz.f28 ?_;have hlo:=hn.lo;have hw:=fun n=> @FnX.p _ _ _ _ (zbb1 n)
 have hlg:=fun s=> @FnX.p _ _ _ _ (zqj1 s)
 have hl:=fun H'=>h.l.1.1 uTs H'
 have hb:=fun H'=>h.b.1 uBs H'
 have F:=J2 @zke @od_0;refine uT ?_;clear F;refine cR_at (fun H1=>HX H H1/\H1.next=H.next+1/\H1.get H.next=some (odx o lv bv)) ?_ ?_
 ·exact ⟨hxt,rfl,zaa _⟩
 rintro H1 ⟨hx1,hn1,g0⟩;haveI:=hx1.hn;refine cR_f (uses_ok o.op) ?_;rintro r2 H2 ⟨rfl,hx2⟩;have hx02:=hx1.trans hx2;have hn2:=hx2.next;have g0:=(hx2.get (i:=H.next) oM).trans g0
 haveI:=hx02.hn;have no:¬OrdP o-> ∀H',HX H H'->AV.int .i64 2= .int .i64 (ordI o)/\HX H H':=fun h H' hx'=>⟨by rw [zrj1 h],hx'⟩
 generalize hu:usesO o.op=u at *
 obtain ⟨u1,u2,u3,u4,u5,u6⟩:=u;have hua:usA (u1,u2,u3,u4,u5,u6)=us6A u1 u2 u3 u4 u5 u6:=rfl;rw [hua];have hlo2:H2.lo<=H2.next:=HN.lo;have F:=J2 @zsb @us_w;refine uT ?_;clear F;have hx3:HX H ((H2.new (.cells (.lst (us6 false false false false false false)) 103 6 false false)).put H2.next (.cells (.lst (us6 u1 u2 u3 u4 u5 u6)) 103 6 false false)):=by have K:=hx02;exact hxk
 have gu:((H2.new (.cells (.lst (us6 false false false false false false)) 103 6 false false)).put H2.next (.cells (.lst (us6 u1 u2 u3 u4 u5 u6)) 103 6 false false)).get H2.next=some (.cells (.lst (us6 u1 u2 u3 u4 u5 u6)) 103 6 false false):=zia _ _;have g3:((H2.new (.cells (.lst (us6 false false false false false false)) 103 6 false false)).put H2.next (.cells (.lst (us6 u1 u2 u3 u4 u5 u6)) 103 6 false false)).get H.next=some (odx o lv bv):=by have F:=@g0;exact vT
 have hn23:H2.next<((H2.new (.cells (.lst (us6 false false false false false false)) 103 6 false false)).put H2.next (.cells (.lst (us6 u1 u2 u3 u4 u5 u6)) 103 6 false false)).next:=qd1 _;generalize ((H2.new (.cells (.lst (us6 false false false false false false)) 103 6 false false)).put H2.next (.cells (.lst (us6 u1 u2 u3 u4 u5 u6)) 103 6 false false))=H3 at *
 haveI:=hx3.hn;have hn3:=hx3.next;have F:=J2 @g0 @od_0;refine uT ?_;clear F;cases a1:decide (o.op<1) with
 |true=>refine uT0 ?_;exact no (fun h=>h.op1 (qg a1)) _ hx3
 |false =>
 have F:=J2 @g3 @od_0;refine uT ?_;clear F;cases a2:decide (24<o.op) with
 |true=>refine uT0 ?_;exact no (fun h=>h.op2 (qg a2)) _ hx3
 |false =>
 have F:=J3 @g3 @od_3 @hw;refine uT ?_;clear F;cases a3:wi o.n 0 maxN with
 |false=>refine uT0 ?_;exact no (fun h=>by rw [h.n] at a3;cases a3) _ hx3
 |true =>
 have F:=J3 @g3 @od_4 @hw;refine uT ?_;clear F;cases a4:wi o.m 0 maxN with
 |false=>refine uT0 ?_;exact no (fun h=>by rw [h.m] at a4;cases a4) _ hx3
 |true =>
 have F:=J3 @g3 @od_5 @hl;refine uT ?_;clear F;cases a5:decide (16<(o.l.length:Int)) with
 |true=>refine uT0 ?_;exact no (fun h=>h.l (qg a5)) _ hx3
 |false =>
 have F:=J3 @g3 @od_6 @hb;refine uT ?_;clear F;cases a6:decide (16384<(o.b.length:Int)) with
 |true=>refine uT0 ?_;exact no (fun h=>h.b (qg a6)) _ hx3
 |false =>
 have F:=J3 @g3 @od_1 @hlg;refine uX ?_;clear F;cases a7:longB o.nm with
 |true=>refine uT0 ?_;exact no (fun h=>by rw [h.nm] at a7;cases a7) _ hx3
 |false =>
 have F:=J3 @g3 @od_2 @hlg;refine uX ?_;clear F;cases a8:longB o.to with
 |true=>refine uT0 ?_;exact no (fun h=>by rw [h.to] at a8;cases a8) _ hx3
 |false =>
 have F:=J2 @g3 @od_5;refine uT ?_;clear F;refine cR_f (zso1 (h.l.hx hx3) h.ll fun H1 s=>zqj1 s H1) ?_
 rintro r4 H4 ⟨rfl,hx4⟩;have hx04:=hx3.trans hx4;have hn4:=hx4.next;have g4:=(hx4.get (i:=H.next) oM).trans g3
 have gu:=(hx4.get (i:=H2.next) oM).trans gu
 haveI:=hx04.hn;cases a9:o.l.any longB with
 |true=>refine uT0 ?_;exact no (fun h=>by rw [h.ls] at a9;cases a9) _ hx04
 |false =>
 obtain ⟨x1,hX1⟩:∃x,(!decide (o.nm=⟨#[]⟩))=x:=⟨_,rfl⟩
 obtain ⟨x2,hX2⟩:∃x,(!decide (o.to=⟨#[]⟩))=x:=⟨_,rfl⟩
 obtain ⟨x3,hX3⟩:∃x,decide (¬o.n=0)=x:=⟨_,rfl⟩
 obtain ⟨x4,hX4⟩:∃x,decide (¬o.m=0)=x:=⟨_,rfl⟩
 obtain ⟨x5,hX5⟩:∃x,decide (0<(o.l.length:Int))=x:=⟨_,rfl⟩
 obtain ⟨x6,hX6⟩:∃x,decide (0<(o.b.length:Int))=x:=⟨_,rfl⟩
 have p1:o.nm=⟨#[]⟩->x1=false:=fun h=>by rw [← hX1,qk h];rfl
 have p2:o.to=⟨#[]⟩->x2=false:=fun h=>by rw [← hX2,qk h];rfl
 have p3:o.n=0->x3=false:=fun h=>by rw [← hX3];exact qq fun x=>x h
 have p4:o.m=0->x4=false:=fun h=>by rw [← hX4];exact qq fun x=>x h
 have p5:¬0<(o.l.length:Int)->x5=false:=fun h=>by rw [← hX5];exact qq h
 have p6:¬0<(o.b.length:Int)->x6=false:=fun h=>by rw [← hX6];exact qq h
 have q1:x1=false->o.nm=⟨#[]⟩:=fun h=>by
  rw [← hX1] at h;cases e:decide (o.nm=⟨#[]⟩) with
  |true=>exact qg e
  |false=>rw [e] at h;cases h
 have q2:x2=false->o.to=⟨#[]⟩:=fun h=>by
  rw [← hX2] at h;cases e:decide (o.to=⟨#[]⟩) with
  |true=>exact qg e
  |false=>rw [e] at h;cases h
 have q3:x3=false->o.n=0:=fun h=>by
  rw [← hX3] at h;exact qf6.1 (qh h)
 have q4:x4=false->o.m=0:=fun h=>by
  rw [← hX4] at h;exact qf6.1 (qh h)
 have q5:x5=false-> ¬0<(o.l.length:Int):=fun h=>by
  rw [← hX5] at h;exact qh h
 have q6:x6=false-> ¬0<(o.b.length:Int):=fun h=>by
  rw [← hX6] at h;exact qh h
 have yes:(x1=false\/u1=true)->(x2=false\/u2=true)->(x3=false\/u3=true)->(x4=false\/u4=true)->(x5=false\/u5=true)->(x6=false\/u6=true)-> ∀H',HX H H'->AV.int .i64 0= .int .i64 (ordI o)/\HX H H':=fun k1 k2 k3 k4 k5 k6 H' hx'=>by
  refine ⟨?_,hx'⟩;rw [zdb1];exact ⟨qh a1,qh a2,a3,a4,qh a5,qh a6,a7,a8,a9,by rw [hu];exact k1.imp q1 id,by rw [hu];exact k2.imp q2 id,by rw [hu];exact k3.imp q3 id,by rw [hu];exact k4.imp q4 id,by rw [hu];exact k5.imp q5 id,by rw [hu];exact k6.imp q6 id⟩
 have n1:x1=true->u1=false-> ¬OrdP o:=fun hx hv h=>by
  have:=h.u1;rw [hu] at this;rcases this with e|e
  ·rw [p1 e] at hx;cases hx
  ·have e:u1=true:=e
   rw [hv] at e;cases e
 have n2:x2=true->u2=false-> ¬OrdP o:=fun hx hv h=>by
  have:=h.u2;rw [hu] at this;rcases this with e|e
  ·rw [p2 e] at hx;cases hx
  ·have e:u2=true:=e
   rw [hv] at e;cases e
 have n3:x3=true->u3=false-> ¬OrdP o:=fun hx hv h=>by
  have:=h.u3;rw [hu] at this;rcases this with e|e
  ·rw [p3 e] at hx;cases hx
  ·have e:u3=true:=e
   rw [hv] at e;cases e
 have n4:x4=true->u4=false-> ¬OrdP o:=fun hx hv h=>by
  have:=h.u4;rw [hu] at this;rcases this with e|e
  ·rw [p4 e] at hx;cases hx
  ·have e:u4=true:=e
   rw [hv] at e;cases e
 have n5:x5=true->u5=false-> ¬OrdP o:=fun hx hv h=>by
  have:=h.u5;rw [hu] at this;rcases this with e|e
  ·rw [p5 e] at hx;cases hx
  ·have e:u5=true:=e
   rw [hv] at e;cases e
 have n6:x6=true->u6=false-> ¬OrdP o:=fun hx hv h=>by
  have:=h.u6;rw [hu] at this;rcases this with e|e
  ·rw [p6 e] at hx;cases hx
  ·have e:u6=true:=e
   rw [hv] at e;cases e
 have F:=J4 @g4 @od_1 @ztd @hX1;refine uT ?_;clear F;refine gR_at (fun T=>gT T 1= .ptr H.next 0/\gT T 3= .ptr H2.next 0/\gT T 62= .bool x1) ?_ ?_
 ·exact ⟨vT0,vT0,vT0⟩
 rintro T ⟨t1,t3,tX⟩;refine join3 (x:=x1) (u:=u1) (C:= ∀T,gT T 1= .ptr H.next 0->gT T 3= .ptr H2.next 0->gT T 67= .bool false->gT T 71= .bool x2->gR (.bool x2) true lookM ?d1 ?b1 ?k1 ?s1 T H4 ?Q1) (fun hx hC=> ?_) (fun hx hv hC=> ?_) (fun hx hv=> ?_) (fun k1=> ?_)
 case refine_1 =>
  have F:=J8 @g4 @od_2 @ztd @hX2 @hx @t1 @t3 @tX;refine uT ?_;clear F;refine hC _ ?_ ?_ ?_ ?_
  ·have F:=@t1;exact vT
  ·have F:=@t3;exact vT
  ·exact vT0
  ·exact vT0
 case refine_2 =>
  have F:=J11 @gu @us_0 @g4 @od_2 @ztd @hX2 @hx @hv @t1 @t3 @tX;refine uT ?_;clear F;refine hC _ ?_ ?_ ?_ ?_
  ·have F:=@t1;exact vT
  ·have F:=@t3;exact vT
  ·exact vT0
  ·exact vT0
 case refine_3 =>
  have F:=J7 @gu @us_0 @hx @hv @t1 @t3 @tX;refine uT ?_;clear F;exact no (n1 hx hv) _ hx04
 clear n1;intro T t1 t3 tA tX;refine join3 (x:=x2) (u:=u2) (C:= ∀T,gT T 1= .ptr H.next 0->gT T 3= .ptr H2.next 0->gT T 77= .bool false->gT T 81= .bool x3->gR (.bool x3) true lookM ?d2 ?b2 ?k2 ?s2 T H4 ?Q2) (fun hx hC=> ?_) (fun hx hv hC=> ?_) (fun hx hv=> ?_) (fun k2=> ?_)
 case refine_1 =>
  have F:=J8 @g4 @od_3 @hX3 @hx @t1 @t3 @tA @tX;refine uT ?_;clear F;refine hC _ ?_ ?_ ?_ ?_
  ·have F:=J4 @t1 @t3 @tA @tX;exact vT
  ·have F:=J4 @t1 @t3 @tA @tX;exact vT
  ·exact vT0
  ·exact vT0
 case refine_2 =>
  have F:=J11 @gu @us_1 @g4 @od_3 @hX3 @hx @hv @t1 @t3 @tA @tX;refine uT ?_;clear F;refine hC _ ?_ ?_ ?_ ?_
  ·have F:=J4 @t1 @t3 @tA @tX;exact vT
  ·have F:=J4 @t1 @t3 @tA @tX;exact vT
  ·exact vT0
  ·exact vT0
 case refine_3 =>
  have F:=J8 @gu @us_1 @hx @hv @t1 @t3 @tA @tX;refine uT ?_;clear F;exact no (n2 hx hv) _ hx04
 clear n2;intro T t1 t3 tA tX;refine join3 (x:=x3) (u:=u3) (C:= ∀T,gT T 1= .ptr H.next 0->gT T 3= .ptr H2.next 0->gT T 87= .bool false->gT T 91= .bool x4->gR (.bool x4) true lookM ?d3 ?b3 ?k3 ?s3 T H4 ?Q3) (fun hx hC=> ?_) (fun hx hv hC=> ?_) (fun hx hv=> ?_) (fun k3=> ?_)
 case refine_1 =>
  have F:=J8 @g4 @od_4 @hX4 @hx @t1 @t3 @tA @tX;refine uT ?_;clear F;refine hC _ ?_ ?_ ?_ ?_
  ·have F:=J4 @t1 @t3 @tA @tX;exact vT
  ·have F:=J4 @t1 @t3 @tA @tX;exact vT
  ·exact vT0
  ·exact vT0
 case refine_2 =>
  have F:=J11 @gu @us_2 @g4 @od_4 @hX4 @hx @hv @t1 @t3 @tA @tX;refine uT ?_;clear F;refine hC _ ?_ ?_ ?_ ?_
  ·have F:=J4 @t1 @t3 @tA @tX;exact vT
  ·have F:=J4 @t1 @t3 @tA @tX;exact vT
  ·exact vT0
  ·exact vT0
 case refine_3 =>
  have F:=J8 @gu @us_2 @hx @hv @t1 @t3 @tA @tX;refine uT ?_;clear F;exact no (n3 hx hv) _ hx04
 clear n3;intro T t1 t3 tA tX;refine join3 (x:=x4) (u:=u4) (C:= ∀T,gT T 1= .ptr H.next 0->gT T 3= .ptr H2.next 0->gT T 97= .bool false->gT T 102= .bool x5->gR (.bool x5) true lookM ?d4 ?b4 ?k4 ?s4 T H4 ?Q4) (fun hx hC=> ?_) (fun hx hv hC=> ?_) (fun hx hv=> ?_) (fun k4=> ?_)
 case refine_1 =>
  have F:=J9 @g4 @od_5 @hl @hX5 @hx @t1 @t3 @tA @tX;refine uT ?_;clear F;refine hC _ ?_ ?_ ?_ ?_
  ·have F:=J4 @t1 @t3 @tA @tX;exact vT
  ·have F:=J4 @t1 @t3 @tA @tX;exact vT
  ·exact vT0
  ·exact vT0
 case refine_2 =>
  have F:=J12 @gu @us_3 @g4 @od_5 @hl @hX5 @hx @hv @t1 @t3 @tA @tX;refine uT ?_;clear F;refine hC _ ?_ ?_ ?_ ?_
  ·have F:=J4 @t1 @t3 @tA @tX;exact vT
  ·have F:=J4 @t1 @t3 @tA @tX;exact vT
  ·exact vT0
  ·exact vT0
 case refine_3 =>
  have F:=J8 @gu @us_3 @hx @hv @t1 @t3 @tA @tX;refine uT ?_;clear F;exact no (n4 hx hv) _ hx04
 clear n4;intro T t1 t3 tA tX;refine join3 (x:=x5) (u:=u5) (C:= ∀T,gT T 1= .ptr H.next 0->gT T 3= .ptr H2.next 0->gT T 108= .bool false->gT T 113= .bool x6->gR (.bool x6) true lookM ?d5 ?b5 ?k5 ?s5 T H4 ?Q5) (fun hx hC=> ?_) (fun hx hv hC=> ?_) (fun hx hv=> ?_) (fun k5=> ?_)
 case refine_1 =>
  have F:=J9 @g4 @od_6 @hb @hX6 @hx @t1 @t3 @tA @tX;refine uT ?_;clear F;refine hC _ ?_ ?_ ?_ ?_
  ·have F:=J4 @t1 @t3 @tA @tX;exact vT
  ·have F:=J4 @t1 @t3 @tA @tX;exact vT
  ·exact vT0
  ·exact vT0
 case refine_2 =>
  have F:=J12 @gu @us_4 @g4 @od_6 @hb @hX6 @hx @hv @t1 @t3 @tA @tX;refine uT ?_;clear F;refine hC _ ?_ ?_ ?_ ?_
  ·have F:=J4 @t1 @t3 @tA @tX;exact vT
  ·have F:=J4 @t1 @t3 @tA @tX;exact vT
  ·exact vT0
  ·exact vT0
 case refine_3 =>
  have F:=J8 @gu @us_4 @hx @hv @t1 @t3 @tA @tX;refine uT ?_;clear F;exact no (n5 hx hv) _ hx04
 clear n5;intro T t1 t3 tA tX;cases hx:x6 with
 |false =>
  have F:=J5 @hx @t1 @t3 @tA @tX;refine uT ?_;clear F;exact yes k1 k2 k3 k4 k5 (.inl hx) _ hx04
 |true =>
  cases hv:u6 with
  |true =>
   have F:=J8 @gu @us_5 @hx @hv @t1 @t3 @tA @tX;refine uT ?_;clear F;exact yes k1 k2 k3 k4 k5 (.inr hv) _ hx04
  |false =>
   have F:=J8 @gu @us_5 @hx @hv @t1 @t3 @tA @tX;refine uT ?_;clear F;exact no (n6 hx hv) _ hx04
end HS
