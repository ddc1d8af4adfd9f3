import Derived.Test.YtmdkejaglfokaaaGreatWAAG
import Derived.Test.YtmdkejaglfokaaaGreatWAAJ
import Derived.Test.YtmdkejaglfokaaaGreatWAAF
set_option maxHeartbeats 8000000
set_option linter.unusedSimpArgs false
set_option linter.unusedVariables false
open Go Go.Ev Go.Proofs Go.RowKit
namespace HS
set_option maxRecDepth 100000
open HS.Md
theorem zrw {H:AH}{v:AV}{n q:Nat}{cs:List AV}{x:AV}(h:SlZ H v n 1 cs) (hq:q<n) (hx:cs[q]? =some x):ld1 (elA 1 v q) H=some x:=by
 have:=SlZ.rd h hq (j:=0) dC (x:=x) (by rw [qs3];exact hx)
 rcases h.2 with ⟨_,h0⟩|⟨i,o,c,op,ro,op',e,z',l,rfl,_⟩
 ·omega
 ·exact this
def SvZ (H:AH) (v:AV) (n:Nat) (cs:List AV):Prop:=SlZ H v n 1 cs\/(n=0/\cs= []/\ ∃k i o,v= .ext k i o/\emp k o=true)
theorem SvZ.hx {H H':AH}{v:AV}{n:Nat}{cs:List AV}(h:SvZ H v n cs) (hx:HX H H'):SvZ H' v n cs:=h.imp (fun h=>h.hx hx) id
theorem SvZ.lenOf {H:AH}{v:AV}{n:Nat}{cs:List AV}(h:SvZ H v n cs):lenOf v=some n:=by
 rcases h with h|⟨rfl,rfl,k,i,o,rfl,hk⟩
 ·exact h.is.lenOf
 ·show (match emp k o with|true=>some 0|false=>none)=some 0
  rw [hk]
theorem SvZ.src {H:AH}{v:AV}{n:Nat}{cs:List AV}(h:SvZ H v n cs):∃new,zib 1 v n H=some new/\new.l=cs:=by
 rcases h with h|⟨rfl,rfl,k,i,o,rfl,hk⟩
 ·exact h.src
 ·refine ⟨.lst [],?_,rfl⟩
  show (match emp k o && Nat.beq 0 0 with|true=>some (Ce.lst [])|false=>none)=_
  rw [hk];rfl
theorem app_cp {H:AH}[hn:HN H]{e b j n:Nat}{v:AV}{cs:List AV}(h:SvZ H v n cs) (h1:cs.all AV.oneCell=true) (hr:Row H j false false e 1 []) (hlo:H.lo<=j) (hj:j<H.next) (hb:n*b<=140737488355328) (hm:n<=9223372036854775807) :
  ∃s' H',appX e 1 b [.sl j 0 0 0 false,v] H=some (s',H')/\OwnS H' s' n e 1 cs j/\HP (·≠ j) H H'/\H'.next<=H.next+1:=by
 rcases h with h|⟨rfl,rfl,k,i,o,rfl,hk⟩
 ·have h0:OwnS H (.sl j 0 0 0 false) 0 e 1 [] j:=⟨rfl,.inr ⟨j,false,rfl,hr,qn _,hj,fun h=>absurd rfl h⟩⟩
  obtain ⟨s',H',a1,a2,a3,a4,a5⟩:=OwnS.app (b:=b) h0 h h1 (by rw [qy1];exact hb) oM hlo oM
  rw [qy1,qm1] at a2;exact ⟨s',H',a1,a2,a3.mono fun i _ hi=>zga fun e=>hi e,a4⟩
 ·have hx:lenOf (.ext k i o)=some 0:=SvZ.lenOf (H:=H) (cs:= []) (.inr ⟨rfl,rfl,k,i,o,rfl,hk⟩)
  obtain ⟨new,hsrc,hnl⟩:=SvZ.src (H:=H) (.inr ⟨rfl,rfl,k,i,o,rfl,hk⟩:SvZ H (.ext k i o) 0 []);have hone:=zdg (c:=new) (by rw [hnl];rfl)
  obtain ⟨cc,hg,hcl⟩:=hr;obtain ⟨c',h3,h4⟩:=Ce.over_ex (x:=new) (c:=cc) (o:=0) (by rw [hnl,hcl];exact qn _)
  have h5:c'.l= []:=by rw [h4,hcl,hnl];rfl
  refine ⟨.sl j 0 0 0 false,H.put j (.cells c' e 1 false false),?_,⟨rfl,.inr ⟨j,false,rfl,⟨c',AH.get_put hn.hide _ _,h5⟩,qn _,hj,fun h=>absurd rfl h⟩⟩,HP.put _ _ _,qy3 _⟩
  rw [zxn hx hsrc hone];show brec (appG e 1 b j 0 0 0 false 0 new H) (orec none (fun H'=>some (AV.sl j 0 (Nat.add 0 0) 0 false,H')) (zpe H j (Nat.add 0 (Nat.mul 0 1)) new)) (Nat.ble (Nat.add 0 0) 0)=_
  rw [show Nat.ble (Nat.add 0 0) 0=true from rfl,zad]
  unfold AH.writeC;rw [show Nat.ble H.lo j=true from qe hlo,hg]
  have h3':Ce.over new cc (Nat.add 0 (Nat.mul 0 1))=some c':=h3;simp only [hone,h3'];rfl
theorem app_cpB {H:AH}[hn:HN H]{j:Nat}{v:AV}{l:List Nat}(h:SvZ H v l.length (u8L l)) (hb:ByS H v l) (hg:H.get j=some (.cells (.byt 0 0) 5 1 false false)) (hlo:H.lo<=j) (hj:j<H.next) (hm:l.length<=1000000) :
  ∃s' H',appX 5 1 1 [.sl j 0 0 0 false,v] H=some (s',H')/\OwnS H' s' l.length 5 1 (u8L l) j/\HP (·≠ j) H H'/\H'.next<=H.next+1/\ByS H' s' l:=by
 have hr:Row H j false false 5 1 []:=⟨_,hg,rfl⟩;rcases qh3 l.length with h0|h0
 ·obtain ⟨s',H',a1,a2,a3,a4⟩:=app_cp (b:=1) h (zap1 _) hr hlo hj oM oM
  have hl:l= []:=qk1 h0;subst hl;refine ⟨s',H',a1,a2,a3,a4,.inl ⟨rfl,zbm a2.slZ.is,fun i hi=> ?_⟩⟩
  rcases a2.2 with ⟨e,_⟩|⟨j2,op2,e,_,_,hj2,_⟩
  ·rw [e];exact zfa _
  ·rw [e];exact zga oM
 ·rcases hb with ⟨rfl,_⟩|⟨i,o,c,op,full,e',z',op',ro,rfl,hi,hgi,hf,ho,hl,_⟩
  ·exact absurd h0 dC
  have hsrc:zib 1 (.sl i o l.length c op) l.length H=some (byC l):=by
   show H.subC i o (l.length*1)=_
   unfold AH.subC;rw [hgi,qs3];show (byC full).sub o l.length=_
   rw [sub_b hf ho,hl]
  have hB:Byt l:=by rw [← hl];exact (hf.drop _).take _
  have hz:Nat.add 0 l.length=l.length:=qy1 _;have hC:Ce.app (.byt 0 0) (byC l)=byC l:=by
   show Ce.byt (0+l.length) (0%Ce.pw 0+Nb l*Ce.pw 0)=_
   rw [pw_eq,qy1,Nat.pow_zero,qs3,Nat.zero_mod,qy1]
  have happ:appX 5 1 1 [.sl j 0 0 0 false,.sl i o l.length c op] H=some (.sl H.next 0 l.length l.length true,H.new (.cells (byC l) 5 1 true false)):=by
   rw [zxn (n:=l.length) rfl hsrc rfl];show brec (appG 5 1 1 j 0 0 0 false l.length (byC l) H) _ (Nat.ble (0+l.length) 0)=_
   rw [show Nat.ble (0+l.length) 0=false from by cases h:Nat.ble (0+l.length) 0 with|false=>rfl|true=>have:=qe1 h;omega]
   show (match Nat.ble (Nat.mul (Nat.add 0 l.length) 1) 140737488355328 && Nat.ble (Nat.add 0 l.length) 9223372036854775807 with
    |false=>none
    |true=>orec none (fun old=>brec (slNew (Nat.add 0 l.length) (.cells (Ce.app old (byC l)) 5 1 true false) H) (appO 5 1 j 0 0 0 l.length old (byC l) H) false) (subCF H j 0 (Nat.mul 0 1)))=_
   rw [hz,show Nat.ble (Nat.mul l.length 1) 140737488355328=true from qe (by show l.length*1<=_;omega),show Nat.ble l.length 9223372036854775807=true from qe oM,zif]
   rw [show H.subC j 0 (Nat.mul 0 1)=some (.byt 0 0) from by unfold AH.subC;rw [hg];rfl]
   show slNew l.length (.cells (Ce.app (.byt 0 0) (byC l)) 5 1 true false) H=_
   rw [hC];exact zjf _ _ _
  have hgn:(H.new (.cells (byC l) 5 1 true false)).get H.next=some (.cells (byC l) 5 1 true false):=zaa _;refine ⟨_,_,happ,⟨by rw [qm3,qs3],.inr ⟨H.next,true,rfl,⟨byC l,hgn,byC_l hB⟩,oM,qd1 _,fun _=>rfl⟩⟩,(HX.new H _).hp _,qn _,.inr ⟨H.next,0,l.length,true,l,5,1,true,false,rfl,qd1 _,hgn,hB,oM,?_,qn _⟩⟩
  rw [qd3,qp5]
def strB (l:List Nat):ByteArray:=⟨((l.map Int.ofNat).map fun n=>UInt8.ofNat n.toNat).toArray⟩
theorem zwj1:∀l:List Nat,zzb1 (u8L l)=some (l.map Int.ofNat)
 | []=>rfl
 |x::l=>by
  have h:=zwj1 l;unfold zzb1 at h ⊢
  show mapO numOf (AV.int .u8 (.ofNat x)::u8L l)=_
  rw [zmd];show obind (mapO numOf (u8L l)) _=_
  rw [h];rfl
theorem cv_ok {H:AH}{v:AV}{n:Nat}{l:List Nat}(h:SvZ H v n (u8L l)):zmb lookM 30 9 v H=some (.str (strB l),H):=by
 have hu1:=u30;have hu2:lookM.under 9=some .string:=kR
 have hu3:lookM.under 5=some (.int .u8):=kR
 unfold zmb;rw [hu1,hu2];rcases h with h|⟨rfl,hcs,k,i,o,rfl,hk⟩
 ·have hs:=h.src
  obtain ⟨new,hsrc,hnl⟩:=hs;rcases h.2 with ⟨rfl,rfl⟩|⟨i,o,c,op,ro,op',e,z',l',rfl,_⟩
  ·have h0:u8L l= []:=qk1 (by have:=h.1;rw [this])
   have h0:l= []:=qn6.1 h0;subst h0;simp only [hu3];rfl
  ·have hrd:=zfh (H:=H) (i:=i) (o:=o) (n:=n*1) hsrc
   rw [qs3,hnl] at hrd;simp only [hu3,hrd,zwj1];rfl
 ·have h0:l= []:=qn6.1 hcs
  subst h0;simp only [hu3,hk];rfl
theorem zor {H:AH}[hn:HN H]{av bv:AV}{n m:Nat}{l:List Nat}(ha:SvZ H av n (u8L l)) (hb:SvZ H bv m (u8L l)):FnE lookM 42 [av,bv] H fun r H'=>r= .bool true/\H'=H:=by
 refine fI Tryz.f42 ?_;have h1:=cv_ok ha;have h2:=cv_ok hb;have d1:decide (strB l=strB l)=true:=qk rfl;have F:=J4 @h1 @h2 @zte @d1;exact vT
theorem zdp1 {H:AH}[hn:HN H]{av bv:AV}{l:List Int}(ha:SlZ H av l.length 1 (l.map fun x:Int=>AV.int .i64 x)) (hb:SlZ H bv l.length 1 (l.map fun x:Int=>AV.int .i64 x)) (hm:l.length<=1000000) :
  FnE lookM 41 [av,bv] H fun r H'=>r= .bool true/\H'=H:=by
 refine fI Tryz.f41 ?_;have hla:=fun H'=>ztc (H':=H') uIs ha.is
 have hlb:=fun H'=>ztc (H':=H') uIs hb.is
 have d0:decide ((l.length:Int)=(l.length:Int))=true:=qk rfl;have F:=J3 @hla @hlb @d0;refine uT ?_;refine rc_l (fun n T H'=> ∃q,n+q=l.length/\H'=H/\gT T 0=av/\gT T 1=bv/\gT T 5= .int .i64 q) l.length ?_ ?_
 ·exact ⟨0,rfl,rfl,vT0,vT0,by refine uT0 ?_;rfl⟩
 rintro n T H1 ⟨q,hnq,rfl,t0,t1,t5⟩;cases n with
 |zero =>
  have d1:decide ((q:Int)<(l.length:Int))=false:=qq oM
  have F:=J5 @t0 @t1 @t5 @hla @d1;exact vT
 |succ n =>
  have hq:q<l.length:=oM
  have d1:decide ((q:Int)<(l.length:Int))=true:=qk oM
  have hix:=ix44 (z:=1) (q:=q) ha.is hq;have hiy:=ix44 (z:=1) (q:=q) hb.is hq;have hx:(l.map fun x:Int=>AV.int .i64 x)[q]? =some (.int .i64 l[q]):=by rw [qh1,qo hq];rfl
  have hld:=zrw ha hq hx;have hle:=zrw hb hq hx;generalize l[q]=x at *
  have d2:decide (x=x)=true:=qk rfl;have F:=J10 @t0 @t1 @t5 @hla @d1 @hix @hiy @hld @hle @d2;refine uT ?_;exact ⟨n,oM,q+1,oM,by push_cast;rfl⟩
theorem zep1 {H:AH}[hn:HN H]{av bv:AV}{l:List ByteArray}(ha:SlT H av l) (hb:SlT H bv l) (hm:l.length<=1000000) :
  FnE lookM 43 [av,bv] H fun r H'=>r= .bool true/\H'=H:=by
 refine fI Tryz.f43 ?_;have hla:=fun H'=>ha.1.1 uTs H'
 have hlb:=fun H'=>hb.1.1 uTs H'
 have d0:decide ((l.length:Int)=(l.length:Int))=true:=qk rfl;have F:=J3 @hla @hlb @d0;refine uT ?_;refine rc_l (fun n T H'=> ∃q,n+q=l.length/\H'=H/\gT T 0=av/\gT T 1=bv/\gT T 5= .int .i64 q) l.length ?_ ?_
 ·exact ⟨0,rfl,rfl,vT0,vT0,by refine uT0 ?_;rfl⟩
 rintro n T H1 ⟨q,hnq,rfl,t0,t1,t5⟩;cases n with
 |zero =>
  have d1:decide ((q:Int)<(l.length:Int))=false:=qq oM
  have F:=J5 @t0 @t1 @t5 @hla @d1;exact vT
 |succ n =>
  have hq:q<l.length:=oM
  have d1:decide ((q:Int)<(l.length:Int))=true:=qk oM
  have hix:=ix44 (z:=1) (q:=q) (ha.is oM) hq
  have hiy:=ix44 (z:=1) (q:=q) (hb.is oM) hq
  have hk:l[q]? =some l[q]:=qo hq;have hld:=ha.at hk;have hle:=hb.at hk;generalize l[q]=x at *
  have d2:decide (x=x)=true:=qk rfl;have F:=J11 @t0 @t1 @t5 @hla @d1 @hix @hiy @hld @hle @ztd @d2;refine uT ?_;exact ⟨n,oM,q+1,oM,by push_cast;rfl⟩
theorem rp_0 (e:Int) (n b:AV):nth (rpL e n b) 0=some (.int .i64 e):=rfl
theorem rp_1 (e:Int) (n b:AV):nth (rpL e n b) 1=some n:=rfl
theorem rp_2 (e:Int) (n b:AV):nth (rpL e n b) 2=some b:=rfl
theorem zkg1 {H:AH}[hn:HN H]{a b:AV}{p:Rp}{N M:Nat}(ha:RpR H a p N) (hb:RpR H b p M) (hm:p.n.length<=1000000) :
  FnE lookM 12 [a,b] H fun r H'=>r= .bool true/\HX H H':=by
 obtain ⟨nv,bv,rfl,n1,b1,_⟩:=ha;obtain ⟨nw,bw,rfl,n2,b2,_⟩:=hb;refine fI Tryz.f12 ?_;have hlo:=hn.lo;have e01:=hEq_f (oM:H.next≠H.next+1)
 have d0:decide (p.err=p.err)=true:=qk rfl;have F:=J6 @zdb @e01 @rp_0 @rp_1 @rp_2 @d0;refine uT ?_;refine cR_at (fun H1=>HX H H1/\H1.get H.next=some (rpx p.err nv bv)/\H1.get (H.next+1)=some (rpx p.err nw bw)) ?_ ?_
 ·refine ⟨hxt,?_,zaa _⟩
  have F:=@e01;exact vT
 rintro H1 ⟨hx1,g0,g1⟩;haveI:=hx1.hn;refine cR_f (zdp1 (n1.hx hx1) (n2.hx hx1) hm) ?_;rintro r2 H2 ⟨rfl,rfl⟩;have F:=J3 @g0 @g1 @rp_2;refine uT ?_;refine cR_f (zor (.inl (b1.hx hx1).slZ) (.inl (b2.hx hx1).slZ)) ?_;rintro r3 H3 ⟨rfl,rfl⟩;refine uT0 ?_;exact hx1
set_option maxHeartbeats 16000000 in
theorem zlg1 {H:AH}[hn:HN H]{o:Od}{lv bv lw bw:AV}(h1:SlT H lv o.l) (h2:SlT H lw o.l) (h3:SvZ H bv o.b.length (u8L o.b)) (h4:SvZ H bw o.b.length (u8L o.b)) (hm:o.l.length<=1000000) :
  FnE lookM 13 [odA o lv bv,odA o lw bw] H fun r H'=>r= .bool true/\HX H H':=by
 refine fI Tryz.f13 ?_;have hlo:=hn.lo;have e01:=hEq_f (oM:H.next≠H.next+1)
 have d0:decide (o.op=o.op)=true:=qk rfl;have d1:decide (o.nm=o.nm)=true:=qk rfl;have d2:decide (o.to=o.to)=true:=qk rfl;have d3:decide (o.n=o.n)=true:=qk rfl;have d4:decide (o.m=o.m)=true:=qk rfl;have F:=J14 @zke @e01 @od_0 @od_1 @od_2 @od_3 @od_4 @od_5 @zte @d0 @d1 @d2 @d3 @d4;refine uT ?_;refine cR_at (fun H1=>HX H H1/\H1.get H.next=some (odx o lv bv)/\H1.get (H.next+1)=some (odx o lw bw)) ?_ ?_
 ·refine ⟨hxt,?_,zaa _⟩
  have F:=@e01;exact vT
 rintro H1 ⟨hx1,g0,g1⟩;haveI:=hx1.hn;refine cR_f (zep1 (h1.hx hx1) (h2.hx hx1) hm) ?_;rintro r2 H2 ⟨rfl,rfl⟩;have F:=J3 @g0 @g1 @od_6;refine uT ?_;refine cR_f (zor (h3.hx hx1) (h4.hx hx1)) ?_;rintro r3 H3 ⟨rfl,rfl⟩;refine uT0 ?_;exact hx1
abbrev od00:Od:=⟨0,⟨#[]⟩,⟨#[]⟩,0,0, [], []⟩
theorem zxj1:AV.toC (.agg [(.int .i64 (0)),(.str ⟨#[]⟩),(.str ⟨#[]⟩),(.int .i64 (0)),(.int .i64 (0)),.nilSl,.nilSl])= .lst (odL od00 .nilSl .nilSl):=rfl
theorem bs0_y {s e:Nat}{z:AV}(H:AH):bsF s 0 z e (zipF [] []) H=some (.sl H.next 0 0 0 false,H.new (.cells (.byt 0 0) e s false false)):=bs0_q
theorem ldo (i o:Nat) (H:AH):zub lookM 32 (.ptr i o) H=ldN 7 (.ptr i o) H:=zeg kR kR
theorem str_one (l:List ByteArray):(l.map AV.str).all AV.oneCell=true:=qb1.2 fun y hy=>by obtain ⟨x,_,rfl⟩:=qy2.1 hy;rfl
theorem row0 {H:AH}{e:Nat}[hn:HN H]:Row (H.new (.cells (.byt 0 0) e 1 false false)) H.next false false e 1 []:=⟨_,zaa _,rfl⟩
set_option maxHeartbeats 32000000 in
theorem zmg1 {H:AH}[hn:HN H]{o:Od}{lv bv:AV}(hl:SvZ H lv o.l.length (o.l.map AV.str)) (hb:SvZ H bv o.b.length (u8L o.b)) (hby:ByS H bv o.b) (hll:o.l.length<=1000000) (hbl:o.b.length<=1000000) :
  FnE lookM 9 [odA o lv bv] H fun r H'=>(∃lw bw,r=odA o lw bw/\OwnS H' lw o.l.length 9 1 (o.l.map AV.str) H.next/\OwnS H' bw o.b.length 5 1 (u8L o.b) H.next/\ByS H' bw o.b)/\HX H H':=by
 refine fI Tryz.f9 ?_;have hlo:=hn.lo;have e01:=hEq_f (oM:H.next≠H.next+1)
 have e02:=hEq_f (oM:H.next≠H.next+1+1)
 have e12:=hEq_f (oM:H.next+1≠H.next+1+1)
 have F:=J7 @zke @zxj1 @bs0_y @e01 @e02 @e12 @od_5;refine uT ?_;refine znw (fun H1=>HX H H1/\H1.next=H.next+3/\H1.get H.next=some (odx o lv bv)/\H1.get (H.next+1)=some (odx od00 .nilSl .nilSl)/\Row H1 (H.next+2) false false 9 1 []) ?_ ?_
 ·refine ⟨hxt,rfl,?_,?_,row0⟩
  ·have F:=J2 @e01 @e02;exact vT
  ·have F:=@e12;exact vT
 rintro H1 ⟨hx1,hn1,g0,g1,hr1⟩;haveI:=hx1.hn;have hlo1:H1.lo=H.lo:=hx1.lo;obtain ⟨lw,H2,a2,ho2,hp2,hn2⟩:=app_cp (b:=16) (hl.hx hx1) (str_one _) hr1 oM oM oM oM
 haveI:=hp2.hn;have hx2:HX H H2:=HX.hp2 hx1 hp2 fun q hq=>oM
 have hlo2:H2.lo=H.lo:=hx2.lo;have hn2':=hp2.next;have g0:=(hp2.get (i:=H.next) oM oM).trans g0
 have g1:=(hp2.get (i:=H.next+1) oM oM).trans g1
 have o2:=OwnS.one ho2;have hst5:=st1_w (L:=lookM) (t:=29) (i:=H.next) (o:=5) (H:=H2) kR o2.1 o2.2 oM
 have hs5:(odL o lv bv).set 5 lw=odL o lw bv:=rfl;have hl5:5<(odL o lv bv).length:=by show 5<7;decide
 have e3:=hEq_f (oM:H.next≠H2.next)
 have F:=J8 @a2 @hst5 @g0 @hs5 @hl5 @bs0_y @e3 @od_6;refine uT ?_;have hx3:HX H (H2.put H.next (odx o lw bv)):=HX.put hx2 (qn _) _;haveI:=hx3.hn;refine znw (fun H3=>HX (H2.put H.next (odx o lw bv)) H3/\H3.next=H2.next+1/\H3.get H.next=some (odx o lw bv)/\H3.get H2.next=some (.cells (.byt 0 0) 5 1 false false)) ?_ ?_
 ·refine ⟨HX.new _ _,rfl,?_,zaa _⟩
  have F:=@e3;exact vT
 rintro H3 ⟨hx3',hn3,g0',hr3⟩;have hx03:=hx3.trans hx3';haveI:=hx03.hn;have hlo3:H3.lo=H.lo:=hx03.lo;have ho3:OwnS H3 lw o.l.length 9 1 (o.l.map AV.str) (H.next+2):=(ho2.hq (HP.put H2 H.next (odx o lw bv)) (p:=(·≠ H.next)) fun j o n c op e=>by
  rcases ho2.2 with ⟨h0,_⟩|⟨j2,op2,h0,_,hj2,_⟩
  ·rw [h0] at e;cases e
  ·rw [h0] at e;cases e;omega).hx hx3'
 have g1:H3.get (H.next+1)=some (odx od00 .nilSl .nilSl):=(hx3'.get (i:=H.next+1) (by show H.next+1<H2.next;omega)).trans (by rw [zyb _ oM];exact g1)
 obtain ⟨bw,H4,a4,ho4,hp4,hn4,hy4⟩:=app_cpB (hb.hx hx03) (hby.hx hx03) hr3 oM oM hbl
 haveI:=hp4.hn;have hx4:HX H H4:=HX.hp2 hx03 hp4 fun q hq=>oM
 have hlo4:H4.lo=H.lo:=hx4.lo;have hn4':=hp4.next;have g0:=(hp4.get (i:=H.next) oM oM).trans g0'
 have g1:=(hp4.get (i:=H.next+1) oM oM).trans g1
 have hn2f:∀j op,lw= .sl j 0 o.l.length o.l.length op->j<H2.next:=fun j op e=>by
  rcases ho2.2 with ⟨h0,_⟩|⟨j2,op2,h0,_,_,hj2,_⟩
  ·rw [h0] at e;cases e
  ·rw [h0] at e;cases e;exact hj2
 have ho4l:OwnS H4 lw o.l.length 9 1 (o.l.map AV.str) (H.next+2):=ho3.hq hp4 fun j o' n c op e=>by
  rcases ho2.2 with ⟨h0,_⟩|⟨j2,op2,h0,_,_,hj2,_⟩
  ·rw [h0] at e;cases e
  ·rw [h0] at e;cases e;omega
 have o4:=OwnS.one ho4;have hst6:=st1_w (L:=lookM) (t:=30) (i:=H.next) (o:=6) (H:=H4) kR o4.1 o4.2 oM
 have hs6:(odL o lw bv).set 6 bw=odL o lw bw:=rfl;have hl6:6<(odL o lw bv).length:=by show 6<7;decide
 have hw:∀e2 H5,wrN (some (.cells (.lst (odL od00 .nilSl .nilSl)) e2 7 false false)) (H.next+1) 0 7 (.lst (odL o lw bw)) H5=some (H5.put (H.next+1) (.cells (.lst (odL o lw bw)) e2 7 false false)):=fun e2 H5=>wrN_l rfl rfl (zjg1 o2.1 o4.1)
 have e10:=hEq_f (oM:H.next+1≠H.next)
 have F:=J11 @a4 @hst6 @g0 @g1 @hs6 @hl6 @zuf @zke @hw @e10 @ldo;refine uT ?_;have p1:HP (·≠ H.next) H4 (H4.put H.next (odx o lw bw)):=HP.put _ _ _;have hx5:HX H (H4.put H.next (odx o lw bw)):=HX.put hx4 (qn _) _;haveI:=hx5.hn;have p2:HP (·≠ H.next+1) (H4.put H.next (odx o lw bw)) ((H4.put H.next (odx o lw bw)).put (H.next+1) (odx o lw bw)):=HP.put _ _ _;refine ⟨⟨lw,bw,rfl,?_,?_,?_⟩,HX.put hx5 oM _⟩
 ·refine ((OwnS.le (M:=H.next) ho4l oM).hq p1 fun j o' n c op e=> ?_).hq p2 fun j o' n c op e=> ?_ <;>
  ·rcases ho4l.2 with ⟨h0,_⟩|⟨j2,op2,h0,_,hj2,_⟩
   ·rw [h0] at e;cases e
   ·rw [h0] at e;cases e;omega
 ·refine ((OwnS.le (M:=H.next) ho4 oM).hq p1 fun j o' n c op e=> ?_).hq p2 fun j o' n c op e=> ?_ <;>
  ·rcases ho4.2 with ⟨h0,_⟩|⟨j2,op2,h0,_,hj2,_⟩
   ·rw [h0] at e;cases e
   ·rw [h0] at e;cases e;omega
 ·rcases hy4 with ⟨y1,y2,y3⟩|⟨j,o',c,op,full,e',z',op',ro,rfl,hj,hgj,hr⟩
  ·exact .inl ⟨y1,y2,fun j hj=>y3 j (by show H4.next<=j;exact hj)⟩
  ·have hjn:H.next+2<=j:=by
    rcases ho4.2 with ⟨h0,_⟩|⟨j2,op2,h0,_,hj2,_⟩
    ·cases h0
    ·cases h0;omega
   exact .inr ⟨j,o',c,op,full,e',z',op',ro,rfl,hj,by rw [zyb _ oM,zyb _ oM];exact hgj,hr⟩
theorem RK_inv {L:Lk}{nm:String}{xs:List O2}{d:Nat}{k:K2}{s:List Kf}{T:Tr AV}{H:AH}{Q:PostC}:RK L (.cn false (fun xs H=>zgd L (hd xs) nm (tl xs) H) xs (some (sOf d)) k) s T H Q=cF false (zgd L (hd (evs xs T)) nm (tl (evs xs T)) H) L H d k s T Q:=zmi qe7
theorem rI_nil:binF .eql (evBin lookM .eql 71 (.tmp 20) (.const .nilIface)) .nilIfc .nilIfc=some (.bool true):=kR
theorem rI_1 (xo yo:Operand) (v:AV):binF .eql (evBin lookM .eql 71 xo yo) (.ifc 107 v) .nilIfc=some (.bool false):=kR
theorem rI_2 (xo yo:Operand) (v:AV):binF .eql (evBin lookM .eql 71 xo yo) (.ifc 108 v) .nilIfc=some (.bool false):=kR
theorem rI_3 (xo yo:Operand) (v:AV):binF .eql (evBin lookM .eql 71 xo yo) (.ifc 74 v) .nilIfc=some (.bool false):=kR
theorem rA_1 (v:AV):zde lookM (.ifc 107 v) 74 true=some (.tup [.agg [.int .i64 0,.str ⟨#[]⟩,.str ⟨#[]⟩,.int .i64 0,.int .i64 0,.nilSl,.nilSl],.bool false]):=kR
theorem rA_2 (v:AV):zde lookM (.ifc 108 v) 74 true=some (.tup [.agg [.int .i64 0,.str ⟨#[]⟩,.str ⟨#[]⟩,.int .i64 0,.int .i64 0,.nilSl,.nilSl],.bool false]):=kR
theorem rA_3 (v:AV):zde lookM (.ifc 74 v) 74 true=some (.tup [v,.bool true]):=kR
theorem rV_1 (v p : AV) (H : AH) : zgd lookM (.ifc 107 v) "caulker/model.does" [p] H = some (.enter 132 [v, p]) := kR
theorem rV_2 (v p : AV) (H : AH) : zgd lookM (.ifc 108 v) "caulker/model.does" [p] H = some (.enter 201 [v, p]) := kR
set_option maxHeartbeats 32000000 in
theorem zfp1 {H:AH}[hn:HN H]{b mb:Nat}{s:Ms}{v lv:AV}{o:Od}{ov bv:AV}(h:MdR H b mb s v lv) (hd:Bd s.t) (hblo:H.lo<=b) (hmlo:H.lo<=mb) (ho:OdIn H o ov bv) (hb:ByS H bv o.b) (hsz:∀i,i<s.t.rs.length->1<=(get s.t.rs i).sz/\(get s.t.rs i).sz<=64)
  (hrs:∀r,r∈s.t.rs-> -1000000<=r.rs/\r.rs<=1000000) :
  FnE lookM 10 [.ptr b 0,odA o ov bv] H fun r H'=> ∃rp,r= .tup [rp,.bool (zhc true s o).2.1]/\DoR H H' b mb rp ((zhc true s o).1,(zhc true s o).2.2):=by
 refine fI Tryz.f10 ?_;have hlo:=hn.lo;have hlt:=h.lt;have e01:=hEq_f (oM:H.next≠H.next+1)
 have hone:=zjg1 (o:=o) ho.l.1.2.1 hb.one.1;have F:=J2 @zke @zdb;refine uT ?_;refine cR_at (fun H1=>HX H H1/\H1.next=H.next+2/\H1.get H.next=some (odx o ov bv)/\H1.get (H.next+1)=some (rpx 0 .nilSl .nilSl)) ?_ ?_
 ·refine ⟨hxt,rfl,?_,zaa _⟩
  have F:=@e01;exact vT
 rintro H1 ⟨hx1,hn1,g0,g1⟩;haveI:=hx1.hn;refine cR_f (zjb1 (h.hx hx1)) ?_;rintro r2 H2 ⟨rfl,hx2⟩;have hx02:=hx1.trans hx2;haveI:=hx02.hn;have hlo2:H2.lo=H.lo:=hx02.lo;have hn2:=hx2.next;have g0:=(hx2.get (i:=H.next) oM).trans g0
 have g1:=(hx2.get (i:=H.next+1) oM).trans g1
 have F:=J2 @g0 @zuf;refine uT ?_;refine cR_f (zzf1 (ho.hx hx02)) ?_;rintro r3 H3 ⟨rfl,hx3⟩;have hx03:=hx02.trans hx3;haveI:=hx03.hn;have hlo3:H3.lo=H.lo:=hx03.lo;have hn3:=hx3.next;have g0:=(hx3.get (i:=H.next) oM).trans g0
 have g1:=(hx3.get (i:=H.next+1) oM).trans g1
 unfold zhc ordI;cases a1:ordOk o with
 |false =>
  have d1:decide (¬(2:Int)=0)=true:=dC
  have F:=J7 @d1 @rp_bu @zdb @g1 @rp_w0 @zlb @ld3;refine uI ?_;exact ⟨_,rfl,DoR.err h (by have K:=hx03;exact hxk)⟩
 |true =>
 have hOp:=(zxk o).1 a1;have hnm:=longB_f.1 hOp.nm;have hto:=longB_f.1 hOp.to;have hop1:=hOp.op1;have d1:decide (¬(0:Int)=0)=false:=dC
 have F:=J3 @d1 @g0 @zuf;refine uI ?_;refine cR_f kind_ok ?_;rintro r4 H4 ⟨rfl,hx4⟩;have hx04:=hx03.trans hx4;haveI:=hx04.hn;have hlo4:H4.lo=H.lo:=hx04.lo;have hn4:=hx4.next;have g0:=(hx4.get (i:=H.next) oM).trans g0
 have g1:=(hx4.get (i:=H.next+1) oM).trans g1
 unfold kindA;have fin:∀(H5 H6:AH) (nv bv':AV) (p:Rp×Ms),HX H4 H5->DoR H5 H6 b mb (rpA p.1.err nv bv') p->DoR H (H6.put (H.next+1) (rpx p.1.err nv bv')) b mb (rpA p.1.err nv bv') p:=by
  rintro H5 H6 nv bv' p hx5 ⟨hr,⟨v',lv',hm⟩,hp6⟩;have hx05:=hx04.trans hx5;haveI:=hx05.hn;haveI:HN H6:=hp6.hn;have hn5:=hx5.next;have hn6:=hp6.next;have g16:=(hp6.get (i:=H.next+1) oM ⟨oM,by have:=h.mp.1;omega⟩).trans ((hx5.get oM).trans g1)
  have k2:HP (·≠ H.next+1) H6 (H6.put (H.next+1) (rpx p.1.err nv bv')):=HP.put _ _ _;have sep:∀(z:Nat),z≠3-> ∀j cc e op ro,H6.get j=some (.cells cc e z op ro)->j≠H.next+1:=fun z z3 j cc e op ro hg e=>by
   subst e;rw [hg] at g16;cases g16;exact z3 rfl
  refine ⟨(hr.put oM _).le oM,⟨v',lv',?_⟩,((hx05.hp (fun _=>True)).trans hp6 (r:=fun i=>i≠b/\i≠mb) fun i _ hi=>⟨trivial,hi⟩).trans k2 fun i hi hh=>⟨hh,oM⟩⟩
  exact ⟨hm.lt,(k2.get hm.lt oM).trans hm.box,hm.rd.sep k2 (sep 44 dC),hm.lv.sep k2 (sep 1 dC),hm.mp.hp k2 (by have:=h.mp.1;omega)⟩
 have hbt:∀H5 H6,HX H4 H5->HP (fun i=>i≠b/\i≠mb) H5 H6->H6.get (H.next+1)=some (rpx 0 .nilSl .nilSl)/\H6.lo=H.lo/\HN H6:=fun H5 H6 hx5 hp6 =>
  ⟨(hp6.get (i:=H.next+1) (by have:=hx5.next;omega) ⟨oM,by have:=h.mp.1;omega⟩).trans ((hx5.get oM).trans g1),(hp6.lo.trans hx5.lo).trans hlo4,by haveI:=hx5.hn;exact hp6.hn⟩
 by_cases c1:o.op<=8
 ·rw [qi c1,qi c1]
  have F:=J4 @rI_1 @rA_1 @RK_inv @rV_1;refine uT ?_;refine cR_f (zbg1 (h.hx hx04) hd oM oM oM oM oM c1) ?_
  rintro r6 H6 ⟨rfl,hm6,hp6⟩;obtain ⟨g16,hlo6,hn6⟩:=hbt H4 H6 (HX.refl _) hp6;have F:=J5 @zdb @g16 @rp_w0 @zlb @ld3;refine uT ?_;refine ⟨_,rfl,fin H4 H6 .nilSl .nilSl (zyd true s o) (HX.refl _) ⟨?_,hm6,hp6⟩⟩;unfold zyd;split<;>exact RpR.err
 rw [qd c1,qd c1];by_cases c2:o.op=16
 ·rw [qi c2,qi c2]
  have F:=J4 @rI_2 @rA_2 @RK_inv @rV_2;refine uT ?_;refine cR_f (zeg1 (h.hx hx04) hd hrs) ?_;rintro r6 H6 hr;have hD:=DoR.of (h.hx hx04) hr;obtain ⟨nv,bv6,rfl,z1,z2,z3⟩:=hD.1;obtain ⟨g16,hlo6,hn6⟩:=hbt H4 H6 (HX.refl _) hD.2.2;have o1:=zpc z1.is;have o2:=zpc z2.is;have F:=J5 @zdb @g16 @rp_w @zlb @ld3;refine uT ?_;exact ⟨_,rfl,fin H4 H6 nv bv6 (_,s) (HX.refl _) hD⟩
 rw [qd c2,qd c2];by_cases c3:12<=o.op/\o.op<=15
 ·rw [qi c3,qi c3]
  have F:=J4 @rI_3 @rA_3 @zke @zuf;refine uT ?_;refine cR_at (fun H5=>HX H4 H5) ?_ ?_
  ·exact hxt
  rintro H5 hx5;have hx05:=hx04.trans hx5;haveI:=hx05.hn;have hlo5:H5.lo=H.lo:=hx05.lo;refine cR_f (asks_ok (h.hx hx05) hd oM oM (hb.hx hx05) ho.l.1 hsz a1 c3) ?_
  rintro r6 H6 hD;obtain ⟨nv,bv6,rfl,z1,z2,z3⟩:=hD.1;obtain ⟨g16,hlo6,hn6⟩:=hbt H5 H6 hx5 hD.2.2;have o1:=zpc z1.is;have o2:=zpc z2.is;have F:=J5 @zdb @g16 @rp_w @zlb @ld3;refine uT ?_;exact ⟨_,rfl,fin H5 H6 nv bv6 _ hx5 hD⟩
 rw [qd c3,qd c3];have F:=J7 @rI_nil @zhj @zdb @g1 @rp_w0 @zlb @ld3;refine uT ?_;exact ⟨_,rfl,DoR.err h (by have K:=hx04;exact hxk)⟩
abbrev Kv:=List (Int×Bk)
def ixB (k:Int):Kv->Option Nat
 | []=>none
 |p::l=>if p.1=k then some 0 else (ixB k l).map (·+ 1)
def lkB (k:Int):Kv->Bk
 | []=>zeroB
 |p::l=>if p.1=k then p.2 else lkB k l
def upB (k:Int) (x:Bk):Kv->Kv
 | []=> [(k,x)]
 |p::l=>if p.1=k then (k,x)::l else p::upB k x l
theorem lkB_up (k:Int) (x:Bk):∀(l:Kv) (j:Int),lkB j (upB k x l)=if j=k then x else lkB j l
 | [],j=>by
  show (if k=j then x else zeroB)=_
  by_cases h:j=k
  ·rw [qi h.symm,qi h]
  ·rw [qd fun e=>h e.symm,qd h];rfl
 |p::l,j=>by
  unfold upB;by_cases hp:p.1=k
  ·rw [qi hp]
   show (if k=j then x else lkB j l)=if j=k then x else if p.1=j then p.2 else lkB j l
   by_cases h:j=k
   ·rw [qi h.symm,qi h]
   ·rw [qd fun e=>h e.symm,qd h,hp,qd fun e=>h e.symm]
  ·rw [qd hp]
   show (if p.1=j then p.2 else lkB j (upB k x l))=if j=k then x else if p.1=j then p.2 else lkB j l
   rw [lkB_up k x l j];by_cases h:p.1=j
   ·rw [qi h,qi h,qd (by rw [← h];exact hp)]
   ·rw [qd h,qd h]
theorem zmb1 {k:Int}(x:Bk):∀{l:Kv},ixB k l=none->upB k x l=l ++ [(k,x)]
 | [],_=>rfl
 |p::l,h=>by
  unfold ixB at h;unfold upB;by_cases hp:p.1=k
  ·rw [qi hp] at h;cases h
  ·rw [qd hp] at h ⊢
   rw [zmb1 x (qi7.1 h)];rfl
theorem znb1 {k:Int}(x:Bk):∀{l:Kv}{i:Nat},ixB k l=some i->upB k x l=l.set i (k,x)
 | [],i,h=>by cases h
 |p::l,i,h=>by
  unfold ixB at h;unfold upB;by_cases hp:p.1=k
  ·rw [qi hp] at h ⊢;cases h;rfl
  ·rw [qd hp] at h ⊢
   obtain ⟨j,hj,rfl⟩:=Option.map_eq_some_iff.1 h;rw [znb1 x hj];rfl
theorem zvi {k:Int}:∀{l:Kv}{i:Nat},ixB k l=some i->l[i]? =some (k,lkB k l)
 | [],i,h=>by cases h
 |p::l,i,h=>by
  unfold ixB at h;unfold lkB;by_cases hp:p.1=k
  ·rw [qi hp] at h ⊢;cases h
   show some p=_
   rw [← hp]
  ·rw [qd hp] at h ⊢
   obtain ⟨j,hj,rfl⟩:=Option.map_eq_some_iff.1 h;exact zvi hj
theorem zeo {k:Int}:∀{l:Kv},ixB k l=none->lkB k l=zeroB
 | [],_=>rfl
 |p::l,h=>by
  unfold ixB at h;unfold lkB;by_cases hp:p.1=k
  ·rw [qi hp] at h;cases h
  ·rw [qd hp] at h ⊢
   exact zeo (qi7.1 h)
theorem zyj1 {k:Int}{x:Bk}{p:Int×Bk}:∀{l:Kv},p∈upB k x l->p.2=x\/p∈l
 | [],h=>by
  simp only [upB,qx1] at h;exact .inl (by rw [h])
 |q::l,h=>by
  unfold upB at h;split at h
  ·rcases qg1.1 h with h|h
   ·exact .inl (by rw [h])
   ·exact .inr (qj1 _ h)
  ·rcases qg1.1 h with h|h
   ·exact .inr (h▸qq1)
   ·rcases zyj1 h with h|h
    ·exact .inl h
    ·exact .inr (qj1 _ h)
theorem zob1 {k:Int}{x:Bk}{j:Int}:∀{l:Kv},j∈(upB k x l).map (·.1)->j=k\/j∈l.map (·.1)
 | [],h=>by simpa [upB] using h
 |p::l,h=>by
  unfold upB at h;split at h
  ·next hp=>simp only [qp1,qg1] at h ⊢;rcases h with h|h<;>simp [h]
  ·simp only [qp1,qg1] at h ⊢
   rcases h with h|h
   ·exact .inr (.inl h)
   ·rcases zob1 h with h|h
    ·exact .inl h
    ·exact .inr (.inr h)
def NdB (l:Kv):Prop:=(l.map (·.1)).Nodup
theorem NdB.up {k:Int}{x:Bk}:∀{l:Kv},NdB l->NdB (upB k x l)
 | [],_=>by simp [NdB,upB]
 |p::l,h=>by
  unfold NdB at h ⊢
  rw [qp1,qh4] at h;unfold upB;split
  ·next hp=>rw [qp1,qh4];exact ⟨by rw [← hp];exact h.1,h.2⟩
  ·next hp =>
   rw [qp1,qh4];refine ⟨fun hm=> ?_,NdB.up h.2⟩
   rcases zob1 hm with e|e
   ·exact hp e
   ·exact h.1 e
theorem zem {k:Int}{x:Bk}:∀{l:Kv},(upB k x l).length<=l.length+1
 | []=>by simp [upB]
 |p::l=>by
  unfold upB;split
  ·simp
  ·have:=zem (k:=k) (x:=x) (l:=l)
   simp only [ql2];omega
theorem ixB_lt {k:Int}{l:Kv}{i:Nat}(h:ixB k l=some i):i<l.length:=(qp.1 (zvi h)).1
def flB:Kv->List Nat
 | []=> []
 |p::l=>p.2 ++ flB l
theorem zzj1:∀(a b:Kv),flB (a ++ b)=flB a ++ flB b
 | [],b=>rfl
 |p::a,b=>by show p.2 ++ flB (a ++ b)=p.2 ++ flB a ++ flB b;rw [zzj1 a b,qi1]
def KvOk (l:Kv):Prop:= ∀p,p∈l->BkOk p.2
theorem zsp:∀{l:Kv},KvOk l->(flB l).length=l.length*16384
 | [],_=>rfl
 |p::l,h=>by
  show (p.2 ++ flB l).length=_
  rw [qr,(h p qq1).len,zsp fun q hq=>h q (qj1 _ hq),ql2];omega
theorem ztp:∀{l:Kv},KvOk l->Byt (flB l)
 | [],_=>fun x hx=>by cases hx
 |p::l,h=>(h p qq1).byt.app (ztp fun q hq=>h q (qj1 _ hq))
theorem flB_at:∀{l:Kv}{i:Nat}{p:Int×Bk},KvOk l->l[i]? =some p->((flB l).drop (i*16384)).take 16384=p.2
 |q::l,0,p,h,hp=>by
  have:q=p:=by simpa using hp
  subst this;show (List.drop (0*16384) (q.2 ++ flB l)).take 16384=q.2
  rw [qy4,qd3];exact qp7 (h q qq1).len
 |q::l,i+1,p,h,hp=>by
  have hp':l[i]? =some p:=by simpa using hp
  show (List.drop ((i+1)*16384) (q.2 ++ flB l)).take 16384=p.2
  rw [show (i+1)*16384=16384+i*16384 from oM,← qq3,qd6 (h q qq1).len]
  exact flB_at (fun q hq=>h q (qj1 _ hq)) hp'
theorem zak1:∀{l:Kv}{i:Nat}(p:Int×Bk),KvOk l->i<l.length->(flB l).take (i*16384) ++ p.2 ++ (flB l).drop (i*16384+16384)=flB (l.set i p)
 |q::l,0,p,h,hp=>by
  show List.take (0*16384) (q.2 ++ flB l) ++ p.2 ++ List.drop (0*16384+16384) (q.2 ++ flB l)=p.2 ++ flB l
  rw [qy4,qo5,qm1,qy1,qd6 (h q qq1).len]
 |q::l,i+1,p,h,hp=>by
  have hl:=(h q qq1).len;show List.take ((i+1)*16384) (q.2 ++ flB l) ++ p.2 ++ List.drop ((i+1)*16384+16384) (q.2 ++ flB l)=q.2 ++ flB (l.set i p)
  rw [← zak1 p (fun q hq=>h q (qj1 _ hq)) (by simpa using hp),show (i+1)*16384=16384+i*16384 from oM,List.take_append,qx oM,hl,
   show 16384+i*16384 - 16384=i*16384 from oM,show 16384+i*16384+16384=16384+(i*16384+16384) from oM,← qq3,qd6 hl,qi1,qi1,qi1]
def BsS (H:AH) (v:AV) (kv:Kv) (N:Nat):Prop:=(v= .nilSl/\kv= [])\/ ∃j op,v= .sl j 0 kv.length kv.length op/\N<=j/\j<H.next /\
 ((kv≠ []/\op=true/\H.get j=some (.cells (byC (flB kv)) 91 16384 true false))\/(kv= []/\ ∃c op',H.get j=some (.cells c 91 16384 op' false)/\c.l= []))
theorem BsS.hq {H H':AH}{v:AV}{kv:Kv}{N:Nat}(h:BsS H v kv N){p:Nat->Prop}(hx:HP p H H') (hb:∀j o n c op,v= .sl j o n c op->p j):BsS H' v kv N:=by
 rcases h with h|⟨j,op,rfl,hN,hj,h⟩
 ·exact .inl h
 ·have hg:=hx.get hj (hb _ _ _ _ _ rfl)
  refine .inr ⟨j,op,rfl,hN,qz hj hx.next,?_⟩;rcases h with ⟨h1,h2,h3⟩|⟨h1,c,op',h3,h4⟩
  ·exact .inl ⟨h1,h2,hg.trans h3⟩
  ·exact .inr ⟨h1,c,op',hg.trans h3,h4⟩
theorem BsS.hx {H H':AH}{v:AV}{kv:Kv}{N:Nat}(h:BsS H v kv N) (hx:HX H H'):BsS H' v kv N:=h.hq (hx.hp fun _=>True) fun _ _ _ _ _ _=>trivial
theorem BsS.is {H:AH}{v:AV}{kv:Kv}{N:Nat}(h:BsS H v kv N):IsSl H v kv.length:=by
 rcases h with ⟨rfl,rfl⟩|⟨j,op,rfl,hN,hj,h⟩
 ·exact .inl ⟨rfl,rfl⟩
 ·rcases h with ⟨h1,h2,h3⟩|⟨h1,c,op',h3,h4⟩
  ·have hr:Row H j false true _ _ (byC (flB kv)).l:=⟨_,h3,rfl⟩
   exact hr.isSl hj (qo2 _)
  ·have hr:Row H j false op' _ _ c.l:=⟨_,h3,rfl⟩
   exact hr.isSl hj (qo2 _)
theorem BsS.le {H:AH}{v:AV}{kv:Kv}{N M:Nat}(h:BsS H v kv N) (hm:M<=N):BsS H v kv M:=by
 rcases h with h|⟨j,op,rfl,hN,h⟩
 ·exact .inl h
 ·exact .inr ⟨j,op,rfl,oM,h⟩
theorem BsS.at {H:AH}{v:AV}{kv:Kv}{N:Nat}(h:BsS H v kv N) (hk:KvOk kv){i:Nat}{p:Int×Bk}(hp:kv[i]? =some p):ldN 16384 (elA 16384 v i) H=some (bkA p.2):=by
 have hi:=(qp.1 hp).1;rcases h with ⟨rfl,rfl⟩|⟨j,op,rfl,hN,hj,h⟩
 ·simp at hi
 ·rcases h with ⟨h1,rfl,h3⟩|⟨rfl,_⟩
  ·rw [ziw,ldN_q,h3,qy1,sbB_b (ztp hk) (by rw [zsp hk];omega),flB_at hk hp]
  ·simp at hi
noncomputable def zA16:AV:=.agg (List.replicate 16384 (.int .u8 0))
noncomputable def f63c:C2:=(.seq (.reg (bx_ false 91 16384 (tO 2) 5<| .done))
 (.seq (.reg (m_ (tO 0) 7<|m_ (tO 1) 8<|cl_ false 67 [(tO 7),(tO 8)] 9<|m_ (tO 9) 6<| .done))
 (.seq (.seq (.reg (m_ (tO 6) 10<|b_ lookM .lss 3 (.tmp 10) (.const (.int .i64 (0))) 11<| .done))
 (.cond (tO 11) (.seq (.reg (m_ (tO 0) 12<|m_ (tO 0) 13<|nl_ (tO 13) 14<|fa_ 7 (tO 14) 15<|l_ (tO 15) 16<|m_ (tO 1) 17<|hn_ false (fun xs H=>bsF 1 1 (.int .i64 (0)) 3 (zipF [0] xs) H) [(tO 17)] 18<|hn_ false (appX 3 1 8) [(tO 16),(tO 18)] 19<|nl_ (tO 12) 20<|fa_ 7 (tO 20) 21<|s1_ false lookM 35 (tO 21) (tO 19)<| .done))
 (.seq (.reg (m_ (tO 0) 22<|m_ (tO 0) 23<|nl_ (tO 23) 24<|fa_ 8 (tO 24) 25<|l_ (tO 25) 26<|lN_ 16384 (tO 5) 27<|hn_ true (fun xs H=>bsF 16384 1 zA16 91 (zipF [0] xs) H) [(tO 27)] 28<|hn_ false (appX 91 16384 16384) [(tO 26),(tO 28)] 29<|nl_ (tO 22) 30<|fa_ 8 (tO 30) 31<|s1_ false lookM 54 (tO 31) (tO 29)<| .done))
 .ret)) .skip))
 (.reg (m_ (tO 0) 32<|nl_ (tO 32) 33<|fa_ 8 (tO 33) 34<|l_ (tO 34) 35<|m_ (tO 6) 36<|lN_ 16384 (tO 5) 37<|ix_ 16384 (tO 35) (tO 36) 38<|sN_ false 16384 (tO 38) (tO 37)<| .done)))))
theorem f63_eq:fnF lookM 63=some ⟨39,f63c, []⟩:=kR
theorem byC_app {a b:List Nat}(ha:Byt a):Ce.app (byC a) (byC b)=byC (a ++ b):=by
 show Ce.join a.length (Nb a) b.length (Nb b)=_
 unfold Ce.join;show Ce.byt (a.length+b.length) (Nb a%Ce.pw a.length+Nb b*Ce.pw a.length)=_
 rw [pw_eq,qb5 (Nb_lt ha)];unfold byC;rw [zpw,qr,qx3]
theorem bkC_sub {H:AH}{j e z:Nat}{op ro:Bool}{x:Bk}(hx:BkOk x) (hg:H.get j=some (.cells (bkC x) e z op ro)):H.subC j 0 (1*16384)=some (bkC x):=by
 unfold AH.subC;rw [hg];have:=sub_b hx.byt (o:=0) (n:=16384) (by rw [hx.len];decide)
 unfold byC at this;rw [hx.len,qd3,qx (by rw [hx.len];exact qn _)] at this
 exact this
theorem bs_app1 {H:AH}[hn:HN H]{v:AV}{kv:Kv}{N:Nat}(h:BsS H v kv N) (hq:v= .nilSl\/kv≠ []) (hk:KvOk kv){x:Bk}(hx:BkOk x){j:Nat}{e' z':Nat}{op' ro:Bool}(hg:H.get j=some (.cells (bkC x) e' z' op' ro)){op2:Bool}(k:Int)
  (hlen:kv.length<=100000) (hlo:H.lo<=N) (hN:N<=H.next) :
  ∃v' H',appX 91 16384 16384 [v,.sl j 0 1 1 op2] H=some (v',H')/\BsS H' v' (kv ++ [(k,x)]) N/\HP (blkNe v) H H'/\H'.next=H.next+1/\(∀i,i<H.next->blkNe v' i):=by
 have hsrc:zib 16384 (.sl j 0 1 1 op2) 1 H=some (bkC x):=bkC_sub hx hg;have hxx:bkC x=byC x:=by unfold byC;rw [hx.len]
 rcases h with ⟨rfl,rfl⟩|⟨i,op,rfl,hNi,hi,h⟩
 ·refine ⟨.sl H.next 0 1 1 true,H.new (.cells (bkC x) 91 16384 true false),?_,.inr ⟨H.next,true,rfl,hN,qd1 _,.inl ⟨by simp,rfl,?_⟩⟩,(HX.new _ _).hp _,rfl,fun i hi=>zga oM⟩
  ·rw [zxn (n:=1) rfl hsrc rfl]
   show slNew 1 (.cells (bkC x) 91 16384 true false) H=_
   exact zjf _ _ _
  ·rw [zaa,hxx]
   show _=some (ABlk.cells (byC (x ++ [])) _ _ _ _)
   rw [qw1]
 ·have hne:kv≠ []:=by
   rcases hq with e|e
   ·cases e
   ·exact e
  obtain ⟨rfl,hgi⟩:op=true/\H.get i=some (.cells (byC (flB kv)) 91 16384 true false):=by
   rcases h with ⟨_,h1,h2⟩|⟨e,_⟩
   ·exact ⟨h1,h2⟩
   ·exact absurd e hne
  have hfl:=zsp hk;have hold:H.subC i 0 (kv.length*16384)=some (byC (flB kv)):=by
   unfold AH.subC;rw [hgi];have:=sub_b (ztp hk) (o:=0) (n:=kv.length*16384) (by rw [hfl];omega)
   rw [qd3,qx (by rw [hfl];exact qn _)] at this
   show (byC (flB kv)).sub 0 (kv.length*16384)=_
   rw [this];unfold byC;rw [hfl]
  refine ⟨.sl H.next 0 (kv.length+1) (kv.length+1) true,(H.put i .defd).new (.cells (Ce.app (byC (flB kv)) (bkC x)) 91 16384 true false),?_,.inr ⟨H.next,true,by rw [qr];rfl,hN,qd1 _,.inl ⟨by simp,rfl,?_⟩⟩,?_,rfl,fun i hi=>zga oM⟩
  ·rw [zxn (n:=1) rfl hsrc rfl]
   show brec (appG _ 16384 16384 i 0 kv.length kv.length true 1 (bkC x) H) _ (Nat.ble (kv.length+1) kv.length)=_
   rw [show Nat.ble (kv.length+1) kv.length=false from by cases h:Nat.ble (kv.length+1) kv.length with|false=>rfl|true=>have:=qe1 h;omega]
   show (match Nat.ble (Nat.mul (Nat.add kv.length 1) 16384) 140737488355328 && Nat.ble (Nat.add kv.length 1) 9223372036854775807 with
    |false=>none
    |true=>orec none (fun old=>brec (slNew (Nat.add kv.length 1) (.cells (Ce.app old (bkC x)) _ 16384 true false) H) (appO _ 16384 i 0 kv.length kv.length 1 old (bkC x) H) true) (subCF H i 0 (Nat.mul kv.length 16384)))=_
   rw [show Nat.ble (Nat.mul (Nat.add kv.length 1) 16384) 140737488355328=true from qe (by show (kv.length+1)*16384<=_;omega),show Nat.ble (Nat.add kv.length 1) 9223372036854775807=true from qe (by show kv.length+1<=_;omega),zif]
   rw [show H.subC i 0 (Nat.mul kv.length 16384)=some (byC (flB kv)) from hold]
   show appO _ 16384 i 0 kv.length kv.length 1 (byC (flB kv)) (bkC x) H=_
   unfold appO;rw [show Nat.ble H.lo i=true from qe oM,zlk,hgi]
   show appD _ 16384 i 0 kv.length kv.length 1 (byC (flB kv)) (bkC x) H (byC (flB kv)) _ 16384 true false=_
   unfold appD;rw [show (Nat.beq 91 91 && Nat.beq 16384 16384 && true && !false && Nat.beq (byC (flB kv)).len (Nat.add 0 (Nat.mul kv.length 16384)))=true from by
    rw [show (byC (flB kv)).len=(flB kv).length from rfl,hfl,show Nat.add 0 (Nat.mul kv.length 16384)=kv.length*16384 from qy1 _,show Nat.beq (kv.length*16384) (kv.length*16384)=true from qt2 _];rfl]
   simp only [zjf,zdp];rfl
  ·haveI:HN (H.put i .defd):=(HP.put H i .defd).hn
   show ((H.put i .defd).new _).get (H.put i .defd).next=_
   rw [zaa,hxx,byC_app (ztp hk),zzj1];show _=some (ABlk.cells (byC (flB kv ++ (x ++ []))) _ _ _ _)
   rw [qw1]
  ·refine (HP.put H i .defd).trans ((HX.new (H.put i .defd) _).hp fun _=>True) fun j hj hb=>⟨fun h=> ?_,trivial⟩
   subst h;exact hb _ _ _ _ rfl
theorem z91:zC lookM 91= .byt 16384 0:=kR
theorem bu91:zsa lookM 91 (zipF [] [])=some (.bag 16384 0):=kR
theorem ld91 (i o:Nat) (H:AH):zub lookM 91 (.ptr i o) H=ldN 16384 (.ptr i o) H:=zeg kR kR
theorem bk_at {b:Bk}(h:BkOk b){k:Nat}(hk:k<64) (e z:Nat) (op ro:Bool):sbB (some (.cells (bkC b) e z op ro)) (k*256) 256=some (.bag 256 (Nb (atB b k))):=by
 have:=sbB_b h.byt (e:=e) (z:=z) (o:=k*256) (n:=256) (op:=op) (ro:=ro) (by rw [h.len];omega)
 unfold byC at this;rw [h.len] at this;rw [this,qx3 k 256];rfl
theorem zzk {H:AH}[hn:HN H]{b:Bk}(h:BkOk b):FnE lookM 38 [bkA b] H fun r H'=>r= .int .i64 (usedB b:Nat)/\HX H H':=by
 refine fI Tryz.f38 ?_;have hlo:=hn.lo;have F:=@zdd;refine uT ?_;refine rc_l (fun n T H'=> ∃q c,n+q=64/\HX H H'/\H'.get H.next=some (.cells (bkC b) 91 16384 false false)/\c+zfg b q n=usedB b/\gT T 1= .ptr H.next 0/\gT T 3= .int .i64 (c:Nat)/\gT T 4= .int .i64 q) 64 ?_ ?_
 ·exact ⟨0,0,rfl,hxt,zaa _,by unfold usedB;omega,vT0,by refine uT0 ?_;rfl,by refine uT0 ?_;rfl⟩
 rintro n T H1 ⟨q,c,hnq,hx1,g0,hc,t1,t3,t4⟩;haveI:=hx1.hn;have hlo1:H1.lo<=H1.next:=HN.lo;have hn1:=hx1.next;cases n with
 |zero =>
  have hc:c=usedB b:=hc;have d1:decide ((q:Int)<64)=false:=qq oM
  have F:=J4 @t1 @t3 @t4 @d1;refine uT ?_;exact ⟨by rw [hc],hx1⟩
 |succ n =>
  have d1:decide ((q:Int)<64)=true:=qk oM
  have hix:=ixA_n (n:=64) (z:=256) (i:=H.next) (o:=0) (k:=q) oM
  have hat:=fun e z op ro=>bk_at h (k:=q) oM e z op ro
  have hl:=zhb1 h.len (k:=q) oM
  have hb:=zsj1 h.byt q;have hnz:=nz hb hl;have hc2:c+((if atB b q=noB then 0 else 1)+zfg b (q+1) n)=usedB b:=hc
  have hle:=zjd b n (q+1);have hle2:usedB b<=64:=zjd b 64 0;by_cases e:atB b q=noB
  ·rw [qi e] at hc2
   rw [qk e] at hnz;have F:=J10 @t1 @t3 @t4 @d1 @hix @g0 @hat @bu89 @eq89 @hnz;refine uT ?_;exact ⟨n,oM,q+1,c,oM,hx1,oM,rfl,by push_cast;rfl⟩
  ·rw [qd e] at hc2
   rw [qq e] at hnz;have F:=J10 @t1 @t3 @t4 @d1 @hix @g0 @hat @bu89 @eq89 @hnz;refine uT ?_;exact ⟨n,oM,q+1,c+1,oM,hx1,oM,by push_cast;rfl,by push_cast;rfl⟩
theorem zpb1 {H:AH}[hn:HN H]{b:Bk}(h:BkOk b){f t:Nat}(ht:t<=64) (hf:f<=1000000):FnE lookM 64 [bkA b,.int .i64 f,.int .i64 t] H fun r H'=>r=bkA (cutK b f (t - f))/\HX H H':=by
 refine fI Tryz.f64 ?_;have hlo:=hn.lo;have F:=J2 @zdd @z91;refine uT ?_;refine rc_l (fun n T H'=> ∃j,n+j=t - f/\HX H H'/\H.next+2<=H'.next/\H'.get H.next=some (.cells (bkC (cutK b f j)) 91 16384 false false)/\H'.get (H.next+1)=some (.cells (.byt 16384 0) 91 16384 false false) /\
  gT T 2= .int .i64 t/\gT T 3= .ptr H.next 0/\gT T 6= .ptr (H.next+1) 0/\gT T 7= .int .i64 (f+j:Nat)) (t - f) ?_ ?_
 ·exact ⟨0,oM,hxt,qn _,by rw [zzo1];simp (maxSteps:=1000000) (disch:=first|assumption|omega|rfl|(simp only [nx];omega)|(simp only [lens]<;>omega)) only [rq,rq2,zoi,lsE_s,qa2,qr1,Nat.reduceEqDiff,Nat.reduceAdd,reduceIte,reduceCtorEq,ne_eq,qf1,qc1,qs2,qm2],zaa _,vT0,vT0,vT0,wT0⟩
 rintro n T H1 ⟨j,hnj,hx1,hn1,g0,g1,t2,t3,t6,t7⟩;haveI:=hx1.hn;have hlo1:H1.lo=H.lo:=hx1.lo;have e01:=hEq_f (oM:H.next≠H.next+1)
 cases n with
 |zero =>
  have d1:decide (((f+j:Nat):Int)<t)=false:=qq oM
  have hj:j=t - f:=oM
  rw [hj] at g0;have hok:=zui h (f:=f) ht;have ha:=fun e z op ro=>zjl hok e z op ro
  have hw:=fun i e op H=>wbk0 i e op H hok
  have F:=J11 @t2 @t3 @t6 @t7 @d1 @g0 @g1 @ha @zdd @hw @ld91;refine uT ?_;have K:=hx1;exact hxk
 |succ n =>
  have d1:decide (((f+j:Nat):Int)<t)=true:=qk oM
  have hok:=zib1 h (f:=f) (j:=j) oM
  have hw:=wbk hok (Byt.zero 256) qk3 (k:=f+j) oM
  rw [zyk,cutK_s h.len oM] at hw
  have hix:=ixA_n (n:=64) (z:=256) (i:=H.next) (o:=0) (k:=f+j) oM
  have F:=J10 @t2 @t3 @t6 @t7 @d1 @bu89 @zdd @hix @g0 @hw;refine uT ?_;exact ⟨n,oM,j+1,oM,HX.put hx1 (qn _) _,hn1,rfl,g1,by push_cast;rw [Int.add_assoc]⟩
def wdL (nn:Int) (v lv iv qv:AV):List AV:= [.int .i64 nn,v,.int .i64 0,.int .i64 0,.int .i64 0,.int .i64 0,lv,iv,qv]
abbrev wdx (nn:Int) (v lv iv qv:AV):ABlk:=.cells (.lst (wdL nn v lv iv qv)) 56 9 false false
theorem wd_1 (nn:Int) (v lv iv qv:AV):nth (wdL nn v lv iv qv) 1=some v:=rfl
theorem wd_7 (nn:Int) (v lv iv qv:AV):nth (wdL nn v lv iv qv) 7=some iv:=rfl
theorem wd_8 (nn:Int) (v lv iv qv:AV):nth (wdL nn v lv iv qv) 8=some qv:=rfl
theorem wd_t (nn:Int) (v lv iv qv:AV) (e z:Nat) (op ro:Bool):sbB (some (.cells (.lst (wdL nn v lv iv qv)) e z op ro)) 0 7=some (tbA nn v lv):=by
 rw [sbB_l];rfl
abbrev idL (kv:Kv):List AV:=kv.map fun p=>AV.int .i64 p.1
structure WdR (H:AH) (b:Nat) (s:Ms) (v lv iv qv:AV) (l:List (AV×Rc)) (kv:Kv) (N:Nat):Prop where
 lt:b<H.next
 nb:N<=b
 box:H.get b=some (wdx s.t.nx v lv iv qv)
 tb:TbD H s.t v lv l
 ids:OwnS H iv kv.length 3 1 (idL kv) N
 bs:BsS H qv kv N
 f:∀k,s.b k=lkB k kv
 ok:KvOk kv
 nd:NdB kv
theorem WdR.hx {H H':AH}{b:Nat}{s:Ms}{v lv iv qv:AV}{l:List (AV×Rc)}{kv:Kv}{N:Nat}(h:WdR H b s v lv iv qv l kv N) (hx:HX H H'):WdR H' b s v lv iv qv l kv N :=
 ⟨qz h.lt hx.next,h.nb,(hx.get h.lt).trans h.box,h.tb.hx hx,OwnS.hx h.ids hx,h.bs.hx hx,h.f,h.ok,h.nd⟩
theorem ids_at {H:AH}{iv:AV}{n e N:Nat}{cs:List AV}(h:OwnS H iv n e 1 cs N){k:Nat}{x:AV}(hx:cs[k]? =some x):ld1 (elA 1 iv k) H=some x:=by
 have hk:=(qp.1 hx).1;rcases h.2 with ⟨rfl,h0⟩|⟨j,op,rfl,hr,_⟩
 ·rw [h.1,h0] at hk;omega
 ·rw [ziw,qy1,qs3]
  exact hr.rd hx
def plI (k:Int) (kv:Kv):Int:=match ixB k kv with|some i=>(i:Int)|none=> -1
theorem zqb1 {H:AH}[hn:HN H]{b:Nat}{s:Ms}{v lv iv qv:AV}{l:List (AV×Rc)}{kv:Kv}{N:Nat}(h:WdR H b s v lv iv qv l kv N) (k:Int) (hlen:kv.length<=100000) :
  FnE lookM 67 [.ptr b 0,.int .i64 k] H fun r H'=>r= .int .i64 (plI k kv)/\HX H H':=by
 refine fI Tryz.f67 ?_;have hlo:=hn.lo;have hb:=h.box;have his:=(OwnS.slZ h.ids).is;have hl:∀H',fstO (zda .len lookM [35] [iv] H')=some (.int .i64 kv.length):=fun H'=>ztc (H':=H') uIs his
 refine uT0 ?_;refine rc_l (fun n T H'=> ∃q,n+q=kv.length/\H'=H/\ixB k kv=(ixB k (kv.drop q)).map (·+ q)/\gT T 0= .ptr b 0/\gT T 1= .int .i64 k/\gT T 5= .int .i64 q) kv.length ?_ ?_
 ·exact ⟨0,rfl,rfl,by simp,vT0,vT0,by refine uT0 ?_;rfl⟩
 rintro n T H1 ⟨q,hnq,rfl,hq,t0,t1,t5⟩;unfold plI;cases n with
 |zero =>
  have d1:decide ((q:Int)<(kv.length:Int))=false:=qq oM
  rw [ql4 oM] at hq
  have F:=J7 @t0 @t1 @t5 @hb @wd_7 @hl @d1;refine uT ?_;rw [hq];exact ⟨rfl,HX.refl _⟩
 |succ n =>
  have hlt:q<kv.length:=oM
  have d1:decide ((q:Int)<(kv.length:Int))=true:=qk oM
  have hp:kv[q]? =some kv[q]:=qo hlt;have hix:=ix44 (z:=1) (q:=q) his hlt;have hld:=ids_at h.ids (k:=q) (x:=.int .i64 (kv[q]).1) (by rw [qh1,hp];rfl)
  rw [qt6 hlt] at hq;generalize kv[q]=p at *
  cases a1:decide (p.1=k) with
  |true =>
   have e:ixB k kv=some q:=by
    rw [hq];unfold ixB;rw [qi (qg a1)];simp
   have F:=J10 @t0 @t1 @t5 @hb @wd_7 @hl @d1 @hix @hld @a1;refine uT ?_;rw [e];exact ⟨rfl,HX.refl _⟩
  |false =>
   have F:=J10 @t0 @t1 @t5 @hb @wd_7 @hl @d1 @hix @hld @a1;refine uT ?_;refine ⟨n,oM,q+1,oM,?_,by push_cast;rfl⟩
   rw [hq];show (if p.1=k then some 0 else (ixB k (kv.drop (q+1))).map (·+ 1)).map (·+ q)=_
   rw [qd (qh a1),Option.map_map];congr 1;funext i;show i+1+q=i+(q+1)
   omega
theorem wz_c:bkC zeroB= .byt 16384 0:=by show Ce.byt 16384 (Nb zeroB)=_;rw [zdm]
theorem wz_a:bkA zeroB= .bag 16384 0:=by show AV.bag 16384 (Nb zeroB)=_;rw [zdm]
theorem of_ok {H:AH}[hn:HN H]{b:Nat}{s:Ms}{v lv iv qv:AV}{l:List (AV×Rc)}{kv:Kv}{N:Nat}(h:WdR H b s v lv iv qv l kv N) (k:Int) (hlen:kv.length<=100000) :
  FnE lookM 39 [.ptr b 0,.int .i64 k] H fun r H'=>r=bkA (s.b k)/\HX H H':=by
 refine fI Tryz.f39 ?_;have hlo:=hn.lo;have F:=@z91;refine uT ?_;refine cR_at (fun H1=>HX H H1/\H1.next=H.next+1/\H1.get H.next=some (.cells (.byt 16384 0) 91 16384 false false)) ?_ ?_
 ·exact ⟨HX.new _ _,rfl,zaa _⟩
 rintro H1 ⟨hx1,hn1,g1⟩;haveI:=hx1.hn;refine cR_f (zqb1 (h.hx hx1) k hlen) ?_;rintro r2 H2 ⟨rfl,hx2⟩;have hx02:=hx1.trans hx2;haveI:=hx02.hn;have hlo2:H2.lo=H.lo:=hx02.lo;have g1:=(hx2.get (i:=H.next) oM).trans g1
 have h2:=h.hx hx02;have hb:=h2.box;unfold plI;cases a1:ixB k kv with
 |none =>
  have hd:decide ((-1:Int)<0)=true:=dC
  have hw:=wbk0 H.next 91 false H2 zeroB_ok;have hba:=zjl zeroB_ok;rw [wz_c] at hw hba;rw [wz_a] at hba;have F:=J7 @hd @bu91 @zdd @g1 @hw @ld91 @hba;refine uT ?_;exact ⟨by rw [h.f,zeo a1,wz_a],HX.put hx02 (qn _) _⟩
 |some i =>
  have hd:decide ((i:Int)<0)=false:=qq oM
  have hp:=zvi a1;have hix:=ix44 (z:=16384) (q:=i) h2.bs.is (ixB_lt a1);have hld:=h2.bs.at h.ok hp;have hok:BkOk (lkB k kv):=h.ok _ (qy.2 ⟨i,hp⟩);have hw:=wbk0 H.next 91 false H2 hok;have hba:=zjl hok;rw [h.f];have F:=J10 @hd @hb @wd_8 @hix @hld @zdd @g1 @hw @ld91 @hba;refine uT ?_;exact HX.put hx02 (qn _) _
theorem zbk1:∀{l:List Nat},Byt l->Ce.pack (u8L l)=some (Nb l)
 | [],_=>rfl
 |x::l,h=>by
  have h1:=h x qq1;have h2:=zbk1 (l:=l) fun y hy=>h y (qj1 _ hy)
  show obind (Ce.byteOf (.int .u8 (.ofNat x))) (fun m=>obind (Ce.pack (u8L l)) fun N=>some (Nat.add m (Nat.mul 256 N)))=_
  rw [h2];show obind (brec none (some x) (Nat.blt x 256)) _=_
  rw [show Nat.blt x 256=true from qe h1]
  rfl
theorem zrb1 {x:Bk}(hx:BkOk x):(bkA x).cells=u8L x:=by
 have:=zbo hx.byt;rw [hx.len] at this;exact this
theorem bk_of {x:Bk}(hx:BkOk x):Ce.of (bkA x).cells=bkC x:=by
 rw [zrb1 hx];unfold Ce.of;rw [zbk1 hx.byt,zxe];simp only [qm3,hx.len]
theorem bs_one {x:Bk}(hx:BkOk x) (H:AH):bsF 16384 1 zA16 91 (zipF [0] [bkA x]) H=some (.sl H.next 0 1 1 false,H.new (.cells (bkC x) 91 16384 false false)) :=
 bs1_q (by show (List.replicate 16384 (AV.int .u8 0)).length=16384;exact qk3) (by rw [zrb1 hx,qm3,hx.len]) (bk_of hx)
theorem BsS.blk {H:AH}{v:AV}{kv:Kv}{N:Nat}(h:BsS H v kv N){j o n c:Nat}{op:Bool}(e:v= .sl j o n c op):∃cc e op' ro,H.get j=some (.cells cc e 16384 op' ro):=by
 rcases h with ⟨rfl,_⟩|⟨i,op2,rfl,_,_,g⟩
 ·cases e
 ·cases e
  rcases g with ⟨_,_,g⟩|⟨_,c,op',g,_⟩
  ·exact ⟨_,_,_,_,g⟩
  ·exact ⟨_,_,_,_,g⟩
theorem BsS.ne {H:AH}{v:AV}{kv:Kv}{N:Nat}(h:BsS H v kv N){j:Nat}{c:Ce}{e' z':Nat}{op ro:Bool}(hb:H.get j=some (.cells c e' z' op ro)) (hz:16384≠z'):blkNe v j:=fun o n c op e=>by
 obtain ⟨_,_,_,_,g⟩:=h.blk e;rw [hb] at g;cases g;exact hz rfl
structure KpR (H H':AH) (b:Nat) (iv qv iv2 qv2:AV):Prop where
 hp:HP (fun i=>i≠b/\blkNe iv i/\blkNe qv i) H H'
 i:∀j,j<H.next->blkNe iv j->blkNe iv2 j
 q:∀j,j<H.next->blkNe qv j->blkNe qv2 j
theorem KpR.hx {H H':AH}{b:Nat}{iv qv:AV}(h:HX H H'):KpR H H' b iv qv iv qv:=⟨h.hp _,fun _ _ h=>h,fun _ _ h=>h⟩
theorem KpR.trans {H H1 H2:AH}{b:Nat}{iv qv iv1 qv1 iv2 qv2:AV}(h:KpR H H1 b iv qv iv1 qv1) (k:KpR H1 H2 b iv1 qv1 iv2 qv2):KpR H H2 b iv qv iv2 qv2 :=
 ⟨h.hp.trans k.hp fun i hi hh=>⟨hh,hh.1,h.i i hi hh.2.1,h.q i hi hh.2.2⟩,fun j hj hh=>k.i j (qz hj h.hp.next) (h.i j hj hh),fun j hj hh=>k.q j (qz hj h.hp.next) (h.q j hj hh)⟩
theorem TbD.hq {H H':AH}{t:Tb}{v lv:AV}{l:List (AV×Rc)}(h:TbD H t v lv l){q:Nat->Prop}(hp:HP q H H') (h44:∀j cc e op ro,H.get j=some (.cells cc e 44 op ro)->q j) (h2:∀j cc e op ro,H.get j=some (.cells cc e 2 op ro)->q j)
  (h1:∀j op,Row H j false op 3 1 lvL->q j):TbD H' t v lv l:=by
 refine ⟨⟨?_,fun p hp'=> ?_⟩,h.eq,?_⟩
 ·rcases h.rd.rd with h|⟨j,c,op,op',cs,rfl,hj,hr,hc⟩
  ·exact .inl h
  ·have hq:q j:=by obtain ⟨cc,hg,_⟩:=hr;exact h44 _ _ _ _ _ hg
   exact .inr ⟨j,c,op,op',cs,rfl,qz hj hp.next,hr.hp hp hj hq,hc⟩
 ·rcases h.rd.ho p hp' with e|⟨j,op,cc,op',e,hj,hg⟩
  ·exact .inl e
  ·exact .inr ⟨j,op,cc,op',e,qz hj hp.next,(hp.get hj (h2 _ _ _ _ _ hg)).trans hg⟩
 ·obtain ⟨j,op,rfl,hr,hj⟩:=h.lv
  exact ⟨j,op,rfl,hr.hp hp hj (h1 _ _ hr),qz hj hp.next⟩
theorem ids_lv {H:AH}{iv:AV}{kv:Kv}{N:Nat}(h:OwnS H iv kv.length 3 1 (idL kv) N) (hd:NdB kv){j:Nat}{op:Bool}(hr:Row H j false op 3 1 lvL):blkNe iv j:=by
 rcases h.2 with ⟨rfl,_⟩|⟨i,op2,rfl,hr2,_⟩
 ·exact zfa _
 ·refine zga fun e=> ?_
  subst e;obtain ⟨c1,g1,e1⟩:=hr;obtain ⟨c2,g2,e2⟩:=hr2;rw [g1] at g2;cases g2;have e3:idL kv=lvL:=e2.symm.trans e1
  match kv,e3,hd with
  | [],e3,_=>exact absurd (qu4 List.length e3) (by show ¬0=2;decide)
  | [p],e3,_=>exact absurd (qu4 List.length e3) (by show ¬1=2;decide)
  |p::q::r,e3,hd =>
   have e4:p.1=0/\q.1=0:=by
    simp only [idL,qp1,lvL] at e3
    injection e3 with a1 a2
    injection a2 with a2 a3
    injection a1 with _ a1
    injection a2 with _ a2
    exact ⟨a1,a2⟩
   unfold NdB at hd;simp only [qp1,qh4,qg1,not_or] at hd;exact hd.1.1 (by rw [e4.1,e4.2])
theorem WdR.keep {H H':AH}{b:Nat}{s:Ms}{v lv iv qv iv2 qv2:AV}{l:List (AV×Rc)}{kv kv2:Kv}{N:Nat}(h:WdR H b s v lv iv qv l kv N){f:Int->Bk}(hk:KpR H H' b iv qv iv2 qv2) (hb:H'.get b=some (wdx s.t.nx v lv iv2 qv2))
  (h1:OwnS H' iv2 kv2.length 3 1 (idL kv2) N) (h2:BsS H' qv2 kv2 N) (hf:∀k,f k=lkB k kv2) (ho:KvOk kv2) (hd:NdB kv2):WdR H' b ⟨s.t,f⟩ v lv iv2 qv2 l kv2 N:=by
 have hbx:=h.box;have sep:∀z,z≠9->z≠1->z≠16384-> ∀j cc e op ro,H.get j=some (.cells cc e z op ro)->j≠b/\blkNe iv j/\blkNe qv j:=by
  intro z z9 z1 z16 j cc e op ro hg;refine ⟨fun e=> ?_,?_,?_⟩
  ·subst e;rw [hbx] at hg;cases hg;exact z9 rfl
  ·rcases h.ids.2 with ⟨rfl,_⟩|⟨i,op2,rfl,hr2,_⟩
   ·exact zfa _
   ·refine zga fun e=> ?_
    subst e;obtain ⟨c2,g2,_⟩:=hr2;rw [hg] at g2;cases g2;exact z1 rfl
  ·rcases h.bs with ⟨rfl,_⟩|⟨i,op2,rfl,_,_,g⟩
   ·exact zfa _
   ·refine zga fun e=> ?_
    subst e;rcases g with ⟨_,_,g⟩|⟨_,c,op',g,_⟩
    ·rw [hg] at g;cases g;exact z16 rfl
    ·rw [hg] at g;cases g;exact z16 rfl
 refine ⟨qz h.lt hk.hp.next,h.nb,hb,h.tb.hq hk.hp (sep 44 dC dC dC) (sep 2 dC dC dC) (fun j op hr=> ?_),h1,h2,hf,ho,hd⟩
 refine ⟨fun e=> ?_,ids_lv h.ids h.nd hr,?_⟩
 ·subst e;obtain ⟨c,g,_⟩:=hr;rw [hbx] at g;cases g
 ·rcases h.bs with ⟨rfl,_⟩|⟨i,op2,rfl,_,_,g⟩
  ·exact zfa _
  ·refine zga fun e=> ?_
   subst e;obtain ⟨c1,g1,_⟩:=hr;rcases g with ⟨_,_,g⟩|⟨_,c,op',g,_⟩
   ·rw [g1] at g;cases g
   ·rw [g1] at g;cases g
set_option maxHeartbeats 16000000 in
theorem zzh {H:AH}[hn:HN H]{b:Nat}{s:Ms}{v lv iv qv:AV}{l:List (AV×Rc)}{kv:Kv}{N:Nat}(h:WdR H b s v lv iv qv l kv N) (hq:qv= .nilSl\/kv≠ []) (k:Int){x:Bk}(hx:BkOk x) (hlen:kv.length<=99999) (hlN:H.lo<=N) :
  FnE lookM 63 [.ptr b 0,.int .i64 k,bkA x] H fun r H'=> ∃iv2 qv2,WdR H' b ⟨s.t,setK s.b k x⟩ v lv iv2 qv2 l (upB k x kv) N/\(qv2= .nilSl\/upB k x kv≠ [])/\KpR H H' b iv qv iv2 qv2:=by
 refine zuc f63_eq rfl rfl ?_;have hlo:=hn.lo;have hlt:=h.lt;have hnb:=h.nb;have F:=J2 f63c.eq_1 @zdd;refine uT ?_;refine cR_at (fun H1=>HX H H1/\H1.next=H.next+1/\H1.get H.next=some (.cells (bkC x) 91 16384 false false)) ?_ ?_
 ·exact ⟨HX.new _ _,rfl,zaa _⟩
 rintro H1 ⟨hx1,hn1,g1⟩;haveI:=hx1.hn;refine cR_f (zqb1 (h.hx hx1) k oM) ?_
 rintro r2 H2 ⟨rfl,hx2⟩;have hx02:=hx1.trans hx2;haveI:=hx02.hn;have hn2:=hx2.next;have hlo2:H2.lo=H.lo:=hx02.lo;have g1:=(hx2.get (i:=H.next) oM).trans g1
 have h2:=h.hx hx02;have hb:=h2.box;have hba:=zjl hx;have hne:upB k x kv≠ []:=by
  cases kv with
  |nil=>simp [upB]
  |cons p l=>unfold upB;split<;>simp
 have hf:∀j,setK s.b k x j=lkB j (upB k x kv):=fun j=>by
  rw [lkB_up,← h.f];rfl
 have hok:KvOk (upB k x kv):=fun p hp=>by
  rcases zyj1 hp with e|e
  ·rw [e];exact hx
  ·exact h.ok _ e
 unfold plI;cases a1:ixB k kv with
 |some i =>
  have hd:decide ((i:Int)<0)=false:=qq oM
  have hp:=zvi a1;have hi:=ixB_lt a1;have hup:=znb1 x a1;have hix:=ix44 (z:=16384) (q:=i) h2.bs.is hi;rcases h2.bs with ⟨_,rfl⟩|⟨j,op,rfl,hNj,hj,⟨hne0,rfl,hgj⟩|⟨rfl,_⟩⟩
  ·simp at hi
  ·have hfl:=zsp h.ok
   have hw:=wrN_b (ztp h.ok) hx.byt (e:=91) (z:=16384) (i:=j) (o:=i*16384) (n:=16384) (op:=true) (H:=H2) hx.len (by rw [hfl];omega)
   rw [zak1 (k,x) h.ok hi] at hw;unfold byC at hw;rw [hx.len] at hw;have F:=J9 @hd @hb @wd_8 @hix @g1 @hba @zdd @hgj @hw;refine uT ?_;have hset:(kv.set i (k,x)).length=kv.length:=qj2;have hids:idL (kv.set i (k,x))=idL kv:=by
    unfold idL;rw [List.map_set];refine qb4 fun n=> ?_
    rw [List.getElem?_set];split
    ·next e=>subst e;rw [qm3,qi hi,qh1,hp];rfl
    ·rfl
   have hk2:KvOk (kv.set i (k,x)):=by rw [← hup];exact hok
   have hbl:Ce.byt (flB kv).length (Nb (flB (kv.set i (k,x))))=byC (flB (kv.set i (k,x))):=by
    unfold byC;rw [zsp hk2,hset,hfl]
   rw [hbl];have hp2:HP (·≠ j) H2 (H2.put j (.cells (byC (flB (kv.set i (k,x)))) 91 16384 true false)):=HP.put _ _ _;have hnei:blkNe iv j:=OwnS.ne h2.ids hgj dC
   have hbj:b≠j:=fun e=>by subst e;rw [hb] at hgj;cases hgj
   have kp:KpR H (H2.put j (.cells (byC (flB (kv.set i (k,x)))) 91 16384 true false)) b iv (.sl j 0 kv.length kv.length true) iv (.sl j 0 kv.length kv.length true) :=
    (KpR.hx hx02).trans ⟨hp2.mono fun i hi hh e=>by subst e;exact hh.2.2 _ _ _ _ rfl,fun _ _ h=>h,fun _ _ h=>h⟩
   refine ⟨iv,.sl j 0 kv.length kv.length true,h.keep kp ((hp2.get h2.lt hbj).trans hb) ?_ ?_ hf hok h.nd.up,.inr hne,kp⟩
   ·rw [hup,hset,hids]
    exact OwnS.hq h2.ids hp2 fun j2 o n c op e=>fun e2=>by subst e2;exact hnei _ _ _ _ e
   ·rw [hup]
    refine .inr ⟨j,true,by rw [hset],hNj,hj,.inl ⟨by rw [← hup];exact hne,rfl,zia _ _⟩⟩
  ·simp at hi
 |none =>
  have hd:decide ((-1:Int)<0)=true:=dC
  have hup:=zmb1 x a1;have hx3:HX H2 (H2.new (.cells (.lst [.int .i64 k]) 3 1 false false)):=HX.new _ _;have hr3:Row (H2.new (.cells (.lst [.int .i64 k]) 3 1 false false)) H2.next false false 3 1 [.int .i64 k]:=⟨.lst [.int .i64 k],zaa _,rfl⟩;have hn3:(H2.new (.cells (.lst [.int .i64 k]) 3 1 false false)).next=H2.next+1:=rfl;have F:=J5 @hd @hb @wd_7 @wd_8 @one_q;refine uT ?_;generalize H2.new (.cells (.lst [.int .i64 k]) 3 1 false false)=H3 at *
  haveI:=hx3.hn;have hlo3:H3.lo=H.lo:=hx3.lo.trans hlo2;have h3:=h2.hx hx3;obtain ⟨iv2,H4,a4,ho4,hp4,hn4,hne4⟩:=OwnS.app (b:=8) h3.ids (hr3.slZ (n:=1) (c:=1) (op':=false) oM rfl) rfl oM oM oM oM
  haveI:=hp4.hn;have hlo4:H4.lo=H.lo:=hp4.lo.trans hlo3;have hn4':=hp4.next;have hivb:blkNe iv b:=OwnS.ne h2.ids hb dC
  have hivn:blkNe iv H.next:=OwnS.ne h2.ids g1 dC
  have hb4:=(hp4.get (i:=b) oM hivb).trans h3.box
  have g4:=(hp4.get (i:=H.next) oM hivn).trans ((hx3.get (i:=H.next) oM).trans g1)
  have hiv2:=(OwnS.one ho4);have hst:=st1_w (L:=lookM) (t:=35) (i:=b) (o:=7) (H:=H4) kR hiv2.1 hiv2.2 oM
  have hs7:∀iv2,(wdL s.t.nx v lv iv qv).set 7 iv2=wdL s.t.nx v lv iv2 qv:=fun _=>rfl
  have hl9:7<(wdL s.t.nx v lv iv qv).length:=by show 7<9;decide
  have e1:=hEq_f (oM:H.next≠b)
  simp (maxSteps:=1000000) (disch:=first|assumption|omega|rfl|(simp only [nx];omega)|(simp only [lens]<;>omega)) only [rq,rq2,zoi,lsE_s,qa2,qr1,Nat.reduceEqDiff,Nat.reduceAdd,reduceIte,reduceCtorEq,ne_eq,qf1,qc1,qs2,qm2,a4,hst,hb4,hs7,hl9,wd_8,g4,hba,e1,zrk,zsk,bs_one hx]
  have hxn:HX (H4.put b (wdx s.t.nx v lv iv2 qv)) ((H4.put b (wdx s.t.nx v lv iv2 qv)).new (.cells (bkC x) 91 16384 false false)):=HX.new _ _;have hpb:HP (·≠ b) H4 (H4.put b (wdx s.t.nx v lv iv2 qv)):=HP.put _ _ _;have hp5:HP (·≠ b) H4 ((H4.put b (wdx s.t.nx v lv iv2 qv)).new (.cells (bkC x) 91 16384 false false)):=hpb.trans (hxn.hp fun _=>True) fun i _ hi=>⟨hi,trivial⟩
  haveI:=hpb.hn;have g5:((H4.put b (wdx s.t.nx v lv iv2 qv)).new (.cells (bkC x) 91 16384 false false)).get H4.next=some (.cells (bkC x) 91 16384 false false):=zaa _;have hb5:((H4.put b (wdx s.t.nx v lv iv2 qv)).new (.cells (bkC x) 91 16384 false false)).get b=some (wdx s.t.nx v lv iv2 qv):=(hxn.get (oM:b<H4.next)).trans (zia _ _)
  have hn5:((H4.put b (wdx s.t.nx v lv iv2 qv)).new (.cells (bkC x) 91 16384 false false)).next=H4.next+1:=rfl;generalize (H4.put b (wdx s.t.nx v lv iv2 qv)).new (.cells (bkC x) 91 16384 false false)=H5 at *
  haveI:=hp5.hn;have hlo5:H5.lo=H.lo:=hp5.lo.trans hlo4;have hqi:∀j o n c op,qv= .sl j o n c op->blkNe iv j:=fun j o n c op e=>by
   obtain ⟨_,_,_,_,g⟩:=h3.bs.blk e;exact OwnS.ne h3.ids g dC
  have hqb:∀j o n c op,qv= .sl j o n c op->j≠b:=fun j o n c op e e2=>by
   subst e2;obtain ⟨_,_,_,_,g⟩:=h3.bs.blk e;rw [h3.box] at g;cases g
  have hbs5:BsS H5 qv kv N:=(h3.bs.hq hp4 hqi).hq hp5 hqb;obtain ⟨qv2,H6,a6,hq6,hp6,hn6,hne6⟩:=bs_app1 hbs5 hq h.ok hx g5 (op2:=false) k oM oM oM
  haveI:=hp6.hn;have hlo6:H6.lo=H.lo:=hp6.lo.trans hlo5;have hqvb:blkNe qv b:=fun o n c op e=>hqb _ _ _ _ _ e rfl
  have hb6:=(hp6.get (i:=b) oM hqvb).trans hb5
  have hqv2:qv2.oneCell=true/\qv2.toC= .lst [qv2]:=by
   rcases hq6 with ⟨rfl,_⟩|⟨i,op2,rfl,_⟩<;>exact ⟨rfl,rfl⟩
  have hst:=st1_w (L:=lookM) (t:=54) (i:=b) (o:=8) (H:=H6) kR hqv2.1 hqv2.2 oM
  have hs8:∀qv2,(wdL s.t.nx v lv iv2 qv).set 8 qv2=wdL s.t.nx v lv iv2 qv2:=fun _=>rfl
  have hl9:8<(wdL s.t.nx v lv iv2 qv).length:=by show 8<9;decide
  have F:=J5 @a6 @hst @hb6 @hs8 @hl9;refine uT ?_;have hpc:HP (·≠ b) H6 (H6.put b (wdx s.t.nx v lv iv2 qv2)):=HP.put _ _ _;have kp:KpR H (H6.put b (wdx s.t.nx v lv iv2 qv2)) b iv qv iv2 qv2:=by
   refine ⟨?_,fun j hj hh=>hne4 j (by have:=hx02.next;have:=hx3.next;omega) hh,fun j hj _=>hne6 j (by have:=hx02.next;have:=hx3.next;omega)⟩
   have p1:=(hx02.trans hx3).hp fun _=>True
   have p2:=p1.trans hp4 (r:=fun i=>blkNe iv i) fun i _ hi=>⟨trivial,hi⟩
   have p3:=p2.trans hp5 (r:=fun i=>i≠b/\blkNe iv i) fun i _ hi=>⟨hi.2,hi.1⟩
   have p4:=p3.trans hp6 (r:=fun i=>i≠b/\blkNe iv i/\blkNe qv i) fun i _ hi=>⟨⟨hi.1,hi.2.1⟩,hi.2.2⟩
   exact p4.trans hpc fun i _ hi=>⟨hi,hi.1⟩
  refine ⟨iv2,qv2,h.keep kp (zia _ _) ?_ ?_ hf hok h.nd.up,.inr hne,kp⟩
  ·rw [hup]
   have he:idL (kv ++ [(k,x)])=idL kv ++ [AV.int .i64 k]:=by unfold idL;rw [qe3];rfl
   rw [he,qr];have h4b:∀j o n c op,iv2= .sl j o n c op->j≠b:=fun j o n c op e e2=>by
    subst e2;have:=OwnS.ne ho4 hb4 dC
    exact this _ _ _ _ e
   have h46:∀j o n c op,iv2= .sl j o n c op->blkNe qv j:=fun j o n c op e=>by
    have hh5:=OwnS.hq ho4 hp5 h4b;rcases hh5.2 with ⟨e2,_⟩|⟨i,op2,e2,hr,_⟩
    ·rw [e2] at e;cases e
    ·rw [e2] at e;cases e
     obtain ⟨cc,g,_⟩:=hr;exact hbs5.ne g dC
   exact OwnS.hq (OwnS.hq (OwnS.hq ho4 hp5 h4b) hp6 h46) hpc h4b
  ·rw [hup]
   refine hq6.hq hpc fun j o n c op e e2=> ?_
   subst e2;obtain ⟨_,_,_,_,g⟩:=hq6.blk e;rw [hb6] at g;cases g
theorem WdR.db {H:AH}{b:Nat}{s:Ms}{v lv iv qv:AV}{l:List (AV×Rc)}{kv:Kv}{N:Nat}(h:WdR H b s v lv iv qv l kv N) (hd:Bd s.t):DbIn H s.t v lv l:=⟨h.tb,hd.len,hd.nm,hd.nx⟩
theorem zfo {H:AH}[hn:HN H]{b:Nat}{s:Ms}{v lv iv qv:AV}{l:List (AV×Rc)}{kv:Kv}{N:Nat}{nm:ByteArray}(h:WdR H b s v lv iv qv l kv N) (hd:Bd s.t) :
  FnE lookM 36 [.ptr b 0,.str nm] H fun r H'=>(∃a,a.oneCell=true/\r= .tup [.agg (rcL (a,recO s.t nm)),.bool (hasB nm s.t.rs)])/\HX H H':=by
 refine fI Tryz.f36 ?_;have hlo:=hn.lo;have hb:=h.box;have hlt:=h.lt;have e1:=hEq_f (oM:b≠H.next)
 have F:=J3 @hb @wd_t @e1;refine uT ?_;refine cR_at (fun H1=>HX H H1/\H1.next=H.next+1/\ ∃l,l.length=44/\H1.get H.next=some (.cells (.lst l) 84 44 false false)) ?_ ?_
 ·exact ⟨hxt,rfl,_,rfl,zaa _⟩
 rintro H1 ⟨hx1,hn1,zl,hzl,g1⟩;haveI:=hx1.hn;refine cR_f (dfnd ((h.hx hx1).db hd) nm) ?_;rintro r2 H2 ⟨rfl,hx2⟩;have hx02:=hx1.trans hx2;have hn2:=hx2.next;have g1:=(hx2.get (i:=H.next) oM).trans g1
 have hb2:=(h.hx hx02).box;haveI:=hx02.hn;have hlo2:H2.lo=H.lo:=hx02.lo;unfold recO;cases a2:hasB nm s.t.rs with
 |false =>
  have hw:=fun i op H=>wrN_l (l:=zl) (lv:=rcL (.nilSl,Rc0)) (e:=84) (z:=44) (i:=i) (n:=44) (op:=op) (H:=H) hzl rfl rfl
  have F:=J6 @rcz_bu @zpa @g1 @hw @zud @ld44;refine uX ?_;exact ⟨⟨.nilSl,rfl,rfl⟩,HX.put hx02 oM _⟩
 |true =>
  obtain ⟨q1,q2⟩:=zza a2;have h2:=h.hx hx02;obtain ⟨p,hp,hpe,hho⟩:=(h2.db hd).at q1;have hix:=ix44 (z:=44) (q:=fndI nm s.t.rs) h2.tb.rd.sl.is (by rw [h2.tb.len];exact q1)
  have hld:=h2.tb.rd.sl.agg hp;obtain ⟨a,x⟩:=p;simp only at hpe hho;subst hpe;have hone:a.oneCell=true:=zpc hho.is;have hw:=fun i op H=>wrN_l (l:=zl) (lv:=rcL (a,get s.t.rs (fndI nm s.t.rs))) (e:=84) (z:=44) (i:=i) (n:=44) (op:=op) (H:=H) hzl rfl (zbc _ hone)
  have F:=J9 @hb2 @wd_1 @hix @hld @zpa @g1 @hw @zud @ld44;refine uT ?_;exact ⟨⟨a,hone,rfl⟩,HX.put hx02 oM _⟩
set_option maxHeartbeats 16000000 in
theorem zgp1 {H:AH}[hn:HN H]{b:Nat}{s:Ms}{v lv iv qv:AV}{l:List (AV×Rc)}{kv:Kv}{N:Nat}{o:Od}{ov bv:AV}(h:WdR H b s v lv iv qv l kv N) (hd:Bd s.t) (hs:o.nm.size<=100000) (hto:o.to.size<=100000) :
  FnE lookM 61 [.ptr b 0,odA o ov bv] H fun r H'=>DbR H' r (chgT s.t o)/\HX H H':=by
 refine fI Tryz.f61 ?_;have hlo:=hn.lo;have hb:=h.box;have hlt:=h.lt;have e0:=hEq_f (oM:b≠H.next)
 have e1:=hEq_f (oM:b≠H.next+1)
 have e01:=hEq_f (oM:H.next≠H.next+1)
 have o1:=o0;have F:=J4 @zke @zcb @od_0 @e01;refine uT ?_;cases a1:decide (o.op=1) with
 |true =>
  have e:=qg a1;have ec:chgT s.t o=makeT s.t o.nm o.n:=by unfold chgT;simp only [e];rfl
  rw [ec];have F:=J10 @od_0 @od_1 @od_2 @od_3 @od_4 @hb @wd_t @e0 @e1 @e01;refine uT ?_;refine cR_at (fun H1=>HX H H1/\H1.next=H.next+2/\H1.get (H.next+1)=some (tbx 0 .nilSl .nilSl)) ?_ ?_
  ·exact ⟨hxt,rfl,zaa _⟩
  rintro H1 ⟨hx1,hn1,g1⟩;haveI:=hx1.hn;refine cR_f (zmo1 ((h.hx hx1).db hd) hs) ?_;rintro r2 H2 ⟨ht2,hx2⟩;have hx02:=hx1.trans hx2;have g1:=(hx2.get (i:=H.next+1) oM).trans g1
  haveI:=hx02.hn;have hlo2:H2.lo=H.lo:=hx02.lo;rcases ht2 with ⟨e,he,h1,rfl⟩|⟨t2,v2,l2,ll,h1,rfl,h3⟩
  ·have F:=J5 @g1 @zea @zba @zha @ld7;refine uT ?_
   exact ⟨.inl ⟨e,he,h1,rfl⟩,HX.put hx02 oM _⟩
  ·have o2:=zbb (nn:=t2.nx) (v:=v2) (lv:=l2) (RdD.one h3.rd) (LvD.one h3.lv).1
   have F:=J5 @g1 @zea @zba @zha @ld7;refine uT ?_;exact ⟨.inr ⟨t2,v2,l2,ll,h1,rfl,h3.put (HP.put _ _ _) g1 dC dC dC⟩,HX.put hx02 oM _⟩
 |false =>
 have n1:¬o.op=1:=qh a1;refine uT0 ?_;cases a2:decide (o.op=2) with
 |true =>
  have e:=qg a2;have ec:chgT s.t o=snapT s.t o.nm:=by unfold chgT;simp only [e];rfl
  rw [ec];have F:=J10 @od_0 @od_1 @od_2 @od_3 @od_4 @hb @wd_t @e0 @e1 @e01;refine uT ?_;refine cR_at (fun H1=>HX H H1/\H1.next=H.next+2/\H1.get (H.next+1)=some (tbx 0 .nilSl .nilSl)) ?_ ?_
  ·exact ⟨hxt,rfl,zaa _⟩
  rintro H1 ⟨hx1,hn1,g1⟩;haveI:=hx1.hn;refine cR_f (zsf1 ((h.hx hx1).db hd) hs) ?_;rintro r2 H2 ⟨ht2,hx2⟩;have hx02:=hx1.trans hx2;have g1:=(hx2.get (i:=H.next+1) oM).trans g1
  haveI:=hx02.hn;have hlo2:H2.lo=H.lo:=hx02.lo;rcases ht2 with ⟨e,he,h1,rfl⟩|⟨t2,v2,l2,ll,h1,rfl,h3⟩
  ·have F:=J5 @g1 @zea @zba @zha @ld7;refine uT ?_
   exact ⟨.inl ⟨e,he,h1,rfl⟩,HX.put hx02 oM _⟩
  ·have o2:=zbb (nn:=t2.nx) (v:=v2) (lv:=l2) (RdD.one h3.rd) (LvD.one h3.lv).1
   have F:=J5 @g1 @zea @zba @zha @ld7;refine uT ?_;exact ⟨.inr ⟨t2,v2,l2,ll,h1,rfl,h3.put (HP.put _ _ _) g1 dC dC dC⟩,HX.put hx02 oM _⟩
 |false =>
 have n2:¬o.op=2:=qh a2;refine uT0 ?_;cases a3:decide (o.op=3) with
 |true =>
  have e:=qg a3;have ec:chgT s.t o=zsn s.t o.nm o.to:=by unfold chgT;simp only [e];rfl
  rw [ec];have F:=J10 @od_0 @od_1 @od_2 @od_3 @od_4 @hb @wd_t @e0 @e1 @e01;refine uT ?_;refine cR_at (fun H1=>HX H H1/\H1.next=H.next+2/\H1.get (H.next+1)=some (tbx 0 .nilSl .nilSl)) ?_ ?_
  ·exact ⟨hxt,rfl,zaa _⟩
  rintro H1 ⟨hx1,hn1,g1⟩;haveI:=hx1.hn;refine cR_f (zza1 ((h.hx hx1).db hd) hs hto) ?_;rintro r2 H2 ⟨ht2,hx2⟩;have hx02:=hx1.trans hx2;have g1:=(hx2.get (i:=H.next+1) oM).trans g1
  haveI:=hx02.hn;have hlo2:H2.lo=H.lo:=hx02.lo;rcases ht2 with ⟨e,he,h1,rfl⟩|⟨t2,v2,l2,ll,h1,rfl,h3⟩
  ·have F:=J5 @g1 @zea @zba @zha @ld7;refine uT ?_
   exact ⟨.inl ⟨e,he,h1,rfl⟩,HX.put hx02 oM _⟩
  ·have o2:=zbb (nn:=t2.nx) (v:=v2) (lv:=l2) (RdD.one h3.rd) (LvD.one h3.lv).1
   have F:=J5 @g1 @zea @zba @zha @ld7;refine uT ?_;exact ⟨.inr ⟨t2,v2,l2,ll,h1,rfl,h3.put (HP.put _ _ _) g1 dC dC dC⟩,HX.put hx02 oM _⟩
 |false =>
 have n3:¬o.op=3:=qh a3;refine uT0 ?_;cases a4:decide (o.op=4) with
 |true =>
  have e:=qg a4;have ec:chgT s.t o=rollT s.t o.nm:=by unfold chgT;simp only [e];rfl
  rw [ec];have F:=J10 @od_0 @od_1 @od_2 @od_3 @od_4 @hb @wd_t @e0 @e1 @e01;refine uT ?_;refine cR_at (fun H1=>HX H H1/\H1.next=H.next+2/\H1.get (H.next+1)=some (tbx 0 .nilSl .nilSl)) ?_ ?_
  ·exact ⟨hxt,rfl,zaa _⟩
  rintro H1 ⟨hx1,hn1,g1⟩;haveI:=hx1.hn;refine cR_f (zvf1 ((h.hx hx1).db hd) hs) ?_;rintro r2 H2 ⟨ht2,hx2⟩;have hx02:=hx1.trans hx2;have g1:=(hx2.get (i:=H.next+1) oM).trans g1
  haveI:=hx02.hn;have hlo2:H2.lo=H.lo:=hx02.lo;rcases ht2 with ⟨e,he,h1,rfl⟩|⟨t2,v2,l2,ll,h1,rfl,h3⟩
  ·have F:=J5 @g1 @zea @zba @zha @ld7;refine uT ?_
   exact ⟨.inl ⟨e,he,h1,rfl⟩,HX.put hx02 oM _⟩
  ·have o2:=zbb (nn:=t2.nx) (v:=v2) (lv:=l2) (RdD.one h3.rd) (LvD.one h3.lv).1
   have F:=J5 @g1 @zea @zba @zha @ld7;refine uT ?_;exact ⟨.inr ⟨t2,v2,l2,ll,h1,rfl,h3.put (HP.put _ _ _) g1 dC dC dC⟩,HX.put hx02 oM _⟩
 |false =>
 have n4:¬o.op=4:=qh a4;refine uT0 ?_;cases a5:decide (o.op=5) with
 |true =>
  have e:=qg a5;have ec:chgT s.t o=dropT s.t o.nm:=by unfold chgT;simp only [e];rfl
  rw [ec];have F:=J10 @od_0 @od_1 @od_2 @od_3 @od_4 @hb @wd_t @e0 @e1 @e01;refine uT ?_;refine cR_at (fun H1=>HX H H1/\H1.next=H.next+2/\H1.get (H.next+1)=some (tbx 0 .nilSl .nilSl)) ?_ ?_
  ·exact ⟨hxt,rfl,zaa _⟩
  rintro H1 ⟨hx1,hn1,g1⟩;haveI:=hx1.hn;refine cR_f (zwf1 ((h.hx hx1).db hd) hs) ?_;rintro r2 H2 ⟨ht2,hx2⟩;have hx02:=hx1.trans hx2;have g1:=(hx2.get (i:=H.next+1) oM).trans g1
  haveI:=hx02.hn;have hlo2:H2.lo=H.lo:=hx02.lo;rcases ht2 with ⟨e,he,h1,rfl⟩|⟨t2,v2,l2,ll,h1,rfl,h3⟩
  ·have F:=J5 @g1 @zea @zba @zha @ld7;refine uT ?_
   exact ⟨.inl ⟨e,he,h1,rfl⟩,HX.put hx02 oM _⟩
  ·have o2:=zbb (nn:=t2.nx) (v:=v2) (lv:=l2) (RdD.one h3.rd) (LvD.one h3.lv).1
   have F:=J5 @g1 @zea @zba @zha @ld7;refine uT ?_;exact ⟨.inr ⟨t2,v2,l2,ll,h1,rfl,h3.put (HP.put _ _ _) g1 dC dC dC⟩,HX.put hx02 oM _⟩
 |false =>
 have n5:¬o.op=5:=qh a5;refine uT0 ?_;cases a6:decide (o.op=6) with
 |true =>
  have e:=qg a6;have ec:chgT s.t o=renT s.t o.nm o.to:=by unfold chgT;simp only [e];rfl
  rw [ec];have F:=J10 @od_0 @od_1 @od_2 @od_3 @od_4 @hb @wd_t @e0 @e1 @e01;refine uT ?_;refine cR_at (fun H1=>HX H H1/\H1.next=H.next+2/\H1.get (H.next+1)=some (tbx 0 .nilSl .nilSl)) ?_ ?_
  ·exact ⟨hxt,rfl,zaa _⟩
  rintro H1 ⟨hx1,hn1,g1⟩;haveI:=hx1.hn;refine cR_f (zqo1 ((h.hx hx1).db hd) hs hto) ?_;rintro r2 H2 ⟨ht2,hx2⟩;have hx02:=hx1.trans hx2;have g1:=(hx2.get (i:=H.next+1) oM).trans g1
  haveI:=hx02.hn;have hlo2:H2.lo=H.lo:=hx02.lo;rcases ht2 with ⟨e,he,h1,rfl⟩|⟨t2,v2,l2,ll,h1,rfl,h3⟩
  ·have F:=J5 @g1 @zea @zba @zha @ld7;refine uT ?_
   exact ⟨.inl ⟨e,he,h1,rfl⟩,HX.put hx02 oM _⟩
  ·have o2:=zbb (nn:=t2.nx) (v:=v2) (lv:=l2) (RdD.one h3.rd) (LvD.one h3.lv).1
   have F:=J5 @g1 @zea @zba @zha @ld7;refine uT ?_;exact ⟨.inr ⟨t2,v2,l2,ll,h1,rfl,h3.put (HP.put _ _ _) g1 dC dC dC⟩,HX.put hx02 oM _⟩
 |false =>
 have n6:¬o.op=6:=qh a6;refine uT0 ?_;cases a7:decide (o.op=7) with
 |true =>
  have e:=qg a7;have ec:chgT s.t o=sizeT s.t o.nm o.n:=by unfold chgT;simp only [e];rfl
  rw [ec];have F:=J10 @od_0 @od_1 @od_2 @od_3 @od_4 @hb @wd_t @e0 @e1 @e01;refine uT ?_;refine cR_at (fun H1=>HX H H1/\H1.next=H.next+2/\H1.get (H.next+1)=some (tbx 0 .nilSl .nilSl)) ?_ ?_
  ·exact ⟨hxt,rfl,zaa _⟩
  rintro H1 ⟨hx1,hn1,g1⟩;haveI:=hx1.hn;refine cR_f (zro1 ((h.hx hx1).db hd) hs) ?_;rintro r2 H2 ⟨ht2,hx2⟩;have hx02:=hx1.trans hx2;have g1:=(hx2.get (i:=H.next+1) oM).trans g1
  haveI:=hx02.hn;have hlo2:H2.lo=H.lo:=hx02.lo;rcases ht2 with ⟨e,he,h1,rfl⟩|⟨t2,v2,l2,ll,h1,rfl,h3⟩
  ·have F:=J5 @g1 @zea @zba @zha @ld7;refine uT ?_
   exact ⟨.inl ⟨e,he,h1,rfl⟩,HX.put hx02 oM _⟩
  ·have o2:=zbb (nn:=t2.nx) (v:=v2) (lv:=l2) (RdD.one h3.rd) (LvD.one h3.lv).1
   have F:=J5 @g1 @zea @zba @zha @ld7;refine uT ?_;exact ⟨.inr ⟨t2,v2,l2,ll,h1,rfl,h3.put (HP.put _ _ _) g1 dC dC dC⟩,HX.put hx02 oM _⟩
 |false =>
 have n7:¬o.op=7:=qh a7;refine uT0 ?_;have ec:chgT s.t o=limT s.t o.nm o.n o.m:=by unfold chgT;rw [qd n1,qd n2,qd n3,qd n4,qd n5,qd n6,qd n7]
 rw [ec];have F:=J10 @od_0 @od_1 @od_2 @od_3 @od_4 @hb @wd_t @e0 @e1 @e01;refine uT ?_;refine cR_at (fun H1=>HX H H1/\H1.next=H.next+2/\H1.get (H.next+1)=some (tbx 0 .nilSl .nilSl)) ?_ ?_
 ·exact ⟨hxt,rfl,zaa _⟩
 rintro H1 ⟨hx1,hn1,g1⟩;haveI:=hx1.hn;refine cR_f (dlim_ok ((h.hx hx1).db hd) hs) ?_;rintro r2 H2 ⟨ht2,hx2⟩;have hx02:=hx1.trans hx2;have g1:=(hx2.get (i:=H.next+1) oM).trans g1
 haveI:=hx02.hn;have hlo2:H2.lo=H.lo:=hx02.lo;rcases ht2 with ⟨e,he,h1,rfl⟩|⟨t2,v2,l2,ll,h1,rfl,h3⟩
 ·have F:=J5 @g1 @zea @zba @zha @ld7;refine uT ?_
  exact ⟨.inl ⟨e,he,h1,rfl⟩,HX.put hx02 oM _⟩
 ·have o2:=zbb (nn:=t2.nx) (v:=v2) (lv:=l2) (RdD.one h3.rd) (LvD.one h3.lv).1
  have F:=J5 @g1 @zea @zba @zha @ld7;refine uT ?_;exact ⟨.inr ⟨t2,v2,l2,ll,h1,rfl,h3.put (HP.put _ _ _) g1 dC dC dC⟩,HX.put hx02 oM _⟩
set_option maxHeartbeats 16000000 in
theorem zng1 {H:AH}[hn:HN H]{b:Nat}{s:Ms}{v lv iv qv:AV}{l:List (AV×Rc)}{kv:Kv}{N:Nat}{but:ByteArray}(h:WdR H b s v lv iv qv l kv N) (hd:Bd s.t) (hrs:∀r,r∈s.t.rs-> -1000000<=r.rs/\r.rs<=1000000) (hkl:kv.length<=100000) :
  FnE lookM 33 [.ptr b 0,.str but] H fun r H'=>r= .int .i64 (zqk s but)/\HX H H':=by
 refine fJ Tryz.f33 o33 ?_;have hlo:=hn.lo;have hlt:=h.lt;have hl:∀H',fstO (zda .len lookM [49] [v] H')=some (.int .i64 s.t.rs.length):=fun H'=>by have:=ztc (H':=H') uRs h.tb.rd.sl.is;rwa [h.tb.len] at this
 have hlen:=hd.len;refine uT0 ?_;refine rc_j o33 (fun n T H'=> ∃q c,n+q=s.t.rs.length/\HX H H'/\c=(s.t.rs.take q).foldl (shS s but) 0/\0<=c/\c<=1000000*(q:Int) /\
  gT T 0= .ptr b 0/\gT T 1= .str but/\gT T 5= .int .i64 c/\gT T 6= .int .i64 q) s.t.rs.length ?_ ?_
 ·exact ⟨0,0,rfl,HX.refl _,by simp,oM,by simp,vT0,vT0,vT0,wT0⟩
 rintro n T H1 ⟨q,c,hnq,hx1,hc,hc0,hcq,t0,t1,t5,t6⟩;haveI:=hx1.hn;have hlo1:H1.lo=H.lo:=hx1.lo;have hn1:=hx1.next;have h1:=h.hx hx1;have hb1:=h1.box;cases n with
 |zero =>
  have hq:q=s.t.rs.length:=oM
  rw [hq,qp5,← zpu] at hc;have d1:decide ((q:Int)<(s.t.rs.length:Int))=false:=qq oM
  have F:=J8 @t0 @t1 @t5 @t6 @hb1 @wd_1 @hl @d1;refine uT ?_;exact ⟨by rw [hc],hx1⟩
 |succ n =>
  have hq:q<s.t.rs.length:=oM
  have hlo1':H1.lo<=H1.next:=HN.lo;obtain ⟨p,hp,hpe,hho⟩:=(h1.db hd).at hq;have hix:=ix44 (z:=44) (q:=q) h1.tb.rd.sl.is (by rw [h1.tb.len];exact hq)
  have hld:=h1.tb.rd.sl.agg hp;obtain ⟨a,x⟩:=p;simp only at hpe hho;subst hpe;have d1:decide ((q:Int)<(s.t.rs.length:Int))=true:=qk oM
  have hone:=zbc (a,get s.t.rs q) (zpc hho.is);have hxr:=hrs _ (zuk hq);have hst:=shS_le s but hxr.2 c;have hu64:usedB (s.b (get s.t.rs q).id)<=64:=zjd _ 64 0;have eb':=hEq_f (oM:b≠H1.next)
  have hc':shS s but c (get s.t.rs q)=(s.t.rs.take (q+1)).foldl (shS s but) 0:=by
   rw [qc4,get_lt hq,qj3,List.foldl_append,← hc];rfl
  unfold shS at hc' hst;cases a1:decide ((get s.t.rs q).kd=1) with
  |false =>
   have n1:=qh a1;rw [qd (fun x=>n1 x.1)] at hc'
   have F:=J13 @t0 @t1 @t5 @t6 @hb1 @wd_1 @hl @d1 @hix @hld @zpa @rc_n2 @a1;refine uT ?_;exact ⟨n,oM,q+1,c,oM,by have K:=hx1;exact hxk,hc',hc0,by push_cast;omega,rfl,by push_cast;rfl⟩
  |true =>
  have y1:=qg a1;cases a2:decide ((get s.t.rs q).nm=but) with
  |true =>
   have y2:=qg a2;rw [qd (fun x=>x.2 y2)] at hc'
   have F:=J16 @t0 @t1 @t5 @t6 @hb1 @wd_1 @hl @d1 @hix @hld @zpa @rc_n2 @rc_1 @a1 @ztd @a2;refine uT ?_;exact ⟨n,oM,q+1,c,oM,by have K:=hx1;exact hxk,hc',hc0,by push_cast;omega,rfl,by push_cast;rfl⟩
  |false =>
   have y2:=qh a2;rw [qi ⟨y1,y2⟩] at hc' hst;have F:=J16 @t0 @t1 @t5 @t6 @hb1 @wd_1 @hl @d1 @hix @hld @zpa @rc_n0 @rc_n2 @rc_n43 @rc_1 (J3 @a1 @ztd @a2);refine uT ?_;refine rk_at (fun H2=>HX H1 H2/\H1.next+1<=H2.next/\H2.get H1.next=some (.cells (.lst (rcL (a,get s.t.rs q))) 84 44 false false)) ?_ ?_
   ·exact ⟨hxt,qn _,zia _ _⟩
   rintro H2 ⟨hx2,hn2,g2⟩;have hx02:=hx1.trans hx2;haveI:=hx02.hn;refine rk_cw (js:= [H1.next]) (R:=fun r H'=>r=bkA (s.b (get s.t.rs q).id)/\HX H2 H') ?_ ?_ ?_
   ·rw [zwc]
    refine zka (o:=43) ?_ zeb<;>(exact vT0)
   ·have F:=@t0;refine uT ?_
    exact of_ok (h.hx hx02) _ hkl
   rintro r3 H3 ⟨rfl,hx3⟩;refine ⟨zhb hx3 _ fun i hi=> ?_,?_⟩
   ·simp only [qx1] at hi
    subst hi;exact ⟨oM,_,_,_,_,_,g2⟩
   have hx03:=hx02.trans hx3;haveI:=hx03.hn;have hn3:=hx3.next;have g3:=(hx3.get (i:=H1.next) oM).trans g2
   refine rk_cw (js:= [H1.next]) (R:=fun r H'=>r= .int .i64 (usedB (s.b (get s.t.rs q).id):Nat)/\HX H3 H') ?_ ?_ ?_
   ·rw [zwc]
    refine zka (o:=43) ?_ zeb<;>(have F:=@zvd;exact vT)
   ·have hok:BkOk (s.b (get s.t.rs q).id):=by
     rw [h.f];cases e:ixB (get s.t.rs q).id kv with
     |none=>rw [zeo e];exact zeroB_ok
     |some i=>exact h.ok _ (qy.2 ⟨i,zvi e⟩)
    have F:=@zvd;refine uT ?_;exact zzk hok
   rintro r4 H4 ⟨rfl,hx4⟩;refine ⟨zhb hx4 _ fun i hi=> ?_,?_⟩
   ·simp only [qx1] at hi
    subst hi;exact ⟨oM,_,_,_,_,_,g3⟩
   have em:(if (get s.t.rs q).rs - (usedB (s.b (get s.t.rs q).id):Int)<0 then (0:Int) else (get s.t.rs q).rs - (usedB (s.b (get s.t.rs q).id):Int))=max ((get s.t.rs q).rs - (usedB (s.b (get s.t.rs q).id):Int)) 0:=by
    split<;>omega
   have F:=J6 @zvd @t0 @t1 @t5 @t6 @em;refine uT ?_;exact ⟨n,oM,q+1,_,oM,hx03.trans hx4,hc',oM,by push_cast;omega,rfl,by push_cast;rfl⟩
theorem WdR.bk {H:AH}{b:Nat}{s:Ms}{v lv iv qv:AV}{l:List (AV×Rc)}{kv:Kv}{N:Nat}(h:WdR H b s v lv iv qv l kv N) (k:Int):BkOk (s.b k):=by
 rw [h.f];cases e:ixB k kv with
 |none=>rw [zeo e];exact zeroB_ok
 |some i=>exact h.ok _ (qy.2 ⟨i,zvi e⟩)
set_option maxHeartbeats 16000000 in
theorem zsb1 {H:AH}[hn:HN H]{b:Nat}{s:Ms}{v lv iv qv:AV}{l:List (AV×Rc)}{kv:Kv}{N:Nat}{o:Od}{ov bv a:AV}{x:Rc}(h:WdR H b s v lv iv qv l kv N) (hkl:kv.length<=100000) (hsz:1<=x.sz/\x.sz<=64) (hon:0<=o.n/\o.n<=maxN) (hom:0<=o.m/\o.m<=maxN) :
  FnE lookM 37 [.ptr b 0,odA o ov bv,.agg (rcL (a,x))] H fun r H'=>RpR H' r (readM s o x) H.next/\HX H H':=by
 refine fI Tryz.f37 ?_;have hlo:=hn.lo;have hlt:=h.lt;have e01:=hEq_f (oM:H.next≠H.next+1)
 have e02:=hEq_f (oM:H.next≠H.next+2)
 have e12:=hEq_f (oM:H.next+1≠H.next+2)
 unfold maxN at hon hom;unfold readM;cases a1:decide (x.sz<o.n) with
 |true =>
  have y1:=qg a1;rw [qi (.inl y1)];have F:=J13 @zke @zpa @zdb @e01 @e02 @e12 @od_3 @rc_n3 @a1 @rp_bu @rp_w0 @zlb @ld3;refine uT ?_;exact ⟨RpR.err,hxt⟩
 |false =>
  have y1:=qh a1;cases a2:decide (x.sz - o.n<o.m) with
  |true =>
   have y2:=qg a2;rw [qi (.inr y2)];have F:=J15 @zke @zpa @zdb @e01 @e02 @e12 @od_3 @od_4 @rc_n3 @a1 @a2 @rp_bu @rp_w0 @zlb @ld3;refine uT ?_;exact ⟨RpR.err,hxt⟩
  |false =>
   have y2:=qh a2;rw [qd (by rintro (k|k)<;>omega)]
   have F:=J12 @zke @zpa @zdb @e01 @e02 @e12 @od_3 @od_4 @rc_n3 @rc_n0 @a1 @a2;refine uT ?_;refine cR_at (fun H1=>HX H H1/\H1.next=H.next+3/\H1.get H.next=some (odx o ov bv)/\H1.get (H.next+2)=some (rpx 0 .nilSl .nilSl)) ?_ ?_
   ·refine ⟨hxt,rfl,?_,zaa _⟩
    have F:=J2 @e01 @e02;exact vT
   rintro H1 ⟨hx1,hn1,g0,g2⟩;haveI:=hx1.hn;obtain ⟨i,hi⟩:∃i:Nat,o.n=(i:Int):=⟨o.n.toNat,oM⟩
   obtain ⟨m,hm⟩:∃m:Nat,o.m=(m:Int):=⟨o.m.toNat,oM⟩
   refine cR_f (of_ok (h.hx hx1) x.id hkl) ?_;rintro r2 H2 ⟨rfl,hx2⟩;have hx02:=hx1.trans hx2;haveI:=hx02.hn;have hlo2:H2.lo=H.lo:=hx02.lo;have hn2:=hx2.next;have g0:=(hx2.get (i:=H.next) oM).trans g0
   have g2:=(hx2.get (i:=H.next+2) oM).trans g2
   have hB:=h.bk x.id;have hw:=fun i e op H=>wbk0 i e op H hB
   rw [hi,hm,qc2,qc2];have F:=J3 @z91 @zdd @hw;refine uT ?_;generalize s.b x.id=B at *
   refine rc_l (fun n T H'=> ∃j out,n+j=m/\HX H H'/\H2.next+1<=H'.next/\H'.get H.next=some (odx o ov bv)/\H'.get (H.next+2)=some (rpx 0 .nilSl .nilSl)/\H'.get H2.next=some (.cells (bkC B) 91 16384 false false) /\
    OwnS H' out (256*j) 5 1 (u8L (someB B i j)) (H2.next+1)/\gT T 4= .ptr H.next 0/\gT T 6= .ptr (H.next+2) 0/\gT T 7= .ptr H2.next 0/\gT T 8=out/\gT T 9= .int .i64 j) m ?_ ?_
   ·have e0:=hEq_f (oM:H.next≠H2.next)
    have e2:=hEq_f (oM:H.next+2≠H2.next)
    refine ⟨0,.nilSl,rfl,by have K:=hx02;exact hxk,qn _,by have F:=J2 @g0 @e0;exact vT,by have F:=J2 @g2 @e2;exact vT,zia _ _,?_,vT0,vT0,vT0,vT0,by refine uT0 ?_;rfl⟩
    have:someB B i 0= []:=by unfold someB;rw [Nat.mul_zero,qo5]
    rw [this];exact OwnS.nil _ _ _ _
   rintro n T H3 ⟨j,out,hmj,hx3,hn3,g0,g2,g3,ho,t4,t6,t7,t8,t9⟩;haveI:=hx3.hn;have hlo3:H3.lo=H.lo:=hx3.lo;have od4:nth (odL o ov bv) 4=some (.int .i64 (m:Int)):=by rw [od_4,hm]
   have od3:nth (odL o ov bv) 3=some (.int .i64 (i:Int)):=by rw [od_3,hi]
   cases n with
   |zero =>
    have hj:j=m:=oM
    rw [hj] at ho;have d1:decide ((j:Int)<(m:Int))=false:=qq oM
    have hbu:=rp_buB out (by rcases ho.2 with ⟨h0,_⟩|⟨j,op,h0,_⟩;exact .inl h0;exact .inr ⟨j,_,op,h0⟩)
    have hone:=(OwnS.one ho).1;have hw2:∀e2 H3,wrN (some (.cells (.lst (rpL 0 .nilSl .nilSl)) e2 3 false false)) (H.next+2) 0 3 (.lst (rpL 0 .nilSl out)) H3=some (H3.put (H.next+2) (.cells (.lst (rpL 0 .nilSl out)) e2 3 false false)):=fun e2 H3=>rp_w 0 0 .nilSl .nilSl .nilSl out (H.next+2) e2 false H3 rfl hone
    have F:=J14 @t4 @t6 @t7 @t8 @t9 @g0 @od4 @d1 @hbu @zdb @g2 @hw2 @zlb @ld3;refine uT ?_;have hlen:(someB B i m).length=256*m:=zdo hB.len oM
    refine ⟨⟨_,_,rfl,zrp _ 1,?_,fun j hj=>⟨zfa _,by
     rcases ho.2 with ⟨h0,_⟩|⟨j2,op2,h0,_,hj2,_⟩
     ·rw [h0];exact zfa _
     ·rw [h0];exact zga oM⟩⟩,HX.put hx3 oM _⟩
    have he:(⟨0, [],someB B i m⟩:Rp).b.length=256*m:=hlen;rw [he];exact (OwnS.le (M:=H.next) ho oM).hq (HP.put H3 (H.next+2) (rpx 0 .nilSl out)) (p:=(·≠ H.next+2)) fun j o n c op hj=>by
     rcases ho.2 with ⟨h0,_⟩|⟨j2,op2,h0,_,hj2,_⟩
     ·rw [h0] at hj;cases hj
     ·rw [h0] at hj;cases hj;omega
   |succ n =>
    have d1:decide ((j:Int)<(m:Int))=true:=qk oM
    have hix:=ixA_n (n:=64) (z:=256) (i:=H2.next) (o:=0) (k:=i+j) oM
    have hcast:((i:Int)+(j:Int))=((i+j:Nat):Int):=by push_cast;rfl
    have hsl:=bk_sl hB oM g3 (k:=i+j) oM
    obtain ⟨out2,H4,a1',ho2,hp2,hn2',hne2⟩:=OwnS.app (b:=1) ho hsl (zap1 _) oM oM oM oM
    have F:=J14 @t4 @t6 @t7 @t8 @t9 @g0 @od4 @od3 @d1 @hcast @hix @zpk @sl89 @a1';refine uT ?_;have hnb:∀q,q<H2.next+1->blkNe out q:=fun q hq=>by
     rcases ho.2 with ⟨h0,_⟩|⟨j2,op2,h0,_,hj2,_⟩
     ·rw [h0];exact zfa _
     ·rw [h0];exact zga oM
    have g0:=(hp2.get (i:=H.next) oM (hnb _ oM)).trans g0
    have g2:=(hp2.get (i:=H.next+2) oM (hnb _ oM)).trans g2
    have g3:=(hp2.get (i:=H2.next) oM (hnb _ oM)).trans g3
    refine ⟨n,oM,j+1,out2,oM,HX.hp2 hx3 hp2 fun q hq=>hnb q oM,by have:=hp2.next;omega,g0,g2,g3,?_,rfl,by push_cast;rfl⟩
    rw [zuj1,show u8L (someB B i j ++ atB B (i+j))=u8L (someB B i j) ++ u8L (atB B (i+j)) from qe3,show 256*(j+1)=256*j+256 from oM]
    exact ho2
abbrev nmL (l:List Rc):List AV:=l.map fun x:Rc=>AV.str x.nm
theorem ones_q (s:ByteArray) (H:AH):bsF 1 1 (.str ⟨#[]⟩) 9 (zipF [0] [.str s]) H=some (.sl H.next 0 1 1 false,H.new (.cells (.lst [.str s]) 9 1 false false)):=bs1_q rfl rfl rfl
set_option maxHeartbeats 16000000 in
theorem ztb1 {H:AH}[hn:HN H]{b mb:Nat}{s:Ms}{v lv:AV}(h:MdR H b mb s v lv) (hd:Bd s.t) :
  FnE lookM 17 [.ptr b 0] H fun r H'=>OwnS H' r s.t.rs.length 9 1 (nmL s.t.rs) H.next/\HX H H'/\(s.t.rs.length=0->r= .nilSl):=by
 refine fI Tryz.f17 ?_;have hlo:=hn.lo;have hlen:=hd.len;refine uT0 ?_;refine cR_f (zjb1 h) ?_;rintro r1 H1 ⟨rfl,hx1⟩;haveI:=hx1.hn;have h1:=h.hx hx1;have hn1:=hx1.next;have hlt:=h1.lt;have hb:=h1.box;have hl:∀H',fstO (zda .len lookM [49] [v] H')=some (.int .i64 s.t.rs.length):=fun H'=>by have:=ztc (H':=H') uRs h.sl.is;rwa [zoc] at this
 have F:=J3 @hb @md_1 @hl;refine uT ?_;refine rc_l (fun n T H'=> ∃q out,n+q=s.t.rs.length/\HX H H'/\OwnS H' out q 9 1 (nmL (s.t.rs.take q)) H.next/\(q=0->out= .nilSl)/\gT T 3=out/\gT T 12=v/\gT T 13= .int .i64 s.t.rs.length/\gT T 14= .int .i64 q) s.t.rs.length ?_ ?_
 ·exact ⟨0,.nilSl,rfl,hx1,OwnS.nil _ _ _ _,fun _=>rfl,vT0,vT0,vT0,wT0⟩
 rintro n T H2 ⟨q,out,hnq,hx2,ho2,hz2,t3,t12,t13,t14⟩;haveI:=hx2.hn;have hlo2:H2.lo=H.lo:=hx2.lo;have hn2:=hx2.next;cases n with
 |zero =>
  have hq:q=s.t.rs.length:=oM
  rw [hq,qp5] at ho2;have d1:decide ((q:Int)<(s.t.rs.length:Int))=false:=qq oM
  have F:=J5 @t3 @t12 @t13 @t14 @d1;refine uT ?_;exact ⟨ho2,hx2,fun h0=>hz2 oM⟩
 |succ n =>
  have hq:q<s.t.rs.length:=oM
  have h2:=h.hx hx2;have hix:=ix44 (z:=44) (q:=q) h2.sl.is (by rw [zoc];exact hq)
  have hld:=h2.sl.agg (nl_at hq);have d1:decide ((q:Int)<(s.t.rs.length:Int))=true:=qk oM
  have hone:=zbc (AV.nilSl,get s.t.rs q) rfl;have F:=J10 @t3 @t12 @t13 @t14 @d1 @hix @hld @zpa @rc_1 @ones_q;refine uT ?_;refine znw (fun H3=>HX H2 H3/\H3.next=H2.next+2/\Row H3 (H2.next+1) false false 9 1 [.str (get s.t.rs q).nm]) ?_ ?_
  ·exact ⟨hxt,rfl,⟨_,zaa _,rfl⟩⟩
  rintro H3 ⟨hx3,hn3,hr3⟩;have hx03:=hx2.trans hx3;haveI:=hx03.hn;have hlo3:H3.lo=H.lo:=hx03.lo;obtain ⟨out2,H4,a4,ho4,hp4,_⟩:=OwnS.app (b:=16) (ho2.hx hx3) (hr3.slZ (n:=1) (z:=1) (c:=1) (op':=false) oM rfl) rfl oM oM oM oM
  have F:=J4 @a4 @t12 @t13 @t14;refine uT ?_;have hnb:∀i,i<H.next->blkNe out i:=fun i hi=>by
   rcases ho2.2 with ⟨h0,_⟩|⟨j2,op2,h0,_,hj2,_⟩
   ·rw [h0];exact zfa _
   ·rw [h0];exact zga oM
  refine ⟨n,oM,q+1,out2,oM,HX.hp2 hx03 hp4 hnb,?_,fun h=>absurd h oM,rfl,by push_cast;rfl⟩
  have e:nmL (s.t.rs.take (q+1))=nmL (s.t.rs.take q) ++ [AV.str (get s.t.rs q).nm]:=by
   rw [qc4,get_lt hq,qj3];exact qe3
  rw [e];exact ho4
def blkM (s:Ms) (nm:ByteArray):List Nat:=if hasB nm s.t.rs then someB (s.b (recO s.t nm).id) 0 (recO s.t nm).sz.toNat else []
theorem rec_sz {s:Ms}{nm:ByteArray}(hsz:∀i,i<s.t.rs.length->1<=(get s.t.rs i).sz/\(get s.t.rs i).sz<=64) (h:hasB nm s.t.rs=true):1<=(recO s.t nm).sz/\(recO s.t nm).sz<=64:=by
 unfold recO;rw [qi h];exact hsz _ (zza h).1
set_option maxHeartbeats 16000000 in
theorem zqu {H:AH}[hn:HN H]{b mb:Nat}{s:Ms}{v lv:AV}{nm:ByteArray}(h:MdR H b mb s v lv) (hd:Bd s.t) (hsz:∀i,i<s.t.rs.length->1<=(get s.t.rs i).sz/\(get s.t.rs i).sz<=64) :
  FnE lookM 16 [.ptr b 0,.str nm] H fun r H'=>(∃x,r= .tup [x,.bool (hasB nm s.t.rs)]/\OwnS H' x (blkM s nm).length 5 1 (u8L (blkM s nm)) H.next)/\HX H H':=by
 refine fI Tryz.f16 ?_;have hlo:=hn.lo;refine uT0 ?_;refine cR_f (zjb1 h) ?_;rintro r1 H1 ⟨rfl,hx1⟩;haveI:=hx1.hn;have h1:=h.hx hx1;refine uT0 ?_;refine cR_f (zco (nm:=nm) h1 hd.len) ?_;rintro r2 H2 ⟨rfl,hx2⟩;have hx02:=hx1.trans hx2;haveI:=hx02.hn;have h2:=h.hx hx02;have hlo2:H2.lo=H.lo:=hx02.lo;have hn2:=hx02.next;have hone:=zbc (AV.nilSl,recO s.t nm) rfl;unfold blkM;cases a1:hasB nm s.t.rs with
 |false =>
  have F:=@zpa;refine uX ?_;exact ⟨⟨_,rfl,OwnS.nil _ _ _ _⟩,by have K:=hx02;exact hxk⟩
 |true =>
  have hz:=rec_sz hsz a1;obtain ⟨n,hnz⟩:∃n:Nat,(recO s.t nm).sz=(n:Int):=⟨(recO s.t nm).sz.toNat,oM⟩
  have r3:nth (rcL (AV.nilSl,recO s.t nm)) 3=some (.int .i64 n):=by rw [rc_3];show some (AV.int .i64 (recO s.t nm).sz)=_;rw [hnz]
  have F:=J3 @zpa @zud @r3;refine uT ?_;refine cR_at (fun H3=>HX H2 H3) (hxt) ?_
  intro H3 hx3;have hx03:=hx02.trans hx3;haveI:=hx03.hn;refine cR_f (zvj1 (h.hx hx03) (x:=recO s.t nm) (i:=0) (n:=n) oM) ?_
  rintro r4 H4 ⟨ho4,hx4⟩;refine uT0 ?_;have hlen:(someB (s.b (recO s.t nm).id) 0 n).length=256*n:=zdo (h.mp.ok _).len oM
  refine ⟨⟨_,rfl,?_⟩,hx03.trans hx4⟩;rw [hnz,qc2,hlen];have:=hx03.next;exact OwnS.le ho4 oM
theorem od_bu (n:Int):zsa lookM 32 (zipF [4] [.int .i64 n])=some (odA ⟨0,⟨#[]⟩,⟨#[]⟩,0,n, [], []⟩ .nilSl .nilSl):=kR
set_option maxHeartbeats 16000000 in
theorem zub1 {H:AH}[hn:HN H]{b:Nat}{s:Ms}{v lv iv qv:AV}{l:List (AV×Rc)}{kv:Kv}{N:Nat}{nm:ByteArray}(h:WdR H b s v lv iv qv l kv N) (hd:Bd s.t) (hkl:kv.length<=100000) (hsz:∀i,i<s.t.rs.length->1<=(get s.t.rs i).sz/\(get s.t.rs i).sz<=64) :
  FnE lookM 44 [.ptr b 0,.str nm] H fun r H'=>(∃x,r= .tup [x,.bool (hasB nm s.t.rs)]/\OwnS H' x (blkM s nm).length 5 1 (u8L (blkM s nm)) H.next)/\HX H H':=by
 refine fI Tryz.f44 ?_;have hlo:=hn.lo;refine uT0 ?_;refine cR_f (zfo (nm:=nm) h hd) ?_;rintro r2 H2 ⟨⟨a,ha,rfl⟩,hx2⟩;haveI:=hx2.hn;have hlo2:H2.lo=H.lo:=hx2.lo;have hn2:=hx2.next;have hone:=zbc (a,recO s.t nm) ha;unfold blkM;cases a1:hasB nm s.t.rs with
 |false =>
  have F:=@zpa;refine uX ?_;exact ⟨⟨_,rfl,OwnS.nil _ _ _ _⟩,by have K:=hx2;exact hxk⟩
 |true =>
  have hz:=rec_sz hsz a1;have F:=J4 @zpa @zud @rc_3 @od_bu;refine uT ?_;refine cR_at (fun H3=>HX H2 H3) (hxt) ?_
  intro H3 hx3;have hx03:=hx2.trans hx3;haveI:=hx03.hn;have hlo3:H3.lo=H.lo:=hx03.lo;have hmx:(64:Int)<=maxN:=dC
  refine cR_f (zsb1 (h.hx hx03) (o:=⟨0,⟨#[]⟩,⟨#[]⟩,0,(recO s.t nm).sz, [], []⟩) hkl hz ⟨Int.le_refl _,by show (0:Int)<=maxN;decide⟩ ⟨by show 0<=(recO s.t nm).sz;omega,by show (recO s.t nm).sz<=maxN;omega⟩) ?_
  rintro r4 H4 ⟨hr4,hx4⟩;have hx04:=hx03.trans hx4;haveI:=hx04.hn;have hn3:=hx03.next;have hn4:=hx4.next;have hlo4:H4.lo=H.lo:=hx04.lo;have e:readM s ⟨0,⟨#[]⟩,⟨#[]⟩,0,(recO s.t nm).sz, [], []⟩ (recO s.t nm)=⟨0, [],someB (s.b (recO s.t nm).id) 0 (recO s.t nm).sz.toNat⟩:=by
   unfold readM;rw [qd (by simp only;omega)]
   rfl
  rw [e] at hr4;obtain ⟨nv,bv,rfl,z4,b4,h5⟩:=hr4;have hnv:nv.oneCell=true:=zpc z4.is;have hbv:=(OwnS.one b4).1;have F:=J5 @zdb @rp_w @rp_2 @hnv @hbv;refine uT ?_;refine ⟨⟨_,rfl,?_⟩,by have K:=hx04;exact hxk⟩
  exact (OwnS.le (M:=H.next) b4 oM).hx (hxt)
theorem slb_2 {i k n c o j:Nat}{op:Bool}(h:i<c) (h2:i<=k) (hk:k<=c):zua lookM 30 true true false [.sl j o n c op,.int .i64 (i:Int),.int .i64 (k:Int)]=some (.sl j (o+i) (k - i) (c - i) op):=by
 show zgb lookM 30 (.sl j o n c op) (some (.int .i64 (i:Int))) (some (.int .i64 (k:Int))) none=_
 unfold zgb;rw [u30];show (match lookM.size 5 with|none=>none|some z=>(match some k with
    |none=>none
    |some h=>match Nat.ble i h && Nat.ble h c with
      |true=>(match op with
       |false=>some (AV.sl j (offOf c i o z) (h - i) (c - i) false)
       |true=>match Nat.beq c i with
        |true=>(match Nat.beq o 0 with|true=>some (.ext 1 j (c*z+1))|false=>none)
        |false=>some (.sl j (o+i*z) (h - i) (c - i) true))
      |false=>none))=_
 rw [s5];have e1:Nat.beq c i=false:=by rw [qf3];intro h';have:=qf h';omega
 simp only;rw [show Nat.ble i k=true from qe h2,show Nat.ble k c=true from qe hk]
 unfold offOf;simp only [qr2,e1,qs3];cases op<;>rfl
theorem zog1 {B:Bk}{a:Nat}{x y:List Nat}(h:a+x.length<=B.length) (hl:x.length=y.length):putB (putB B a x) a y=putB B a y:=by
 unfold putB;have e1:(B.take a).length=a:=by rw [qa1];omega
 have e2:(B.take a ++ x).length=a+y.length:=by rw [qr,e1,hl]
 rw [qi1 (B.take a) x,qp7 e1,← qi1,← hl,show a+x.length=a+y.length from oM,qd6 e2]
def WdO (H H':AH) (b:Nat) (s':Ms) (iv qv:AV) (n N:Nat):Prop:= ∃v lv iv2 qv2 l kv2,WdR H' b s' v lv iv2 qv2 l kv2 N/\(qv2= .nilSl\/kv2≠ [])/\kv2.length<=n+1/\KpR H H' b iv qv iv2 qv2
theorem WdO.same {H H':AH}{b:Nat}{s:Ms}{v lv iv qv:AV}{l:List (AV×Rc)}{kv:Kv}{N:Nat}(h:WdR H b s v lv iv qv l kv N) (hq:qv= .nilSl\/kv≠ []) (hx:HX H H'):WdO H H' b s iv qv kv.length N:=⟨v,lv,iv,qv,l,kv,h.hx hx,hq,oM,KpR.hx hx⟩
set_option maxHeartbeats 32000000 in
theorem zpg1 {H:AH}[hn:HN H]{b:Nat}{s:Ms}{v lv iv qv:AV}{l:List (AV×Rc)}{kv:Kv}{N:Nat}{o:Od}{ov bv a:AV}{x:Rc}(h:WdR H b s v lv iv qv l kv N) (hq:qv= .nilSl\/kv≠ []) (hlN:H.lo<=N) (hkl:kv.length<=99999) (hb:ByS H bv o.b) (hsz:1<=x.sz/\x.sz<=64)
  (hon:0<=o.n/\o.n<=maxN) (hom:0<=o.m/\o.m<=maxN) (hl:o.b.length<=16384) (hm:o.b.length%256=0) (hop:o.op=13\/(o.op=14/\o.b= [])) :
  FnE lookM 40 [.ptr b 0,odA o ov bv,.agg (rcL (a,x))] H fun r H'=>r= .int .i64 (zlf s o x).1.err/\WdO H H' b (zlf s o x).2 iv qv kv.length N:=by
 refine fJ Tryz.f40 o40 ?_;have hlo:=hn.lo;have hlt:=h.lt;have hnb:=h.nb;unfold maxN at hon hom;have e01:=hEq_f (oM:H.next≠H.next+1)
 have hW:zlf s o x=if x.kd=2 then (er 18,s) else if o.n>toW o\/toW o>x.sz then (er 5,s) else
  if o.op=13/\usedB (putB (cutK (s.b x.id) o.n.toNat ((toW o).toNat - o.n.toNat)) (256*o.n.toNat) o.b)>usedB (s.b x.id)/\x.qu>0/\(usedB (putB (cutK (s.b x.id) o.n.toNat ((toW o).toNat - o.n.toNat)) (256*o.n.toNat) o.b):Int)>x.qu then (er 16,s) else (er 0,⟨s.t,setK s.b x.id (putB (cutK (s.b x.id) o.n.toNat ((toW o).toNat - o.n.toNat)) (256*o.n.toNat) o.b)⟩):=rfl
 generalize zlf s o x=res at *
 cases a1:decide (x.kd=2) with
 |true =>
  rw [qi (qg a1)] at hW;subst hW;have F:=J5 @zke @zpa @e01 @rc_n2 @a1;refine uT ?_;clear F;exact ⟨rfl,WdO.same h hq (hxt)⟩
 |false =>
 rw [qd (qh a1)] at hW;have F:=J6 @zke @zpa @e01 @rc_n2 @rc_n0 @a1;refine uT ?_;clear F;refine cR_at (fun H1=>HX H H1/\H1.next=H.next+2/\H1.get H.next=some (odx o ov bv)/\H1.get (H.next+1)=some (.cells (.lst (rcL (a,x))) 84 44 false false)) ?_ ?_
 ·refine ⟨hxt,rfl,?_,zaa _⟩
  have F:=@e01;exact vT
 rintro H1 ⟨hx1,hn1,g0,g1⟩;haveI:=hx1.hn;refine cR_f (of_ok (h.hx hx1) x.id oM) ?_
 rintro r2 H2 ⟨rfl,hx2⟩;have hx02:=hx1.trans hx2;haveI:=hx02.hn;have hlo2:H2.lo=H.lo:=hx02.lo;have hn2:=hx2.next;have g0:=(hx2.get (i:=H.next) oM).trans g0
 have g1:=(hx2.get (i:=H.next+1) oM).trans g1
 have hB:=h.bk x.id;have hw:=fun i e op H=>wbk0 i e op H hB
 have hba:=zjl hB;have e0:=hEq_f (oM:H.next≠H2.next)
 have e1:=hEq_f (oM:H.next+1≠H2.next)
 have F:=J4 @z91 @zdd @hw @hba;refine uT ?_;clear F;refine cR_at (fun H3=>HX H2 H3/\H3.next=H2.next+1/\H3.get H2.next=some (.cells (bkC (s.b x.id)) 91 16384 false false)) ?_ ?_
 ·exact ⟨hxt,rfl,zia _ _⟩
 rintro H3 ⟨hx3,hn3,g2⟩;have hx03:=hx02.trans hx3;haveI:=hx03.hn;refine cR_f (zzk hB) ?_;rintro r4 H4 ⟨rfl,hx4⟩;have hx04:=hx03.trans hx4;have hx24:=hx3.trans hx4;haveI:=hx04.hn;have hlo4:H4.lo=H.lo:=hx04.lo;have hn4:=hx4.next;have g0:=(hx24.get (i:=H.next) oM).trans g0
 have g1:=(hx24.get (i:=H.next+1) oM).trans g1
 have g2:=(hx4.get (i:=H2.next) oM).trans g2
 have F:=J2 @g0 @od_0;refine uT ?_;clear F;refine bR_at (fun T H5=>H5=H4/\gT T 0= .ptr b 0/\gT T 4= .ptr H.next 0/\gT T 5= .ptr (H.next+1) 0/\gT T 7= .ptr H2.next 0/\gT T 8= .int .i64 (usedB (s.b x.id):Nat)) ?_ ?_
 ·refine ⟨rfl,?_,?_,?_,?_,?_⟩<;>(exact vT0)
 rintro T H5 ⟨rfl,t0,t4,t5,t7,t8⟩;have h5:=h.hx hx04;rcases hop with hop|⟨hop,hob⟩
 ·have a2:decide (o.op=14)=false:=qq oM
  have hto:toW o=o.n+((o.b.length / 256:Nat):Int):=by unfold toW;rw [qi hop]
  rw [hto] at hW;have hln:=fun H'=>hb.len.1 u30 H'
  have hqt:((o.b.length:Int)).tdiv 256=((o.b.length / 256:Nat):Int):=rfl;cases b1:decide (x.sz<o.n) with
  |true =>
   have y1:=qg b1;rw [qi (.inr oM)] at hW
   subst hW;have F:=J14 @a2 @t0 @t4 @t5 @t7 @t8 @g0 @g1 @od_6 @od_3 @rc_n3 @hln @hqt @b1;refine uT ?_;clear F;exact ⟨rfl,WdO.same h hq (by have K:=hx04;exact hxk)⟩
  |false =>
  have y1:=qh b1;cases b2:decide (x.sz - o.n<((o.b.length / 256:Nat):Int)) with
  |true =>
   have y2:=qg b2;rw [qi (.inr oM)] at hW
   subst hW;have F:=J15 @a2 @t0 @t4 @t5 @t7 @t8 @g0 @g1 @od_6 @od_3 @rc_n3 @hln @hqt @b1 @b2;refine uT ?_;clear F;exact ⟨rfl,WdO.same h hq (by have K:=hx04;exact hxk)⟩
  |false =>
  have y2:=qh b2;rw [qd (by rintro (k|k)<;>omega)] at hW
  obtain ⟨n,hn0⟩:∃n:Nat,o.n=(n:Int):=⟨o.n.toNat,oM⟩
  have od3:nth (odL o ov bv) 3=some (.int .i64 (n:Int)):=by rw [od_3,hn0]
  have hnx:putB (cutK (s.b x.id) o.n.toNat ((o.n+((o.b.length / 256:Nat):Int)).toNat - o.n.toNat)) (256*o.n.toNat) o.b=putB (s.b x.id) (256*n) o.b:=by
   rw [hn0,qc2,show ((n:Int)+((o.b.length / 256:Nat):Int)).toNat - n=o.b.length / 256 from oM]
   unfold cutK;exact zog1 (by rw [qk3,hB.len];omega) (by rw [qk3];omega)
  rw [hnx] at hW;have F:=J15 @a2 @t0 @t4 @t5 @t7 @t8 @g0 @g1 @od_6 @od_3 @rc_n3 @hln @hqt @b1 @b2;refine uT ?_;clear F;refine rc_j o40 (fun m T H'=> ∃q,m+q=o.b.length / 256/\HX H H'/\H2.next+1<=H'.next/\H'.get H.next=some (odx o ov bv)/\H'.get (H.next+1)=some (.cells (.lst (rcL (a,x))) 84 44 false false) /\
   H'.get H2.next=some (.cells (bkC (putB (s.b x.id) (256*n) (o.b.take (256*q)))) 91 16384 false false)/\gT T 0= .ptr b 0/\gT T 4= .ptr H.next 0/\gT T 5= .ptr (H.next+1) 0/\gT T 7= .ptr H2.next 0 /\
   gT T 8= .int .i64 (usedB (s.b x.id):Nat)/\gT T 9= .int .i64 ((o.b.length / 256:Nat):Int)/\gT T 10= .int .i64 q) (o.b.length / 256) ?_ ?_
  ·refine ⟨0,rfl,hx04,oM,g0,g1,?_,by have F:=@t0;exact vT,by have F:=@t4;exact vT,by have F:=@t5;exact vT,by have F:=@t7;exact vT,by have F:=@t8;exact vT,vT0,by refine uT0 ?_;rfl⟩
   have:putB (s.b x.id) (256*n) (o.b.take (256*0))=s.b x.id:=by unfold putB;simp
   rw [this];exact g2
  clear g0 g1 g2 t0 t4 t5 t7 t8;rintro m T6 H6 ⟨q,hmq,hx6,hn6,g0,g1,g2,t0,t4,t5,t7,t8,t9,t10⟩;haveI:=hx6.hn;have hlo6:H6.lo=H.lo:=hx6.lo;have hBq:BkOk (putB (s.b x.id) (256*n) (o.b.take (256*q))):=zou hB (hb.byt.take _) (by rw [qa1];omega)
  cases m with
  |zero =>
   have hqe:q=o.b.length / 256:=oM
   have d1:decide ((q:Int)<((o.b.length / 256:Nat):Int))=false:=qq oM
   rw [qx oM] at hBq g2
   generalize putB (s.b x.id) (256*n) o.b=D at *
   have hda:=zjl hBq;have F:=J10 @t0 @t4 @t5 @t7 @t8 @t9 @t10 @d1 @g2 @hda;refine uT ?_;clear F;refine cR_f (zzk hBq) ?_;rintro r7 H7 ⟨rfl,hx7⟩;have hx07:=hx6.trans hx7;haveI:=hx07.hn;have hlo7:H7.lo=H.lo:=hx07.lo;have hn7:=hx7.next;have g1:=(hx7.get (i:=H.next+1) oM).trans g1
   have g2:=(hx7.get (i:=H2.next) oM).trans g2
   cases c1:decide ((usedB (s.b x.id):Int)<(usedB D:Int)) with
   |false =>
    have z1:=qh c1;rw [qd (fun k=>by have:=k.2.1;omega)] at hW
    subst hW;have F:=J9 @t0 @t5 @t7 @t8 @c1 @g1 @g2 @hda @rc_n0;refine uT ?_;clear F;refine cR_f (zzh (h.hx hx07) hq x.id hBq oM oM) ?_
    rintro r8 H8 ⟨iv2,qv2,hw8,hq8,hk8⟩;refine uT0 ?_;exact ⟨rfl,v,lv,iv2,qv2,l,_,hw8,hq8,zem,(KpR.hx hx07).trans hk8⟩
   |true =>
   have z1:=qg c1;cases c2:decide (0<x.qu) with
   |false =>
    have z2:=qh c2;rw [qd (fun k=>by have:=k.2.2.1;omega)] at hW
    subst hW;have F:=J11 @t0 @t5 @t7 @t8 @c1 @c2 @g1 @g2 @hda @rc_n0 @zfg1;refine uT ?_;clear F;refine cR_f (zzh (h.hx hx07) hq x.id hBq oM oM) ?_
    rintro r8 H8 ⟨iv2,qv2,hw8,hq8,hk8⟩;refine uT0 ?_;exact ⟨rfl,v,lv,iv2,qv2,l,_,hw8,hq8,zem,(KpR.hx hx07).trans hk8⟩
   |true =>
   have z2:=qg c2;have F:=J11 @t0 @t5 @t7 @t8 @c1 @c2 @g1 @g2 @hda @rc_n0 @zfg1;refine uT ?_;clear F;refine rk_cw (js:= [H.next+1]) (R:=fun r H'=>r= .int .i64 (usedB D:Nat)/\HX H7 H') ?_ ?_ ?_
   ·rw [zwc]
    refine zka (o:=42) ?_ zeb<;>(exact vT0)
   ·refine uT0 ?_
    exact zzk hBq
   rintro r8 H8 ⟨rfl,hx8⟩;refine ⟨zhb hx8 _ fun i hi=> ?_,?_⟩
   ·simp only [qx1] at hi
    subst hi;exact ⟨oM,_,_,_,_,_,g1⟩
   have hx08:=hx07.trans hx8;haveI:=hx08.hn;have hlo8:H8.lo=H.lo:=hx08.lo;have hn8:=hx8.next;have g1:=(hx8.get (i:=H.next+1) oM).trans g1
   have g2:=(hx8.get (i:=H2.next) oM).trans g2
   cases c3:decide (x.qu<(usedB D:Int)) with
   |false =>
    have z3:=qh c3;rw [qd (fun k=>by have:=k.2.2.2;omega)] at hW
    subst hW;have F:=J11 @zvd @t0 @t5 @t7 @t8 @c3 @g1 @g2 @hda @rc_n0 @zfg1;refine uT ?_;clear F;refine cR_f (zzh (h.hx hx08) hq x.id hBq oM oM) ?_
    rintro r9 H9 ⟨iv2,qv2,hw9,hq9,hk9⟩;refine uT0 ?_;exact ⟨rfl,v,lv,iv2,qv2,l,_,hw9,hq9,zem,(KpR.hx hx08).trans hk9⟩
   |true =>
    have z3:=qg c3;rw [qi ⟨hop,oM,oM,oM⟩] at hW
    subst hW;have F:=J11 @zvd @t0 @t5 @t7 @t8 @c3 @g1 @g2 @hda @rc_n0 @zfg1;refine uT ?_;clear F;exact ⟨rfl,WdO.same h hq hx08⟩
  |succ m =>
   have hqlt:q<o.b.length / 256:=oM
   have d1:decide ((q:Int)<((o.b.length / 256:Nat):Int))=true:=qk oM
   have hb6:=hb.hx hx6;rcases hb6 with ⟨he,_⟩|⟨j,bo,c,op,full,e,z,op',ro,rfl,hj,hg,hful,ho,hlb,hc⟩
   ·rw [he] at hqlt;simp at hqlt
   have s2:=slb_2 (i:=256*q) (k:=256*q+256) (n:=o.b.length) (c:=c) (o:=bo) (j:=j) (op:=op) oM oM oM
   have e256:256*q+256 - 256*q=256:=oM
   rw [e256] at s2;have hix:=ixA_n (n:=64) (z:=256) (i:=H2.next) (o:=0) (k:=n+q) oM
   have hcast:((n:Int)+(q:Int))=((n+q:Nat):Int):=by push_cast;rfl
   have hc1:(q:Int)*256=((256*q:Nat):Int):=by push_cast;omega
   have hc2:((q:Int)+1)*256=((256*q+256:Nat):Int):=by push_cast;omega
   have hcp:=copyB hBq (k:=n+q) oM g2 oM (c:=c - 256*q) (op2:=op) (o:=bo+256*q) hg hful oM
   have F:=J16 @t0 @t4 @t5 @t7 @t8 @t9 @t10 @d1 @g0 @od3 @od_6 @hcast @hix @sl89 @hc1 (J3 @hc2 @s2 @hcp);refine uT ?_;clear F;have hq1:o.b.take (256*(q+1))=o.b.take (256*q) ++ (full.drop (bo+256*q)).take 256:=by
    rw [show 256*(q+1)=256*q+256 from oM,qt7,← hlb]
    congr 1
    rw [qd7,qq3,qh5,qv3 oM]
   have htl:(o.b.take (256*q)).length=256*q:=by rw [qa1];omega
   have hq2:putB (putB (s.b x.id) (256*n) (o.b.take (256*q))) (256*(n+q)) ((full.drop (bo+256*q)).take 256)=putB (s.b x.id) (256*n) (o.b.take (256*(q+1))):=by
    rw [hq1,← zlb1 (by rw [htl,hB.len];omega),htl,qr7]
   refine ⟨m,oM,q+1,oM,HX.put hx6 oM _,hn6,g1,?_,by push_cast;rfl⟩
   rw [hq2]
 ·have a2:decide (o.op=14)=true:=qk hop
  have hto:toW o=o.m:=by unfold toW;rw [qd oM]
  rw [hto,hob] at hW;cases b1:decide (o.m<o.n) with
  |true =>
   have y1:=qg b1;rw [qi (.inl oM)] at hW
   subst hW;have F:=J12 @a2 @t0 @t4 @t5 @t7 @t8 @g0 @g1 @od_3 @od_4 @rc_n3 @b1;refine uT ?_;clear F;exact ⟨rfl,WdO.same h hq (by have K:=hx04;exact hxk)⟩
  |false =>
  have y1:=qh b1;cases b2:decide (x.sz<o.m) with
  |true =>
   have y2:=qg b2;rw [qi (.inr oM)] at hW
   subst hW;have F:=J13 @a2 @t0 @t4 @t5 @t7 @t8 @g0 @g1 @od_3 @od_4 @rc_n3 @b1 @b2;refine uT ?_;clear F;exact ⟨rfl,WdO.same h hq (by have K:=hx04;exact hxk)⟩
  |false =>
  have y2:=qh b2;rw [qd (by rintro (k|k)<;>omega),qd (by rintro ⟨k,_⟩;omega)] at hW
  obtain ⟨n,hn0⟩:∃n:Nat,o.n=(n:Int):=⟨o.n.toNat,oM⟩
  obtain ⟨m,hm0⟩:∃m:Nat,o.m=(m:Int):=⟨o.m.toNat,oM⟩
  have od3:nth (odL o ov bv) 3=some (.int .i64 (n:Int)):=by rw [od_3,hn0]
  have od4:nth (odL o ov bv) 4=some (.int .i64 (m:Int)):=by rw [od_4,hm0]
  rw [hn0,hm0] at b1;rw [hm0] at b2;rw [hn0,hm0,qc2,qc2,show ∀C,putB C (256*n) []=C from fun C=>by unfold putB;simp] at hW
  subst hW;have F:=J16 @a2 @t0 @t4 @t5 @t7 @t8 @g0 @g1 @g2 @hba @od3 @od4 @rc_n3 @rc_n0 @b1 @b2;refine uT ?_;clear F;refine rk_cw (js:= [H.next+1]) (R:=fun r H'=>r=bkA (cutK (s.b x.id) n (m - n))/\HX H5 H') ?_ ?_ ?_
  ·rw [zwc]
   refine zka (o:=0) ?_ zeb<;>(exact vT0)
  ·refine uT0 ?_
   exact zpb1 hB oM oM
  rintro r6 H6 ⟨rfl,hx6⟩;refine ⟨zhb hx6 _ fun i hi=> ?_,?_⟩
  ·simp only [qx1] at hi
   subst hi;exact ⟨oM,_,_,_,_,_,g1⟩
  have hx06:=hx04.trans hx6;haveI:=hx06.hn;have hlo6:H6.lo=H.lo:=hx06.lo;have F:=@zvd;refine uT ?_;clear F;refine cR_f (zzh (h.hx hx06) hq x.id (zui hB (f:=n) (t:=m) oM) oM oM) ?_
  rintro r7 H7 ⟨iv2,qv2,hw7,hq7,hk7⟩;refine uT0 ?_;exact ⟨rfl,v,lv,iv2,qv2,l,_,hw7,hq7,zem,(KpR.hx hx06).trans hk7⟩
theorem wd_w {nn n2:Int}{v lv iv qv v2 l2:AV}{i e:Nat}{op:Bool}{H:AH}(ho:(tbL n2 v2 l2).all AV.oneCell=true):wrN (some (.cells (.lst (wdL nn v lv iv qv)) e 9 op false)) i 0 7 (.lst (tbL n2 v2 l2)) H=some (H.put i (.cells (.lst (wdL n2 v2 l2 iv qv)) e 9 op false)):=wrN_p rfl ho (by show 0+7<=9;decide)
set_option maxHeartbeats 32000000 in
theorem zqg1 {H:AH}[hn:HN H]{b:Nat}{s:Ms}{v lv iv qv:AV}{l:List (AV×Rc)}{kv:Kv}{N:Nat}{o:Od}{ov bv:AV}(h:WdR H b s v lv iv qv l kv N) (hq:qv= .nilSl\/kv≠ []) (hd:Bd s.t) (hlN:H.lo<=N) (hkl:kv.length<=99999) (hs:o.nm.size<=100000) (hto:o.to.size<=100000)
  (hop:1<=o.op) (hop2:o.op<=8) :
  FnE lookM 32 [.ptr b 0,odA o ov bv] H fun r H'=>r= .int .i64 (zyd false s o).1.err/\WdO H H' b (zyd false s o).2 iv qv kv.length N:=by
 refine fJ Tryz.f32 o32 ?_;have hlo:=hn.lo;have hlt:=h.lt;have hnb:=h.nb;have hb:=h.box;have hsp:= @FnX.p _ _ _ _ (zue o.nm oM)
 have eb0:=hEq_f (oM:b≠H.next)
 have o2:=zbb (nn:=s.t.nx) (v:=v) (lv:=lv) (RdD.one h.tb.rd) (LvD.one h.tb.lv).1;have e01:=hEq_f (oM:H.next≠H.next+1)
 have F:=J9 @zke @hb @wd_t @eb0 @zcb @zba @zha @e01 @zuf;refine uT ?_;refine cR_at (fun H1=>HX H H1/\H1.next=H.next+2/\H1.get H.next=some (odx o ov bv)/\H1.get (H.next+1)=some (tbx s.t.nx v lv)) ?_ ?_
 ·refine ⟨hxt,rfl,?_,zia _ _⟩
  have F:=@e01;exact vT
 rintro H1 ⟨hx1,hn1,g0,g1⟩;haveI:=hx1.hn;refine cR_f (zgp1 (h.hx hx1) hd hs hto) ?_;rintro r2 H2 ⟨ht2,hx2⟩;have hx02:=hx1.trans hx2;have hn2:=hx2.next;have g0:=(hx2.get (i:=H.next) oM).trans g0
 have g1:=(hx2.get (i:=H.next+1) oM).trans g1
 haveI:=hx02.hn;have hlo2:H2.lo=H.lo:=hx02.lo;have o1:=o0;have e02:=hEq_f (oM:H.next≠H2.next)
 have e12:=hEq_f (oM:H.next+1≠H2.next)
 unfold zyd;rcases ht2 with ⟨e,he,h1,rfl⟩|⟨t2,v2,l2,ll,h1,rfl,h3⟩
 ·have d1:decide (e≠0)=true:=qk he
  have d1':decide (¬e=0)=true:=qk he;rw [h1];have F:=J5 @zba @zcb @zha @d1 @d1';refine uT ?_;exact ⟨rfl,WdO.same h hq (by have K:=hx02;exact hxk)⟩
 rw [h1];have o2:=zbb (nn:=t2.nx) (v:=v2) (lv:=l2) (RdD.one h3.rd) (LvD.one h3.lv).1;have F:=J6 @zba @zcb @zha @g0 @e02 @od_1;refine uT ?_;refine cR_at (fun H3=>HX H2 H3/\H3.next=H2.next+1/\H3.get H2.next=some (tbx t2.nx v2 l2)) ?_ ?_
 ·exact ⟨hxt,rfl,zia _ _⟩
 rintro H3 ⟨hx3,hn3,g2⟩;have hx03:=hx02.trans hx3;haveI:=hx03.hn;refine cR_f (zfo (nm:=o.nm) (h.hx hx03) hd) ?_;rintro r4 H4 ⟨⟨a4,ha4,rfl⟩,hx4⟩;have hx04:=hx03.trans hx4;have hn4:=hx4.next;have hx24:=hx3.trans hx4;have g0:=(hx24.get (i:=H.next) oM).trans g0
 have g1:=(hx24.get (i:=H.next+1) oM).trans g1
 have g2:=(hx4.get (i:=H2.next) oM).trans g2
 haveI:=hx04.hn;have hlo4:H4.lo=H.lo:=hx04.lo;have e0:=hEq_f (oM:H.next≠H4.next)
 have hone4:=zbc (a4,recO s.t o.nm) ha4;have F:=J5 @zpa @g0 @e0 @od_1 @hsp;refine uT ?_;refine cR_at (fun H5=>HX H4 H5/\H5.next=H4.next+1/\H5.get H4.next=some (.cells (.lst (rcL (a4,recO s.t o.nm))) 84 44 false false)) ?_ ?_
 ·exact ⟨hxt,rfl,zia _ _⟩
 rintro H5 ⟨hx5,hn5,g4⟩;have hx05:=hx04.trans hx5;haveI:=hx05.hn;refine cR_f (zfo (nm:=splA o.nm) (h.hx hx05) hd) ?_;rintro r6 H6 ⟨⟨a6,ha6,rfl⟩,hx6⟩;have hx06:=hx05.trans hx6;have hn6:=hx6.next;have hx46:=hx5.trans hx6;have g0:=(hx46.get (i:=H.next) oM).trans g0
 have g1:=(hx46.get (i:=H.next+1) oM).trans g1
 have g2:=(hx46.get (i:=H2.next) oM).trans g2
 have g4:=(hx6.get (i:=H4.next) oM).trans g4
 haveI:=hx06.hn;have hlo6:H6.lo=H.lo:=hx06.lo;have hone6:=zbc (a6,recO s.t (splA o.nm)) ha6;have e0:=hEq_f (oM:H.next≠H6.next)
 have e1:=hEq_f (oM:H.next+1≠H6.next)
 have e2:=hEq_f (oM:H2.next≠H6.next)
 have e4:=hEq_f (oM:H4.next≠H6.next)
 have eb6:=hEq_f (oM:b≠H6.next)
 have hb6:=(h.hx hx06).box;have eb0':=hEq_f (oM:H.next≠b)
 have F:=J13 @zpa @g0 @g2 @e0 @e2 @zea @zba @hb6 @eb6 @wd_w @o2 @eb0' @od_0;refine uT ?_;refine bR_at (fun T H7=>HP (·≠ b) H6 H7/\H6.next+1<=H7.next/\H7.get b=some (wdx t2.nx v2 l2 iv qv)/\H7.get H6.next=some (.cells (.lst (rcL (a6,recO s.t (splA o.nm)))) 84 44 false false) /\
  gT T 0= .ptr b 0/\gT T 3= .ptr H.next 0/\gT T 5= .ptr (H.next+1) 0/\gT T 8= .ptr H4.next 0/\gT T 13= .ptr H6.next 0/\gT T 53= .int .i64 o.op) ?_ ?_
 ·refine ⟨?_,qn _,zia _ _,?_,vT0,vT0,vT0,vT0,vT0,vT0⟩
  ·have hxx:HX H6 ((H6.new (.cells (.lst (rcL (.nilSl,Rc0))) 84 44 false false)).put H6.next (.cells (.lst (rcL (a6,recO s.t (splA o.nm)))) 84 44 false false)):=HX.putN (HX.refl _) _ _
   exact (hxx.hp fun _=>True).trans (HP.put _ _ _) fun i _ hi=>⟨trivial,hi⟩
  ·rw [zyb _ oM]
   exact zia _ _
 rintro T H7 ⟨hp7,hn7,hb7,g6,y0,y3,y5,y8,y13,y53⟩;haveI:=hp7.hn;have hlo7:H7.lo=H.lo:=hp7.lo.trans hlo6;have g0:=(hp7.get (i:=H.next) oM oM).trans g0
 have g1:=(hp7.get (i:=H.next+1) oM oM).trans g1
 have g4:=(hp7.get (i:=H4.next) oM oM).trans g4
 have h6:=h.hx hx06;have hx26:HX H2 H6:=(hx24.trans hx5).trans hx6;have kp7:KpR H H7 b iv qv iv qv:=(KpR.hx hx06).trans ⟨hp7.mono fun i _ hi=>hi.1,fun _ _ h=>h,fun _ _ h=>h⟩
 have sepb:∀(z:Nat),z≠9-> ∀j cc e op ro,H6.get j=some (.cells cc e z op ro)->j≠b:=fun z z9 j cc e op ro hg e'=>by
  subst e';rw [hb6] at hg;cases hg;exact z9 rfl
 have h7:WdR H7 b ⟨t2,s.b⟩ v2 l2 iv qv ll kv N:=by
  refine ⟨qz h6.lt hp7.next,hnb,hb7,(h3.hx hx26).hq hp7 (sepb 44 dC) (sepb 2 dC) (fun j op hr=>by obtain ⟨cc,hg,_⟩:=hr;exact sepb 1 dC _ _ _ _ _ hg),?_,?_,h.f,h.ok,h.nd⟩
  ·exact OwnS.hq h6.ids hp7 fun j o n c op e e2=>by
    subst e2;rcases h6.ids.2 with ⟨e3,_⟩|⟨i,op2,e3,hr,_⟩
    ·rw [e3] at e;cases e
    ·rw [e3] at e;cases e
     obtain ⟨cc,g,_⟩:=hr;rw [hb6] at g;cases g
  ·exact h6.bs.hq hp7 fun j o n c op e e2=>by
    subst e2;obtain ⟨_,_,_,_,g⟩:=h6.bs.blk e;rw [hb6] at g;cases g
 have fin:∀(k:Int) (x:Bk) (H8 H9:AH),HX H7 H8->chgB false s o=setK s.b k x->(∃iv2 qv2,WdR H9 b ⟨t2,setK s.b k x⟩ v2 l2 iv2 qv2 ll (upB k x kv) N/\(qv2= .nilSl\/upB k x kv≠ [])/\KpR H8 H9 b iv qv iv2 qv2) ->
   AV.int .i64 0= .int .i64 (er 0).err/\WdO H H9 b ⟨t2,chgB false s o⟩ iv qv kv.length N:=by
  rintro k x H8 H9 hx8 hc ⟨iv2,qv2,hw,hq2,hk⟩;rw [hc];exact ⟨rfl,v2,l2,iv2,qv2,ll,_,hw,hq2,zem,kp7.trans ((KpR.hx hx8).trans hk)⟩
 cases a1:decide (o.op=1) with
 |true =>
  have e:=qg a1;have ec:chgB false s o=setK s.b s.t.nx zeroB:=by unfold chgB;simp only [e];rfl
  have F:=J7 @y0 @y3 @y5 @y8 @y13 @g1 @bu91;refine uT ?_;rw [← wz_a];refine cR_f (zzh h7 hq s.t.nx zeroB_ok oM oM) ?_
  rintro r9 H9 hw9;refine uT0 ?_;exact fin _ _ H7 H9 (HX.refl _) ec hw9
 |false =>
 have n1:¬o.op=1:=qh a1;have F:=@y53;refine uT ?_;cases a2:decide (o.op=2) with
 |true =>
  have e:=qg a2;have ec:chgB false s o=setK s.b s.t.nx (s.b (recO s.t (splA o.nm)).id):=by unfold chgB;simp only [e];rfl
  have F:=J8 @y0 @y3 @y5 @y8 @y13 @g1 @g6 @rc_n0;refine uT ?_;refine rk_cw (js:= [H.next+1]) (R:=fun r H'=>r=bkA (s.b (recO s.t (splA o.nm)).id)/\HX H7 H') ?_ ?_ ?_
  ·rw [zwc]
   refine zka (o:=0) ?_ zeb<;>(exact vT0)
  ·have F:=@y0;refine uT ?_
   exact of_ok h7 _ oM
  rintro r8 H8 ⟨rfl,hx8⟩;refine ⟨zhb hx8 _ fun i hi=> ?_,?_⟩
  ·simp only [qx1] at hi
   subst hi;exact ⟨by have:=hp7.next;omega,_,_,_,_,_,g1⟩
  haveI:=hx8.hn;have hlo8:H8.lo=H.lo:=hx8.lo.trans hlo7;have F:=J2 @zvd @y0;refine uT ?_;refine cR_f (zzh (h7.hx hx8) hq s.t.nx (h.bk (recO s.t (splA o.nm)).id) oM oM) ?_
  rintro r9 H9 hw9;refine uT0 ?_;exact fin _ _ H8 H9 hx8 ec hw9
 |false =>
 have n2:¬o.op=2:=qh a2;have F:=@y53;refine uT ?_;cases a3:decide (o.op=3) with
 |true =>
  have e:=qg a3;have ec:chgB false s o=setK s.b s.t.nx (s.b (recO s.t o.nm).id):=by unfold chgB;simp only [e];rfl
  have F:=J8 @y0 @y3 @y5 @y8 @y13 @g1 @g4 @rc_n0;refine uT ?_;refine rk_cw (js:= [H.next+1]) (R:=fun r H'=>r=bkA (s.b (recO s.t o.nm).id)/\HX H7 H') ?_ ?_ ?_
  ·rw [zwc]
   refine zka (o:=0) ?_ zeb<;>(exact vT0)
  ·have F:=@y0;refine uT ?_
   exact of_ok h7 _ oM
  rintro r8 H8 ⟨rfl,hx8⟩;refine ⟨zhb hx8 _ fun i hi=> ?_,?_⟩
  ·simp only [qx1] at hi
   subst hi;exact ⟨by have:=hp7.next;omega,_,_,_,_,_,g1⟩
  haveI:=hx8.hn;have hlo8:H8.lo=H.lo:=hx8.lo.trans hlo7;have F:=J2 @zvd @y0;refine uT ?_;refine cR_f (zzh (h7.hx hx8) hq s.t.nx (h.bk (recO s.t o.nm).id) oM oM) ?_
  rintro r9 H9 hw9;refine uT0 ?_;exact fin _ _ H8 H9 hx8 ec hw9
 |false =>
 have n3:¬o.op=3:=qh a3;have F:=@y53;refine uT ?_;cases a4':decide (o.op=4) with
 |true =>
  have e:=qg a4';have ec:chgB false s o=setK s.b (recO s.t (splA o.nm)).id (s.b (recO s.t o.nm).id):=by unfold chgB;simp only [e];rfl
  have F:=J9 @y0 @y3 @y5 @y8 @y13 @g1 @g4 @g6 @rc_n0;refine uT ?_;refine rk_cw (js:= [H6.next]) (R:=fun r H'=>r=bkA (s.b (recO s.t o.nm).id)/\HX H7 H') ?_ ?_ ?_
  ·rw [zwc]
   refine zka (o:=0) ?_ zeb<;>(exact vT0)
  ·have F:=@y0;refine uT ?_
   exact of_ok h7 _ oM
  rintro r8 H8 ⟨rfl,hx8⟩;refine ⟨zhb hx8 _ fun i hi=> ?_,?_⟩
  ·simp only [qx1] at hi
   subst hi;exact ⟨by have:=hp7.next;omega,_,_,_,_,_,g6⟩
  haveI:=hx8.hn;have hlo8:H8.lo=H.lo:=hx8.lo.trans hlo7;have F:=J2 @zvd @y0;refine uT ?_;refine cR_f (zzh (h7.hx hx8) hq (recO s.t (splA o.nm)).id (h.bk (recO s.t o.nm).id) oM oM) ?_
  rintro r9 H9 hw9;refine uT0 ?_;exact fin _ _ H8 H9 hx8 ec hw9
 |false =>
 have n4:¬o.op=4:=qh a4';have F:=@y53;refine uT ?_;cases a7:decide (o.op=7) with
 |false =>
  have n7:¬o.op=7:=qh a7;have ec:chgB false s o=s.b:=by
   unfold chgB;by_cases e5:o.op=5
   ·simp only [e5];rfl
   ·simp only [qd n1,qd n2,qd n3,qd n4,qd e5,qd n7]
  refine uT0 ?_;refine ⟨rfl,v2,l2,iv,qv,ll,kv,?_,hq,oM,kp7⟩
  show WdR H7 b ⟨t2,chgB false s o⟩ _ _ _ _ _ _ _
  rw [ec];exact h7
 |true =>
  have e:=qg a7;have ec:chgB false s o=setK s.b (recO s.t o.nm).id (cutK (s.b (recO s.t o.nm).id) o.n.toNat (64 - o.n.toNat)):=by unfold chgB;simp only [e];rfl
  have hwn:wi o.n 1 64=true:=by
   have hc:chgT s.t o=sizeT s.t o.nm o.n:=by unfold chgT;simp only [e];rfl
   rw [hc] at h1;cases hw:wi o.n 1 64 with
   |true=>rfl
   |false=>unfold sizeT zsd at h1;rw [hw,qi3,qr3] at h1;cases h1
  rw [wi_d,qm,qs,qs] at hwn;obtain ⟨n,hn⟩:∃n:Nat,o.n=n:=⟨o.n.toNat,oM⟩
  rw [hn,qc2] at ec;have od3:nth (odL o ov bv) 3=some (.int .i64 (n:Int)):=by rw [od_3,hn]
  have F:=J10 @y0 @y3 @y5 @y8 @y13 @g0 @g1 @g4 @od3 @rc_n0;refine uT ?_;refine rk_cw (js:= [H.next,H4.next]) (R:=fun r H'=>r=bkA (s.b (recO s.t o.nm).id)/\HX H7 H') ?_ ?_ ?_
  ·rw [zwc]
   refine zka (o:=3) ?_ (zka (o:=0) ?_ zeb)<;>(exact vT0)
  ·have F:=@y0;refine uT ?_
   exact of_ok h7 _ oM
  rintro r8 H8 ⟨rfl,hx8⟩;refine ⟨zhb hx8 _ fun i hi=> ?_,?_⟩
  ·simp only [qg1,qf5,qj7] at hi
   rcases hi with rfl|rfl
   ·exact ⟨oM,_,_,_,_,_,g0⟩
   ·exact ⟨oM,_,_,_,_,_,g4⟩
  haveI:=hx8.hn;have hn8:=hx8.next;have g4:=(hx8.get (i:=H4.next) oM).trans g4
  refine rk_cw (js:= [H4.next]) (R:=fun r H'=>r=bkA (cutK (s.b (recO s.t o.nm).id) n (64 - n))/\HX H8 H') ?_ ?_ ?_
  ·rw [zwc]
   refine zka (o:=0) ?_ zeb<;>(have F:=@zvd;exact vT)
  ·have F:=@zvd;refine uT ?_
   exact zpb1 (h.bk _) (qn 64) oM
  rintro r9 H9 ⟨rfl,hx9⟩;refine ⟨zhb hx9 _ fun i hi=> ?_,?_⟩
  ·simp only [qx1] at hi
   subst hi;exact ⟨oM,_,_,_,_,_,g4⟩
  have hx79:=hx8.trans hx9;haveI:=hx79.hn;have hlo9:H9.lo=H.lo:=hx79.lo.trans hlo7;have F:=J2 @zvd @y0;refine uT ?_;refine cR_f (zzh (h7.hx hx79) hq (recO s.t o.nm).id (zui (h.bk (recO s.t o.nm).id) (f:=n) (qn 64)) oM oM) ?_
  rintro r10 H10 hw10;refine uT0 ?_;exact fin _ _ H9 H10 hx79 ec hw10
theorem WdR.fresh {H:AH}{b:Nat}{s:Ms}{v lv iv qv:AV}{l:List (AV×Rc)}{kv:Kv}{N:Nat}(h:WdR H b s v lv iv qv l kv N){i:Nat}(hi:H.next<=i):i≠b/\blkNe iv i/\blkNe qv i:=by
 have:=h.lt;refine ⟨oM,?_,?_⟩
 ·rcases h.ids.2 with ⟨rfl,_⟩|⟨j,op,rfl,_,_,hj,_⟩
  ·exact zfa _
  ·exact zga oM
 ·rcases h.bs with ⟨rfl,_⟩|⟨j,op,rfl,_,hj,_⟩
  ·exact zfa _
  ·exact zga oM
theorem WdR.put {H:AH}[hn:HN H]{b:Nat}{s:Ms}{v lv iv qv:AV}{l:List (AV×Rc)}{kv:Kv}{N:Nat}(h:WdR H b s v lv iv qv l kv N){i:Nat}{c:Ce}{e:Nat}{op ro:Bool}(hg:H.get i=some (.cells c e 3 op ro)) (b':ABlk):WdR (H.put i b') b s v lv iv qv l kv N:=by
 have hp:HP (·≠ i) H (H.put i b'):=HP.put _ _ _;have sep:∀(z:Nat),z≠3-> ∀j cc e op ro,H.get j=some (.cells cc e z op ro)->j≠i:=fun z z3 j cc e op ro hg' e'=>by
  subst e';rw [hg] at hg';cases hg';exact z3 rfl
 refine ⟨h.lt,h.nb,(hp.get h.lt (sep 9 dC _ _ _ _ _ h.box)).trans h.box,h.tb.hq hp (sep 44 dC) (sep 2 dC) (fun j op hr=>by obtain ⟨cc,hg',_⟩:=hr;exact sep 1 dC _ _ _ _ _ hg'),?_,?_,h.f,h.ok,h.nd⟩
 ·refine OwnS.hq h.ids hp fun j o n c op e=> ?_
  rcases h.ids.2 with ⟨e3,_⟩|⟨i2,op2,e3,hr,_⟩
  ·rw [e3] at e;cases e
  ·rw [e3] at e;cases e
   obtain ⟨cc,g,_⟩:=hr;exact sep 1 dC _ _ _ _ _ g
 ·refine h.bs.hq hp fun j o n c op e=> ?_
  obtain ⟨_,_,_,_,g⟩:=h.bs.blk e;exact sep 16384 dC _ _ _ _ _ g
theorem WdO.put {H H4:AH}[hn:HN H4]{b:Nat}{s:Ms}{iv qv:AV}{n N:Nat}(h:WdO H H4 b s iv qv n N){i:Nat}(hi:H.next<=i){c:Ce}{e:Nat}{op ro:Bool}(hg:H4.get i=some (.cells c e 3 op ro)) (b':ABlk):WdO H (H4.put i b') b s iv qv n N:=by
 obtain ⟨v,lv,iv2,qv2,l,kv2,hw,hq,hl,hk⟩:=h;exact ⟨v,lv,iv2,qv2,l,kv2,hw.put hg b',hq,hl,⟨hk.hp.trans (HP.put H4 i b') fun j hj hh=>⟨hh,oM⟩,hk.i,hk.q⟩⟩
theorem WdO.pre {H H3 H4:AH}{b:Nat}{s:Ms}{iv qv:AV}{n N:Nat}(hx:HX H H3) (h:WdO H3 H4 b s iv qv n N):WdO H H4 b s iv qv n N:=by
 obtain ⟨v,lv,iv2,qv2,l,kv2,hw,hq,hl,hk⟩:=h;exact ⟨v,lv,iv2,qv2,l,kv2,hw,hq,hl,(KpR.hx hx).trans hk⟩
theorem WdO.hp {H H4:AH}{b:Nat}{s:Ms}{iv qv:AV}{n N:Nat}(h:WdO H H4 b s iv qv n N):HP (fun i=>i≠b/\blkNe iv i/\blkNe qv i) H H4:=by
 obtain ⟨_,_,_,_,_,_,_,_,_,hk⟩:=h;exact hk.hp
def WdP (H H':AH) (b:Nat) (r:AV) (p:Rp×Ms) (iv qv:AV) (n N:Nat):Prop:=RpR H' r p.1 H.next/\WdO H H' b p.2 iv qv n N
set_option maxHeartbeats 32000000 in
theorem zrg1 {H:AH}[hn:HN H]{b:Nat}{s:Ms}{v lv iv qv:AV}{l:List (AV×Rc)}{kv:Kv}{N:Nat}{o:Od}{ov bv:AV}(h:WdR H b s v lv iv qv l kv N) (hq:qv= .nilSl\/kv≠ []) (hd:Bd s.t) (hlN:H.lo<=N) (hkl:kv.length<=99999) (ho:OdIn H o ov bv) (hb:ByS H bv o.b)
  (hsz:∀i,i<s.t.rs.length->1<=(get s.t.rs i).sz/\(get s.t.rs i).sz<=64) (hrs:∀r,r∈s.t.rs-> -1000000<=r.rs/\r.rs<=1000000) :
  FnE lookM 11 [.ptr b 0,odA o ov bv] H fun r H'=> ∃rp,r= .tup [rp,.bool (zhc false s o).2.1]/\WdP H H' b rp ((zhc false s o).1,(zhc false s o).2.2) iv qv kv.length N:=by
 refine fI Tryz.f11 ?_;have hlo:=hn.lo;have hlt:=h.lt;have e01:=hEq_f (oM:H.next≠H.next+1)
 have F:=J4 @zke @zdb @e01 @zuf;refine uT ?_;clear F;refine cR_at (fun H1=>HX H H1/\H1.next=H.next+2/\H1.get H.next=some (odx o ov bv)/\H1.get (H.next+1)=some (rpx 0 .nilSl .nilSl)) ?_ ?_
 ·refine ⟨hxt,rfl,?_,zaa _⟩
  have F:=@e01;exact vT
 rintro H1 ⟨hx1,hn1,g0,g1⟩;haveI:=hx1.hn;refine cR_f (zow (ho.hx hx1)) ?_;rintro r3 H3 ⟨rfl,hx3⟩;have hx03:=hx1.trans hx3;haveI:=hx03.hn;have hlo3:H3.lo=H.lo:=hx03.lo;have hn3:=hx3.next;have g0:=(hx3.get (i:=H.next) oM).trans g0
 have g1:=(hx3.get (i:=H.next+1) oM).trans g1
 have hR:zhc false s o=if ordOk o then
  (if o.op<=8 then ((zyd false s o).1,true,(zyd false s o).2)
   else if o.op=16 then (⟨0, [zqk s o.nm], []⟩,true,s)
   else if 12<=o.op/\o.op<=15 then ((asksM s o).1,true,(asksM s o).2)
   else (er 0,false,s))
  else (er 2,true,s):=rfl
 have same:∀(e:Int) (H5:AH),HX H3 H5->WdP H (H5.put (H.next+1) (rpx e .nilSl .nilSl)) b (rpA e .nilSl .nilSl) (er e,s) iv qv kv.length N:=fun e H5 hx5 =>
  ⟨RpR.err,WdO.same h hq (HX.put (hx03.trans hx5) oM _)⟩
 generalize zhc false s o=res at *
 unfold ordI;cases a1:ordOk o with
 |false =>
  rw [a1] at hR;have hR:res=(er 2,true,s):=hR;subst hR;have d1:decide (¬(2:Int)=0)=true:=dC
  have F:=J7 @d1 @rp_bu @zdb @g1 @rp_w0 @zlb @ld3;refine uI ?_;clear F;exact ⟨_,rfl,same 2 H3 (HX.refl _)⟩
 |true =>
 have hOp:=(zxk o).1 a1;have hnm:=longB_f.1 hOp.nm;have hto:=longB_f.1 hOp.to;have hop1:=hOp.op1;rw [a1,qi rfl] at hR;have d1:decide (¬(0:Int)=0)=false:=dC
 have h3:=h.hx hx03;have rpe:∀e:Int,zsa lookM 37 (zipF [0] [.int .i64 e])=some (rpA e .nilSl .nilSl):=rp_bu
 cases a2:decide (o.op<=8) with
 |true =>
  have y2:=qg a2;rw [qi y2] at hR;subst hR;have F:=J5 @d1 @g0 @od_0 @zuf @a2;refine uI ?_;clear F;refine cR_f (zqg1 h3 hq hd oM hkl oM oM oM y2) ?_
  rintro r5 H5 ⟨rfl,ho5⟩;have hp5:=ho5.hp;haveI:=hp5.hn;have hlo5:H5.lo=H.lo:=hp5.lo.trans hlo3;have g1:=(hp5.get (i:=H.next+1) oM (h.fresh oM)).trans g1
  have F:=J6 @rpe @zdb @g1 @rp_w0 @zlb @ld3;refine uT ?_;clear F;refine ⟨_,rfl,?_,(WdO.pre hx03 ho5).put oM g1 _⟩
  unfold zyd;split<;>exact RpR.err
 |false =>
 have y2:=qh a2;rw [qd y2] at hR;cases a3:decide (o.op<12) with
 |true =>
  have y3:=qg a3;rw [qd oM,qd oM] at hR
  subst hR;have F:=J11 @d1 @g0 @od_0 @a2 @a3 @zhj @zdb @g1 @rp_w0 @zlb @ld3;refine uI ?_;clear F;exact ⟨_,rfl,same 0 H3 (HX.refl _)⟩
 |false =>
 have y3:=qh a3;cases a4:decide (16<o.op) with
 |true =>
  have y4:=qg a4;rw [qd oM,qd oM] at hR
  subst hR;have F:=J12 @d1 @g0 @od_0 @a2 @a3 @a4 @zhj @zdb @g1 @rp_w0 @zlb @ld3;refine uI ?_;clear F;exact ⟨_,rfl,same 0 H3 (HX.refl _)⟩
 |false =>
 have y4:=qh a4;cases a5:decide (o.op=16) with
 |true =>
  have y5:=qg a5;rw [qi y5] at hR;subst hR;have F:=J8 @d1 @g0 @od_0 @od_1 @a2 @a3 @a4 @a5;refine uI ?_;clear F;refine cR_f (zng1 h3 hd hrs oM) ?_
  rintro r5 H5 ⟨rfl,hx5⟩;have hx05:=hx03.trans hx5;haveI:=hx05.hn;have hlo5:H5.lo=H.lo:=hx05.lo;have hn5:=hx5.next;have g1:=(hx5.get (i:=H.next+1) oM).trans g1
  have e1:=hEq_f (oM:H.next+1≠H5.next)
  have F:=J8 @one_q @zcg1 @zdb @g1 @e1 @rp_wN @zlb @ld3;refine uT ?_;clear F;refine ⟨_,rfl,⟨_,_,rfl,?_,OwnS.nil _ _ _ _,fun j hj=>⟨zga oM,zfa _⟩⟩,WdO.same h hq (by have K:=hx05;exact hxk)⟩
  have hr:Row ((H5.new (.cells (.lst [.int .i64 (zqk s o.nm)]) 3 1 false false)).put (H.next+1) (rpx 0 (.sl H5.next 0 1 1 false) .nilSl)) H5.next false false 3 1 [.int .i64 (zqk s o.nm)] :=
   ⟨.lst [.int .i64 (zqk s o.nm)],by rw [zyb _ oM];exact zaa _,rfl⟩
  exact hr.slZ (n:=1) (c:=1) (op':=false) (by show H5.next<H5.next+1;omega) rfl
 |false =>
 have y5:=qh a5;rw [qd y5,qi oM] at hR
 have hvol:= @FnX.p _ _ _ _ (ztk o.nm oM)
 have hsn:= @FnX.p _ _ _ _ (zyn o.nm oM)
 have hl:=fun H'=>hb.len.1 u30 H'
 have F:=J9 @d1 @g0 @od_0 @od_1 @a2 @a3 @a4 @a5 @hvol;refine uI ?_;clear F;have hA:asksM s o=if (o.op=13/\(o.b.length=0\/o.b.length%256≠0))\/(partB o.nm || snapB o.nm)=false then (er 2,s)
   else if hasB o.nm s.t.rs=false then (er 6,s)
   else if o.op=12 then (readM s o (recO s.t o.nm),s) else if o.op=15 then (⟨0, [(usedB (s.b (recO s.t o.nm).id):Int)], []⟩,s) else zlf s o (recO s.t o.nm):=rfl
 generalize asksM s o=ask at *
 refine gR_at (fun T=>gT T 0= .ptr b 0/\gT T 3= .ptr H.next 0/\gT T 4= .ptr (H.next+1) 0/\gT T 41= .bool (!partB o.nm)) ?_ ?_
 ·refine ⟨?_,?_,?_,?_⟩<;>(exact vT0)
 rintro T ⟨t0,t3,t4,t41⟩;refine join4 (x:= !snapB o.nm) (u:=partB o.nm) (C:= ∀T,gT T 0= .ptr b 0->gT T 3= .ptr H.next 0->gT T 4= .ptr (H.next+1) 0->gT T 47= .bool false->gT T 51= .bool (decide (o.op=13))->gR (.bool (decide (o.op=13))) true lookM ?d1 ?b1 ?k1 ?s1 T H3 ?Q1)
  (fun hp hC=> ?_) (fun hp hs hC=> ?_) (fun hp hs=> ?_) ?_
 case refine_1 =>
  have F:=J7 @t0 @t3 @t4 @t41 @hp @g0 @od_0;refine uT ?_;clear F;refine hC _ ?_ ?_ ?_ ?_ ?_<;>(have F:=J3 @t0 @t3 @t4;exact vT)
 case refine_2 =>
  have hs':snapB o.nm=true:=by simpa using hs
  have F:=J10 @t0 @t3 @t4 @t41 @hp @g0 @od_0 @od_1 @hsn @hs';refine uT ?_;clear F;refine hC _ ?_ ?_ ?_ ?_ ?_<;>(have F:=J3 @t0 @t3 @t4;exact vT)
 case refine_3 =>
  have hs':snapB o.nm=false:=by simpa using hs
  rw [qi (.inr (by rw [hp,hs'];rfl))] at hA
  subst hA;subst hR;have F:=J15 @t0 @t3 @t4 @t41 @hp @g0 @g1 @od_1 @hsn @hs' @rp_bu @zdb @rp_w0 @zlb @ld3;refine uT ?_;clear F;exact ⟨_,rfl,same 2 H3 (HX.refl _)⟩
 clear t0 t3 t4 t41;intro hps T t0 t3 t4 t47 t51;have hps':¬(partB o.nm || snapB o.nm)=false:=by
  rcases hps with k|k
  ·have:snapB o.nm=true:=by simpa using k
   rw [this];simp
  ·rw [k];simp
 refine join5 (x:=decide (o.op=13)) (u:=decide ((o.b.length:Int)=0)) (v:=decide (¬((o.b.length:Int)).tmod 256=0)) (C:= ∀T,gT T 0= .ptr b 0->gT T 3= .ptr H.next 0->gT T 4= .ptr (H.next+1) 0->cR false lookM 36 [.ptr b 0,.str o.nm] H3 70 ?k2 ?s2 T ?Q2)
  (fun hx hC=> ?_) (fun hx hu=> ?_) (fun hx hu hv=> ?_) (fun hx hu hv hC=> ?_) ?_
 case refine_1 =>
  have F:=J8 @hx @t0 @t3 @t4 @t47 @t51 @g0 @od_1;refine uT ?_;clear F;refine hC _ ?_ ?_ ?_<;>(have F:=J3 @t0 @t3 @t4;exact vT)
 case refine_2 =>
  rw [qi (.inl ⟨qg hx,.inl (by have:=qg hu;omega)⟩)] at hA
  subst hA;subst hR;have F:=J16 @hx @hu @t0 @t3 @t4 @t47 @t51 @g0 @g1 @od_6 @hl @rp_bu @zdb @rp_w0 @zlb @ld3;refine uT ?_;clear F;exact ⟨_,rfl,same 2 H3 (HX.refl _)⟩
 case refine_3 =>
  rw [qi (.inl ⟨qg hx,.inr fun e=>qg hv (by show ((o.b.length%256:Nat):Int)=0;rw [e];rfl)⟩)] at hA
  subst hA;subst hR;have F:=J16 @hx @hu @hv @t0 @t3 @t4 @t47 @t51 @g0 @g1 @od_6 @hl @rp_bu @zdb @rp_w0 (J2 @zlb @ld3);refine uT ?_;clear F;exact ⟨_,rfl,same 2 H3 (HX.refl _)⟩
 case refine_4 =>
  have F:=J12 @hx @hu @hv @t0 @t3 @t4 @t47 @t51 @g0 @od_6 @od_1 @hl;refine uT ?_;clear F;refine hC _ ?_ ?_ ?_<;>(have F:=J3 @t0 @t3 @t4;exact vT)
 clear t0 t3 t4 t47 t51;intro hodd T t0 t3 t4;have nodd:¬(o.op=13/\(o.b.length=0\/o.b.length%256≠0)):=fun ⟨k1,k2⟩=>by
  obtain ⟨h1,h2⟩:=hodd (qk k1);have h1:=qh h1;have h2:=qh h2;rcases k2 with k|k
  ·exact h1 oM
  ·refine h2 fun e=>k ?_
   have e:((o.b.length%256:Nat):Int)=0:=e;omega
 rw [qd (by rintro (k|k);exact nodd k;exact hps' k)] at hA
 refine cR_f (zfo (nm:=o.nm) h3 hd) ?_;rintro r4 H4 ⟨⟨a4,ha4,rfl⟩,hx4⟩;have hx04:=hx03.trans hx4;haveI:=hx04.hn;have hlo4:H4.lo=H.lo:=hx04.lo;have hn4:=hx4.next;have g0:=(hx4.get (i:=H.next) oM).trans g0
 have g1:=(hx4.get (i:=H.next+1) oM).trans g1
 have hone4:=zbc (a4,recO s.t o.nm) ha4;have e0:=hEq_f (oM:H.next≠H4.next)
 have e1:=hEq_f (oM:H.next+1≠H4.next)
 cases a6:hasB o.nm s.t.rs with
 |false =>
  rw [a6,qi rfl] at hA;subst hA;subst hR;have F:=J13 @t0 @t3 @t4 @zpa @g0 @g1 @e0 @e1 @rp_bu @zdb @rp_w0 @zlb @ld3;refine uT ?_;clear F;exact ⟨_,rfl,RpR.err,WdO.same h hq (by have K:=hx04;exact hxk)⟩
 |true =>
 rw [a6,qd (by simp)] at hA
 have hx44:1<=(recO s.t o.nm).sz/\(recO s.t o.nm).sz<=64:=by rw [zmf a6];exact hsz _ (zza a6).1
 have hon:0<=o.n/\o.n<=maxN:=qg hOp.n;have hom:0<=o.m/\o.m<=maxN:=qg hOp.m;generalize recO s.t o.nm=x at *
 cases a7:decide (o.op=12) with
 |true =>
  rw [qi (qg a7)] at hA;subst hA;subst hR;have F:=J12 @t0 @t3 @t4 @zpa @g0 @g1 @e0 @e1 @od_0 @a7 @zuf @zud;refine uT ?_;clear F;refine cR_at (fun H5=>HX H4 H5) ?_ ?_
  ·exact hxt
  rintro H5 hx5;have hx05:=hx04.trans hx5;haveI:=hx05.hn;refine cR_f (zsb1 (a:=a4) (h.hx hx05) oM hx44 hon hom) ?_
  rintro r6 H6 ⟨hr6,hx6⟩;have hr6':=hr6;obtain ⟨nv,bv6,rfl,z1,z2,z3⟩:=hr6;have hx06:=hx05.trans hx6;haveI:=hx06.hn;have hlo6:H6.lo=H.lo:=hx06.lo;have hn5:=hx5.next;have g1:=((hx5.trans hx6).get (i:=H.next+1) oM).trans g1
  have o1:=zpc z1.is;have o2:=zpc z2.is;have F:=J6 @t4 @zdb @g1 @rp_w @zlb @ld3;refine uT ?_;clear F;exact ⟨_,rfl,(hr6'.put oM _).le oM,WdO.same h hq (HX.put hx06 oM _)⟩
 |false =>
 rw [qd (qh a7)] at hA;have n7:=qh a7;cases a8:decide (o.op=15) with
 |true =>
  rw [qi (qg a8)] at hA;subst hA;subst hR;have F:=J12 @t0 @t3 @t4 @zpa @g0 @g1 @e0 @e1 @od_0 @a7 @a8 @rc_n0;refine uT ?_;clear F;refine cR_at (fun H5=>HX H4 H5) ?_ ?_
  ·exact hxt
  rintro H5 hx5;have hx05:=hx04.trans hx5;haveI:=hx05.hn;have hn5:=hx5.next;refine cR_f (of_ok (h.hx hx05) x.id oM) ?_
  rintro r6 H6 ⟨rfl,hx6⟩;have hx06:=hx05.trans hx6;haveI:=hx06.hn;refine uT0 ?_;refine cR_f (zzk (h.bk x.id)) ?_;rintro r7 H7 ⟨rfl,hx7⟩;have hx07:=hx06.trans hx7;haveI:=hx07.hn;have hlo7:H7.lo=H.lo:=hx07.lo;have hn6:=hx6.next;have hn7:=hx7.next;have g1:=(((hx5.trans hx6).trans hx7).get (i:=H.next+1) oM).trans g1
  have e1:=hEq_f (oM:H.next+1≠H7.next)
  have F:=J9 @t4 @one_q @zcg1 @zdb @g1 @e1 @rp_wN @zlb @ld3;refine uT ?_;clear F;refine ⟨_,rfl,⟨_,_,rfl,?_,OwnS.nil _ _ _ _,fun j hj=>⟨zga oM,zfa _⟩⟩,WdO.same h hq (by have K:=hx07;exact hxk)⟩
  have hr:Row ((H7.new (.cells (.lst [.int .i64 (usedB (s.b x.id):Int)]) 3 1 false false)).put (H.next+1) (rpx 0 (.sl H7.next 0 1 1 false) .nilSl)) H7.next false false 3 1 [.int .i64 (usedB (s.b x.id):Int)] :=
   ⟨.lst [.int .i64 (usedB (s.b x.id):Int)],by rw [zyb _ oM];exact zaa _,rfl⟩
  exact hr.slZ (n:=1) (c:=1) (op':=false) (by show H7.next<H7.next+1;omega) rfl
 |false =>
 have n8:=qh a8;rw [qd n8] at hA;subst hA;subst hR;have F:=J13 @t0 @t3 @t4 @zpa @g0 @g1 @e0 @e1 @od_0 @a7 @a8 @zuf @zud;refine uT ?_;clear F;refine cR_at (fun H5=>HX H4 H5) ?_ ?_
 ·exact hxt
 rintro H5 hx5;have hx05:=hx04.trans hx5;haveI:=hx05.hn;have hn5:=hx5.next;have hlo5:H5.lo=H.lo:=hx05.lo;have h14:o.op=13\/(o.op=14/\o.b= []):=by
  by_cases e:o.op=13
  ·exact .inl e
  ·have e14:o.op=14:=oM
   refine .inr ⟨e14,?_⟩;have:=hOp.u6;rw [e14] at this;rcases this with k|k
   ·exact qk1 oM
   ·exact absurd k dC
 refine cR_f (zpg1 (a:=a4) (h.hx hx05) hq oM hkl (hb.hx hx05) hx44 hon hom ?_ ?_ h14) ?_
 ·have:=hOp.b;omega
 ·rcases h14 with e|⟨_,e⟩
  ·by_cases e2:o.b.length%256=0
   ·exact e2
   ·exact absurd ⟨e,.inr e2⟩ nodd
  ·rw [e];rfl
 rintro r6 H6 ⟨rfl,ho6⟩;have hp6:=ho6.hp;haveI:=hp6.hn;have hlo6:H6.lo=H.lo:=hp6.lo.trans hlo5;have g1:=(hp6.get (i:=H.next+1) oM (h.fresh oM)).trans ((hx5.get oM).trans g1)
 have F:=J7 @t4 @rpe @zdb @g1 @rp_w0 @zlb @ld3;refine uT ?_;clear F;refine ⟨_,rfl,?_,(WdO.pre hx05 ho6).put oM g1 _⟩
 have:(zlf s o x).1=er (zlf s o x).1.err:=by
  unfold zlf;simp only
  repeat' split
  all_goals rfl
 rw [this];exact RpR.err
theorem w_bu (nn:Int) (i:Nat) (op:Bool):zsa lookM 56 (zipF [0] [tbA nn .nilSl (.sl i 0 2 2 op)])=some (.agg (wdL nn .nilSl (.sl i 0 2 2 op) .nilSl .nilSl)):=kR
theorem wd_toC (nn:Int) (v lv iv qv:AV):AV.toC (.agg (wdL nn v lv iv qv))= .lst (wdL nn v lv iv qv):=rfl
theorem wnew_ok {H:AH}[hn:HN H]:FnE lookM 6 [] H fun r H'=>(∃b lv,r= .ptr b 0/\H.next<=b/\WdR H' b M0 .nilSl lv .nilSl .nilSl [] [] H.next)/\HX H H':=by
 refine fI Tryz.f6 ?_;have hlo:=hn.lo;refine uT0 ?_;refine cR_f dnew_ok ?_;rintro r1 H1 ⟨lv,rfl,hl1,hx1⟩;haveI:=hx1.hn;have hn1:=hx1.next;have hlo1:H1.lo<=H1.next:=HN.lo;have o2:=zbb (nn:=1) (v:=.nilSl) (lv:=lv) rfl hl1.one.1;have hl1':=hl1;obtain ⟨j,op,rfl,_⟩:=hl1';have F:=J6 @zba @zcb @zha @zea @w_bu @wd_toC;refine uT ?_;have hx2:HX H1 (((H1.new (tbx 0 .nilSl .nilSl)).put H1.next (tbx 1 .nilSl (.sl j 0 2 2 op)))):=hxt;haveI:=hx2.hn;have hx3:HX (((H1.new (tbx 0 .nilSl .nilSl)).put H1.next (tbx 1 .nilSl (.sl j 0 2 2 op)))) (((H1.new (tbx 0 .nilSl .nilSl)).put H1.next (tbx 1 .nilSl (.sl j 0 2 2 op))).new (wdx 1 .nilSl (.sl j 0 2 2 op) .nilSl .nilSl)):=HX.new _ _
 have hxx:=hx2.trans hx3;refine ⟨⟨H1.next+1,.sl j 0 2 2 op,rfl,oM,⟨qd1 _,oM,zaa _,⟨⟨.inl ⟨rfl,rfl⟩,fun p hp=>(by cases hp)⟩,rfl,hl1.hx hxx⟩,OwnS.nil _ _ _ _,.inl ⟨rfl,rfl⟩,fun k=>rfl,fun p hp=>(by cases hp),List.nodup_nil⟩⟩,hx1.trans hxx⟩
end HS
namespace HS.Md
open Go
def Pr (r:Rc):Prop:=r.nm.size<=100/\0<=r.rs/\r.rs<=64
structure Gd (t:Tb):Prop where
 len:t.rs.length<=17
 nx:0<=t.nx/\t.nx<=2147483649
 all:∀r,r∈t.rs->Pr r
theorem gd0:Gd M0.t:=⟨by show 0<=17;decide,⟨by show (0:Int)<=1;decide,by show (1:Int)<=2147483649;decide⟩,fun r h=>by cases h⟩
theorem pr0:Pr Rc0:=⟨qo2 _,Int.le_refl _,dC⟩
theorem pr_get {l:List Rc}(h:∀r,r∈l->Pr r) (i:Nat):Pr (get l i):=by
 by_cases hi:i<l.length
 ·exact h _ (qy.2 ⟨i,get_lt hi⟩)
 ·have:get l i=Rc0:=by unfold get;rw [ql6,qk2 oM];rfl
  rw [this];exact pr0
theorem zck1 (x:Rc) (l:List Rc):(layL x l).length<=l.length+1:=by
 unfold layL;rw [qr,ql2,qa1,qb2];omega
theorem zvb1:∀(l out:List Rc),(l.foldl (fun out x=>layL x out) out).length<=l.length+out.length
 | [],out=>by simp
 |x::l,out=>by
  have h1:=zvb1 l (layL x out);have h2:=zck1 x out;rw [qr6,ql2];omega
theorem zhp1 (l:List Rc):(sortL l).length<=l.length:=by
 have h:=zvb1 l [];rw [qt5,qx4] at h;exact h
theorem zzn (a b:ByteArray):(joinB a b).size<=41:=by
 unfold joinB;split
 ·next h =>
  rw [qm] at h;unfold partB at h;simp only [qm,qs] at h;rw [qn4,qn4];have:sign.size=1:=rfl;omega
 ·exact qo2 _
theorem zip1 {t:Tb}(h:Gd t) (hk:Ok t){x:Rc}(hx:Pr x):Gd (putT t x):=by
 refine ⟨?_,?_,fun r hr=> ?_⟩
 ·have:=zck1 {x with id:=t.nx} t.rs
  have:=hk.len;show (layL _ _).length<=17
  omega
 ·have:=hk.nx
  show 0<=t.nx+1/\t.nx+1<=2147483649
  omega
 ·rcases zmz hr with e|e
  ·rw [e];exact hx
  ·exact h.all _ e
theorem gd_set {t:Tb}(h:Gd t){i:Nat}{x:Rc}(hx:Pr x):Gd ⟨t.nx,t.rs.set i x⟩ :=
 ⟨by show (t.rs.set i x).length<=17;rw [qj2];exact h.len,h.nx,fun r hr=>(qu6 hr).elim (h.all r) fun e=>e▸hx⟩
theorem zru {t t':Tb}{s:ByteArray}{fine:Bool}{f:Rc->Rc}{z:Int}(h:Gd t) (hf:∀x,fine=true->Pr x->Pr (f x)) (hc:zsd t s fine f=(some t',z)):Gd t':=by
 unfold zsd at hc;obtain ⟨c1,hc⟩:=zya hc;obtain ⟨c2,hc⟩:=zya hc;obtain ⟨c3,hc⟩:=zgg hc;simp only [qm] at c1;have:=zcd hc;subst this;exact gd_set h (hf _ c1.2.1 (pr_get h.all _))
theorem gd_chg {t t':Tb}{o:Od}{z:Int}(h:Gd t) (hs:o.nm.size<=48) (hto:o.to.size<=48) (hc:chgT t o=(some t',z)):Gd t':=by
 have nmok:∀x:Rc,x.nm.size<=48->x.rs=0->Pr x:=fun x h1 h2=>⟨oM,oM,oM⟩
 unfold chgT at hc;split at hc
 ·unfold makeT at hc
  obtain ⟨c1,hc⟩:=zya hc;obtain ⟨c2,hc⟩:=zya hc;simp only [qm] at c1;have:=zcd hc;subst this;exact zip1 h (checkB_ok.1 c1.1) (nmok _ hs rfl)
 split at hc
 ·unfold snapT at hc
  obtain ⟨c1,hc⟩:=zya hc;obtain ⟨c2,hc⟩:=zya hc;obtain ⟨c3,hc⟩:=zya hc;simp only [qm] at c1;have:=zcd hc;subst this;exact zip1 h (checkB_ok.1 c1.1) (nmok _ hs rfl)
 split at hc
 ·unfold zsn at hc
  obtain ⟨c1,hc⟩:=zya hc;obtain ⟨c2,hc⟩:=zya hc;obtain ⟨c3,hc⟩:=zya hc;simp only [qm] at c1;have:=zcd hc;subst this;exact zip1 h (checkB_ok.1 c1.1) (nmok _ hto rfl)
 split at hc
 ·unfold rollT at hc
  obtain ⟨c1,hc⟩:=zya hc;obtain ⟨c2,hc⟩:=zya hc;obtain ⟨c3,hc⟩:=zgg hc;have:=zcd hc;subst this;unfold setSz;exact gd_set h (pr_get h.all _)
 split at hc
 ·unfold dropT at hc
  obtain ⟨c1,hc⟩:=zya hc;obtain ⟨c2,hc⟩:=zya hc;obtain ⟨c3,hc⟩:=zgg hc;have:=zcd hc;subst this;refine ⟨qx2 (List.length_eraseIdx_le _ _) h.len,h.nx,fun r hr=>h.all r (List.mem_of_mem_eraseIdx hr)⟩
 split at hc
 ·unfold renT at hc
  obtain ⟨c1,hc⟩:=zya hc;obtain ⟨c2,hc⟩:=zya hc;obtain ⟨c3,hc⟩:=zgg hc;have:=zcd hc;subst this;refine ⟨?_,h.nx,fun r hr=> ?_⟩
  ·have h1:=zhp1 (t.rs.map (ren o.nm o.to))
   rw [qm3] at h1;have:=h.len;show (sortL _).length<=17
   omega
  ·obtain ⟨y,hy,e⟩:=qy2.1 (ztn hr)
   have hp:=h.all y hy;rw [← e];unfold ren;split
   ·exact ⟨by show o.to.size<=100;omega,hp.2⟩
   ·split
    ·exact ⟨by have:=zzn o.to (splB y.nm);show (joinB o.to (splB y.nm)).size<=100;omega,hp.2⟩
    ·exact hp
 split at hc
 ·unfold sizeT at hc
  exact zru (f:=fun x=> {x with sz:=o.n}) h (fun x _ hx=>⟨hx.1,hx.2⟩) hc
 ·unfold limT at hc
  refine zru (f:=fun x=> {x with qu:=o.n,rs:=o.m}) h (fun x hf hx=>⟨hx.1,?_⟩) hc
  rw [qm] at hf;exact qg hf.2
theorem zjp1 {s:Ms}{o:Od}(h:Gd s.t) (del:Bool) (hs:ordOk o=true->o.nm.size<=48/\o.to.size<=48):Gd (zhc del s o).2.2.t:=by
 unfold zhc;split
 ·next hok =>
  split
  ·show Gd (zyd del s o).2.t
   unfold zyd;cases hc:chgT s.t o with
   |mk r z =>
    cases r with
    |none=>exact h
    |some t=>exact gd_chg h (hs hok).1 (hs hok).2 hc
  ·split
   ·exact h
   ·split
    ·show Gd (asksM s o).2.t
     unfold asksM;split
     ·exact h
     split
     ·exact h
     simp only;split
     ·exact h
     split
     ·exact h
     unfold zlf;simp only
     repeat' split
     all_goals exact h
    ·exact h
 ·exact h
end HS.Md
namespace HS
set_option maxRecDepth 100000
end HS
