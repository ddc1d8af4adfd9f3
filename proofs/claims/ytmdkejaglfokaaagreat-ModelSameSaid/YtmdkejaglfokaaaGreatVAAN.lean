import Derived.Test.YtmdkejaglfokaaaGreatVAAH
import Derived.Test.YtmdkejaglfokaaaGreatVAAM
import Derived.Test.YtmdkejaglfokaaaGreatVAAG
import Derived.Test.YtmdkejaglfokaaaGreatVAAF
import Derived.WalkKit
import Derived.ProofKit
import Derived.OpenShut
import Derived.ShutString
import Derived.ChangeOld
import Derived.Below
import Derived.Deep.Slices
import Derived.Deep.Strs
import Derived.Deep.Fields
set_option maxHeartbeats 8000000
set_option linter.unusedSimpArgs false
set_option linter.unusedVariables false
open Go Go.Ev Go.Proofs Go.RowKit
namespace HS
set_option maxRecDepth 100000
open HS.Md
theorem slb_2 {i k n c o j:Nat}{op:Bool}(h:i<c) (h2:i<=k) (hk:k<=c):zxa lookM 30 true true false [.sl j o n c op,.int .i64 (i:Int),.int .i64 (k:Int)]=some (.sl j (o+i) (k - i) (c - i) op):=by
 show zfb lookM 30 (.sl j o n c op) (some (.int .i64 (i:Int))) (some (.int .i64 (k:Int))) none=_
 unfold zfb;rw [u30];show (match lookM.size 5 with|none=>none|some z=>(match some k with
    |none=>none
    |some h=>match Nat.ble i h && Nat.ble h c with
      |true=>(match op with
       |false=>some (AV.sl j (offOf c i o z) (h - i) (c - i) false)
       |true=>match Nat.beq c i with
        |true=>(match Nat.beq o 0 with|true=>some (.ext 1 j (c*z+1))|false=>none)
        |false=>some (.sl j (o+i*z) (h - i) (c - i) true))
      |false=>none))=_
 rw [s5];have e1:Nat.beq c i=false:=by rw [qf3];intro h';have:=qi h';omega
 simp only;rw [show Nat.ble i k=true from qh h2,show Nat.ble k c=true from qh hk]
 unfold offOf;simp only [qp2,e1,qx4];cases op<;>rfl
theorem zjg1 {B:Bk}{a:Nat}{x y:List Nat}(h:a+x.length<=B.length) (hl:x.length=y.length):putB (putB B a x) a y=putB B a y:=by
 unfold putB;have e1:(B.take a).length=a:=by rw [qd1];omega
 have e2:(B.take a ++ x).length=a+y.length:=by rw [qy,e1,hl]
 rw [qg1 (B.take a) x,qp7 e1,← qg1,← hl,show a+x.length=a+y.length from oM,qe6 e2]
def WdO (H H':AH) (b:Nat) (s':Ms) (iv qv:AV) (n N:Nat):Prop:= ∃v lv iv2 qv2 l kv2,WdR H' b s' v lv iv2 qv2 l kv2 N/\(qv2= .nilSl\/kv2≠ [])/\kv2.length<=n+1/\KpR H H' b iv qv iv2 qv2
theorem WdO.same {H H':AH}{b:Nat}{s:Ms}{v lv iv qv:AV}{l:List (AV×Rc)}{kv:Kv}{N:Nat}(h:WdR H b s v lv iv qv l kv N) (hq:qv= .nilSl\/kv≠ []) (hx:HX H H'):WdO H H' b s iv qv kv.length N:=⟨v,lv,iv,qv,l,kv,h.hx hx,hq,oM,KpR.hx hx⟩
set_option maxHeartbeats 32000000 in
theorem zkg1 {H:AH}[hn:HN H]{b:Nat}{s:Ms}{v lv iv qv:AV}{l:List (AV×Rc)}{kv:Kv}{N:Nat}{o:Od}{ov bv a:AV}{x:Rc}(h:WdR H b s v lv iv qv l kv N) (hq:qv= .nilSl\/kv≠ []) (hlN:H.lo<=N) (hkl:kv.length<=99999) (hb:ByS H bv o.b) (hsz:1<=x.sz/\x.sz<=64)
  (hon:0<=o.n/\o.n<=maxN) (hom:0<=o.m/\o.m<=maxN) (hl:o.b.length<=16384) (hm:o.b.length%256=0) (hop:o.op=13\/(o.op=14/\o.b= [])) :
  FnE lookM 40 [.ptr b 0,odA o ov bv,.agg (rcL (a,x))] H fun r H'=>r= .int .i64 (zuf s o x).1.err/\WdO H H' b (zuf s o x).2 iv qv kv.length N:=by
 refine fJ Tryz.f40 o40 ?_;have hlo:=hn.lo;have hlt:=h.lt;have hnb:=h.nb;unfold maxN at hon hom;have e01:=hEq_f (oM:H.next≠H.next+1)
 have hW:zuf s o x=if x.kd=2 then (er 18,s) else if o.n>toW o\/toW o>x.sz then (er 5,s) else
  if o.op=13/\usedB (putB (cutK (s.b x.id) o.n.toNat ((toW o).toNat - o.n.toNat)) (256*o.n.toNat) o.b)>usedB (s.b x.id)/\x.qu>0/\(usedB (putB (cutK (s.b x.id) o.n.toNat ((toW o).toNat - o.n.toNat)) (256*o.n.toNat) o.b):Int)>x.qu then (er 16,s) else (er 0,⟨s.t,setK s.b x.id (putB (cutK (s.b x.id) o.n.toNat ((toW o).toNat - o.n.toNat)) (256*o.n.toNat) o.b)⟩):=rfl
 generalize zuf s o x=res at *
 cases a1:decide (x.kd=2) with
 |true =>
  rw [qj (qe a1)] at hW;subst hW;have F:=J5 @zvf @zra @e01 @rc_n2 @a1;refine uT ?_;clear F;exact ⟨rfl,WdO.same h hq (hxt)⟩
 |false =>
 rw [qg (qf a1)] at hW;have F:=J6 @zvf @zra @e01 @rc_n2 @rc_n0 @a1;refine uT ?_;clear F;refine cR_at (fun H1=>HX H H1/\H1.next=H.next+2/\H1.get H.next=some (odx o ov bv)/\H1.get (H.next+1)=some (.cells (.lst (rcL (a,x))) 84 44 false false)) ?_ ?_
 ·refine ⟨hxt,rfl,?_,zaa _⟩
  have F:=@e01;exact vT
 rintro H1 ⟨hx1,hn1,g0,g1⟩;haveI:=hx1.hn;refine cR_f (of_ok (h.hx hx1) x.id oM) ?_
 rintro r2 H2 ⟨rfl,hx2⟩;have hx02:=hx1.trans hx2;haveI:=hx02.hn;have hlo2:H2.lo=H.lo:=hx02.lo;have hn2:=hx2.next;have g0:=(hx2.get (i:=H.next) oM).trans g0
 have g1:=(hx2.get (i:=H.next+1) oM).trans g1
 have hB:=h.bk x.id;have hw:=fun i e op H=>wbk0 i e op H hB
 have hba:=znl hB;have e0:=hEq_f (oM:H.next≠H2.next)
 have e1:=hEq_f (oM:H.next+1≠H2.next)
 have F:=J4 @z91 @zfd @hw @hba;refine uT ?_;clear F;refine cR_at (fun H3=>HX H2 H3/\H3.next=H2.next+1/\H3.get H2.next=some (.cells (bkC (s.b x.id)) 91 16384 false false)) ?_ ?_
 ·exact ⟨hxt,rfl,zfa _ _⟩
 rintro H3 ⟨hx3,hn3,g2⟩;have hx03:=hx02.trans hx3;haveI:=hx03.hn;refine cR_f (zel hB) ?_;rintro r4 H4 ⟨rfl,hx4⟩;have hx04:=hx03.trans hx4;have hx24:=hx3.trans hx4;haveI:=hx04.hn;have hlo4:H4.lo=H.lo:=hx04.lo;have hn4:=hx4.next;have g0:=(hx24.get (i:=H.next) oM).trans g0
 have g1:=(hx24.get (i:=H.next+1) oM).trans g1
 have g2:=(hx4.get (i:=H2.next) oM).trans g2
 have F:=J2 @g0 @od_0;refine uT ?_;clear F;refine bR_at (fun T H5=>H5=H4/\gT T 0= .ptr b 0/\gT T 4= .ptr H.next 0/\gT T 5= .ptr (H.next+1) 0/\gT T 7= .ptr H2.next 0/\gT T 8= .int .i64 (usedB (s.b x.id):Nat)) ?_ ?_
 ·refine ⟨rfl,?_,?_,?_,?_,?_⟩<;>(exact vT0)
 rintro T H5 ⟨rfl,t0,t4,t5,t7,t8⟩;have h5:=h.hx hx04;rcases hop with hop|⟨hop,hob⟩
 ·have a2:decide (o.op=14)=false:=qp oM
  have hto:toW o=o.n+((o.b.length / 256:Nat):Int):=by unfold toW;rw [qj hop]
  rw [hto] at hW;have hln:=fun H'=>hb.len.1 u30 H'
  have hqt:((o.b.length:Int)).tdiv 256=((o.b.length / 256:Nat):Int):=rfl;cases b1:decide (x.sz<o.n) with
  |true =>
   have y1:=qe b1;rw [qj (.inr oM)] at hW
   subst hW;have F:=J14 @a2 @t0 @t4 @t5 @t7 @t8 @g0 @g1 @od_6 @od_3 @rc_n3 @hln @hqt @b1;refine uT ?_;clear F;exact ⟨rfl,WdO.same h hq (by have K:=hx04;exact hxk)⟩
  |false =>
  have y1:=qf b1;cases b2:decide (x.sz - o.n<((o.b.length / 256:Nat):Int)) with
  |true =>
   have y2:=qe b2;rw [qj (.inr oM)] at hW
   subst hW;have F:=J15 @a2 @t0 @t4 @t5 @t7 @t8 @g0 @g1 @od_6 @od_3 @rc_n3 @hln @hqt @b1 @b2;refine uT ?_;clear F;exact ⟨rfl,WdO.same h hq (by have K:=hx04;exact hxk)⟩
  |false =>
  have y2:=qf b2;rw [qg (by rintro (k|k)<;>omega)] at hW
  obtain ⟨n,hn0⟩:∃n:Nat,o.n=(n:Int):=⟨o.n.toNat,oM⟩
  have od3:nth (odL o ov bv) 3=some (.int .i64 (n:Int)):=by rw [od_3,hn0]
  have hnx:putB (cutK (s.b x.id) o.n.toNat ((o.n+((o.b.length / 256:Nat):Int)).toNat - o.n.toNat)) (256*o.n.toNat) o.b=putB (s.b x.id) (256*n) o.b:=by
   rw [hn0,qg2,show ((n:Int)+((o.b.length / 256:Nat):Int)).toNat - n=o.b.length / 256 from oM]
   unfold cutK;exact zjg1 (by rw [qh3,hB.len];omega) (by rw [qh3];omega)
  rw [hnx] at hW;have F:=J15 @a2 @t0 @t4 @t5 @t7 @t8 @g0 @g1 @od_6 @od_3 @rc_n3 @hln @hqt @b1 @b2;refine uT ?_;clear F;refine rc_j o40 (fun m T H'=> ∃q,m+q=o.b.length / 256/\HX H H'/\H2.next+1<=H'.next/\H'.get H.next=some (odx o ov bv)/\H'.get (H.next+1)=some (.cells (.lst (rcL (a,x))) 84 44 false false) /\
   H'.get H2.next=some (.cells (bkC (putB (s.b x.id) (256*n) (o.b.take (256*q)))) 91 16384 false false)/\gT T 0= .ptr b 0/\gT T 4= .ptr H.next 0/\gT T 5= .ptr (H.next+1) 0/\gT T 7= .ptr H2.next 0 /\
   gT T 8= .int .i64 (usedB (s.b x.id):Nat)/\gT T 9= .int .i64 ((o.b.length / 256:Nat):Int)/\gT T 10= .int .i64 q) (o.b.length / 256) ?_ ?_
  ·refine ⟨0,rfl,hx04,oM,g0,g1,?_,by have F:=@t0;exact vT,by have F:=@t4;exact vT,by have F:=@t5;exact vT,by have F:=@t7;exact vT,by have F:=@t8;exact vT,vT0,by refine uT0 ?_;rfl⟩
   have:putB (s.b x.id) (256*n) (o.b.take (256*0))=s.b x.id:=by unfold putB;simp
   rw [this];exact g2
  clear g0 g1 g2 t0 t4 t5 t7 t8;rintro m T6 H6 ⟨q,hmq,hx6,hn6,g0,g1,g2,t0,t4,t5,t7,t8,t9,t10⟩;haveI:=hx6.hn;have hlo6:H6.lo=H.lo:=hx6.lo;have hBq:BkOk (putB (s.b x.id) (256*n) (o.b.take (256*q))):=zpu hB (hb.byt.take _) (by rw [qd1];omega)
  cases m with
  |zero =>
   have hqe:q=o.b.length / 256:=oM
   have d1:decide ((q:Int)<((o.b.length / 256:Nat):Int))=false:=qp oM
   rw [qx oM] at hBq g2
   generalize putB (s.b x.id) (256*n) o.b=D at *
   have hda:=znl hBq;have F:=J10 @t0 @t4 @t5 @t7 @t8 @t9 @t10 @d1 @g2 @hda;refine uT ?_;clear F;refine cR_f (zel hBq) ?_;rintro r7 H7 ⟨rfl,hx7⟩;have hx07:=hx6.trans hx7;haveI:=hx07.hn;have hlo7:H7.lo=H.lo:=hx07.lo;have hn7:=hx7.next;have g1:=(hx7.get (i:=H.next+1) oM).trans g1
   have g2:=(hx7.get (i:=H2.next) oM).trans g2
   cases c1:decide ((usedB (s.b x.id):Int)<(usedB D:Int)) with
   |false =>
    have z1:=qf c1;rw [qg (fun k=>by have:=k.2.1;omega)] at hW
    subst hW;have F:=J9 @t0 @t5 @t7 @t8 @c1 @g1 @g2 @hda @rc_n0;refine uT ?_;clear F;refine cR_f (zci (h.hx hx07) hq x.id hBq oM oM) ?_
    rintro r8 H8 ⟨iv2,qv2,hw8,hq8,hk8⟩;refine uT0 ?_;exact ⟨rfl,v,lv,iv2,qv2,l,_,hw8,hq8,zjm,(KpR.hx hx07).trans hk8⟩
   |true =>
   have z1:=qe c1;cases c2:decide (0<x.qu) with
   |false =>
    have z2:=qf c2;rw [qg (fun k=>by have:=k.2.2.1;omega)] at hW
    subst hW;have F:=J11 @t0 @t5 @t7 @t8 @c1 @c2 @g1 @g2 @hda @rc_n0 @zaf;refine uT ?_;clear F;refine cR_f (zci (h.hx hx07) hq x.id hBq oM oM) ?_
    rintro r8 H8 ⟨iv2,qv2,hw8,hq8,hk8⟩;refine uT0 ?_;exact ⟨rfl,v,lv,iv2,qv2,l,_,hw8,hq8,zjm,(KpR.hx hx07).trans hk8⟩
   |true =>
   have z2:=qe c2;have F:=J11 @t0 @t5 @t7 @t8 @c1 @c2 @g1 @g2 @hda @rc_n0 @zaf;refine uT ?_;clear F;refine rk_cw (js:= [H.next+1]) (R:=fun r H'=>r= .int .i64 (usedB D:Nat)/\HX H7 H') ?_ ?_ ?_
   ·rw [zsc]
    refine zga (o:=42) ?_ zza<;>(exact vT0)
   ·refine uT0 ?_
    exact zel hBq
   rintro r8 H8 ⟨rfl,hx8⟩;refine ⟨zcb hx8 _ fun i hi=> ?_,?_⟩
   ·simp only [qn1] at hi
    subst hi;exact ⟨oM,_,_,_,_,_,g1⟩
   have hx08:=hx07.trans hx8;haveI:=hx08.hn;have hlo8:H8.lo=H.lo:=hx08.lo;have hn8:=hx8.next;have g1:=(hx8.get (i:=H.next+1) oM).trans g1
   have g2:=(hx8.get (i:=H2.next) oM).trans g2
   cases c3:decide (x.qu<(usedB D:Int)) with
   |false =>
    have z3:=qf c3;rw [qg (fun k=>by have:=k.2.2.2;omega)] at hW
    subst hW;have F:=J11 @zhd @t0 @t5 @t7 @t8 @c3 @g1 @g2 @hda @rc_n0 @zaf;refine uT ?_;clear F;refine cR_f (zci (h.hx hx08) hq x.id hBq oM oM) ?_
    rintro r9 H9 ⟨iv2,qv2,hw9,hq9,hk9⟩;refine uT0 ?_;exact ⟨rfl,v,lv,iv2,qv2,l,_,hw9,hq9,zjm,(KpR.hx hx08).trans hk9⟩
   |true =>
    have z3:=qe c3;rw [qj ⟨hop,oM,oM,oM⟩] at hW
    subst hW;have F:=J11 @zhd @t0 @t5 @t7 @t8 @c3 @g1 @g2 @hda @rc_n0 @zaf;refine uT ?_;clear F;exact ⟨rfl,WdO.same h hq hx08⟩
  |succ m =>
   have hqlt:q<o.b.length / 256:=oM
   have d1:decide ((q:Int)<((o.b.length / 256:Nat):Int))=true:=qo oM
   have hb6:=hb.hx hx6;rcases hb6 with ⟨he,_⟩|⟨j,bo,c,op,full,e,z,op',ro,rfl,hj,hg,hful,ho,hlb,hc⟩
   ·rw [he] at hqlt;simp at hqlt
   have s2:=slb_2 (i:=256*q) (k:=256*q+256) (n:=o.b.length) (c:=c) (o:=bo) (j:=j) (op:=op) oM oM oM
   have e256:256*q+256 - 256*q=256:=oM
   rw [e256] at s2;have hix:=ixA_n (n:=64) (z:=256) (i:=H2.next) (o:=0) (k:=n+q) oM
   have hcast:((n:Int)+(q:Int))=((n+q:Nat):Int):=by push_cast;rfl
   have hc1:(q:Int)*256=((256*q:Nat):Int):=by push_cast;omega
   have hc2:((q:Int)+1)*256=((256*q+256:Nat):Int):=by push_cast;omega
   have hcp:=copyB hBq (k:=n+q) oM g2 oM (c:=c - 256*q) (op2:=op) (o:=bo+256*q) hg hful oM
   have F:=J16 @t0 @t4 @t5 @t7 @t8 @t9 @t10 @d1 @g0 @od3 @od_6 @hcast @hix @sl89 @hc1 (J3 @hc2 @s2 @hcp);refine uT ?_;clear F;have hq1:o.b.take (256*(q+1))=o.b.take (256*q) ++ (full.drop (bo+256*q)).take 256:=by
    rw [show 256*(q+1)=256*q+256 from oM,qt7,← hlb]
    congr 1
    rw [qf7,qk3,qj5,qs3 oM]
   have htl:(o.b.take (256*q)).length=256*q:=by rw [qd1];omega
   have hq2:putB (putB (s.b x.id) (256*n) (o.b.take (256*q))) (256*(n+q)) ((full.drop (bo+256*q)).take 256)=putB (s.b x.id) (256*n) (o.b.take (256*(q+1))):=by
    rw [hq1,← zkb1 (by rw [htl,hB.len];omega),htl,qr7]
   refine ⟨m,oM,q+1,oM,HX.put hx6 oM _,hn6,g1,?_,by push_cast;rfl⟩
   rw [hq2]
 ·have a2:decide (o.op=14)=true:=qo hop
  have hto:toW o=o.m:=by unfold toW;rw [qg oM]
  rw [hto,hob] at hW;cases b1:decide (o.m<o.n) with
  |true =>
   have y1:=qe b1;rw [qj (.inl oM)] at hW
   subst hW;have F:=J12 @a2 @t0 @t4 @t5 @t7 @t8 @g0 @g1 @od_3 @od_4 @rc_n3 @b1;refine uT ?_;clear F;exact ⟨rfl,WdO.same h hq (by have K:=hx04;exact hxk)⟩
  |false =>
  have y1:=qf b1;cases b2:decide (x.sz<o.m) with
  |true =>
   have y2:=qe b2;rw [qj (.inr oM)] at hW
   subst hW;have F:=J13 @a2 @t0 @t4 @t5 @t7 @t8 @g0 @g1 @od_3 @od_4 @rc_n3 @b1 @b2;refine uT ?_;clear F;exact ⟨rfl,WdO.same h hq (by have K:=hx04;exact hxk)⟩
  |false =>
  have y2:=qf b2;rw [qg (by rintro (k|k)<;>omega),qg (by rintro ⟨k,_⟩;omega)] at hW
  obtain ⟨n,hn0⟩:∃n:Nat,o.n=(n:Int):=⟨o.n.toNat,oM⟩
  obtain ⟨m,hm0⟩:∃m:Nat,o.m=(m:Int):=⟨o.m.toNat,oM⟩
  have od3:nth (odL o ov bv) 3=some (.int .i64 (n:Int)):=by rw [od_3,hn0]
  have od4:nth (odL o ov bv) 4=some (.int .i64 (m:Int)):=by rw [od_4,hm0]
  rw [hn0,hm0] at b1;rw [hm0] at b2;rw [hn0,hm0,qg2,qg2,show ∀C,putB C (256*n) []=C from fun C=>by unfold putB;simp] at hW
  subst hW;have F:=J16 @a2 @t0 @t4 @t5 @t7 @t8 @g0 @g1 @g2 @hba @od3 @od4 @rc_n3 @rc_n0 @b1 @b2;refine uT ?_;clear F;refine rk_cw (js:= [H.next+1]) (R:=fun r H'=>r=bkA (cutK (s.b x.id) n (m - n))/\HX H5 H') ?_ ?_ ?_
  ·rw [zsc]
   refine zga (o:=0) ?_ zza<;>(exact vT0)
  ·refine uT0 ?_
   exact zpb1 hB oM oM
  rintro r6 H6 ⟨rfl,hx6⟩;refine ⟨zcb hx6 _ fun i hi=> ?_,?_⟩
  ·simp only [qn1] at hi
   subst hi;exact ⟨oM,_,_,_,_,_,g1⟩
  have hx06:=hx04.trans hx6;haveI:=hx06.hn;have hlo6:H6.lo=H.lo:=hx06.lo;have F:=@zhd;refine uT ?_;clear F;refine cR_f (zci (h.hx hx06) hq x.id (zaj hB (f:=n) (t:=m) oM) oM oM) ?_
  rintro r7 H7 ⟨iv2,qv2,hw7,hq7,hk7⟩;refine uT0 ?_;exact ⟨rfl,v,lv,iv2,qv2,l,_,hw7,hq7,zjm,(KpR.hx hx06).trans hk7⟩
theorem wd_w {nn n2:Int}{v lv iv qv v2 l2:AV}{i e:Nat}{op:Bool}{H:AH}(ho:(tbL n2 v2 l2).all AV.oneCell=true):wrN (some (.cells (.lst (wdL nn v lv iv qv)) e 9 op false)) i 0 7 (.lst (tbL n2 v2 l2)) H=some (H.put i (.cells (.lst (wdL n2 v2 l2 iv qv)) e 9 op false)):=wrN_p rfl ho (by show 0+7<=9;decide)
set_option maxHeartbeats 32000000 in
theorem zlg1 {H:AH}[hn:HN H]{b:Nat}{s:Ms}{v lv iv qv:AV}{l:List (AV×Rc)}{kv:Kv}{N:Nat}{o:Od}{ov bv:AV}(h:WdR H b s v lv iv qv l kv N) (hq:qv= .nilSl\/kv≠ []) (hd:Bd s.t) (hlN:H.lo<=N) (hkl:kv.length<=99999) (hs:o.nm.size<=100000) (hto:o.to.size<=100000)
  (hop:1<=o.op) (hop2:o.op<=8) :
  FnE lookM 32 [.ptr b 0,odA o ov bv] H fun r H'=>r= .int .i64 (zie false s o).1.err/\WdO H H' b (zie false s o).2 iv qv kv.length N:=by
 refine fJ Tryz.f32 o32 ?_;have hlo:=hn.lo;have hlt:=h.lt;have hnb:=h.nb;have hb:=h.box;have hsp:= @FnX.p _ _ _ _ (zre o.nm oM)
 have eb0:=hEq_f (oM:b≠H.next)
 have o2:=zbb (nn:=s.t.nx) (v:=v) (lv:=lv) (RdD.one h.tb.rd) (LvD.one h.tb.lv).1;have e01:=hEq_f (oM:H.next≠H.next+1)
 have F:=J9 @zvf @hb @wd_t @eb0 @zdb @zba @zha @e01 @zgh;refine uT ?_;refine cR_at (fun H1=>HX H H1/\H1.next=H.next+2/\H1.get H.next=some (odx o ov bv)/\H1.get (H.next+1)=some (tbx s.t.nx v lv)) ?_ ?_
 ·refine ⟨hxt,rfl,?_,zfa _ _⟩
  have F:=@e01;exact vT
 rintro H1 ⟨hx1,hn1,g0,g1⟩;haveI:=hx1.hn;refine cR_f (zso1 (h.hx hx1) hd hs hto) ?_;rintro r2 H2 ⟨ht2,hx2⟩;have hx02:=hx1.trans hx2;have hn2:=hx2.next;have g0:=(hx2.get (i:=H.next) oM).trans g0
 have g1:=(hx2.get (i:=H.next+1) oM).trans g1
 haveI:=hx02.hn;have hlo2:H2.lo=H.lo:=hx02.lo;have o1:=o0;have e02:=hEq_f (oM:H.next≠H2.next)
 have e12:=hEq_f (oM:H.next+1≠H2.next)
 unfold zie;rcases ht2 with ⟨e,he,h1,rfl⟩|⟨t2,v2,l2,ll,h1,rfl,h3⟩
 ·have d1:decide (e≠0)=true:=qo he
  have d1':decide (¬e=0)=true:=qo he;rw [h1];have F:=J5 @zba @zdb @zha @d1 @d1';refine uT ?_;exact ⟨rfl,WdO.same h hq (by have K:=hx02;exact hxk)⟩
 rw [h1];have o2:=zbb (nn:=t2.nx) (v:=v2) (lv:=l2) (RdD.one h3.rd) (LvD.one h3.lv).1;have F:=J6 @zba @zdb @zha @g0 @e02 @od_1;refine uT ?_;refine cR_at (fun H3=>HX H2 H3/\H3.next=H2.next+1/\H3.get H2.next=some (tbx t2.nx v2 l2)) ?_ ?_
 ·exact ⟨hxt,rfl,zfa _ _⟩
 rintro H3 ⟨hx3,hn3,g2⟩;have hx03:=hx02.trans hx3;haveI:=hx03.hn;refine cR_f (zrr (nm:=o.nm) (h.hx hx03) hd) ?_;rintro r4 H4 ⟨⟨a4,ha4,rfl⟩,hx4⟩;have hx04:=hx03.trans hx4;have hn4:=hx4.next;have hx24:=hx3.trans hx4;have g0:=(hx24.get (i:=H.next) oM).trans g0
 have g1:=(hx24.get (i:=H.next+1) oM).trans g1
 have g2:=(hx4.get (i:=H2.next) oM).trans g2
 haveI:=hx04.hn;have hlo4:H4.lo=H.lo:=hx04.lo;have e0:=hEq_f (oM:H.next≠H4.next)
 have hone4:=zbc (a4,recO s.t o.nm) ha4;have F:=J5 @zra @g0 @e0 @od_1 @hsp;refine uT ?_;refine cR_at (fun H5=>HX H4 H5/\H5.next=H4.next+1/\H5.get H4.next=some (.cells (.lst (rcL (a4,recO s.t o.nm))) 84 44 false false)) ?_ ?_
 ·exact ⟨hxt,rfl,zfa _ _⟩
 rintro H5 ⟨hx5,hn5,g4⟩;have hx05:=hx04.trans hx5;haveI:=hx05.hn;refine cR_f (zrr (nm:=splA o.nm) (h.hx hx05) hd) ?_;rintro r6 H6 ⟨⟨a6,ha6,rfl⟩,hx6⟩;have hx06:=hx05.trans hx6;have hn6:=hx6.next;have hx46:=hx5.trans hx6;have g0:=(hx46.get (i:=H.next) oM).trans g0
 have g1:=(hx46.get (i:=H.next+1) oM).trans g1
 have g2:=(hx46.get (i:=H2.next) oM).trans g2
 have g4:=(hx6.get (i:=H4.next) oM).trans g4
 haveI:=hx06.hn;have hlo6:H6.lo=H.lo:=hx06.lo;have hone6:=zbc (a6,recO s.t (splA o.nm)) ha6;have e0:=hEq_f (oM:H.next≠H6.next)
 have e1:=hEq_f (oM:H.next+1≠H6.next)
 have e2:=hEq_f (oM:H2.next≠H6.next)
 have e4:=hEq_f (oM:H4.next≠H6.next)
 have eb6:=hEq_f (oM:b≠H6.next)
 have hb6:=(h.hx hx06).box;have eb0':=hEq_f (oM:H.next≠b)
 have F:=J13 @zra @g0 @g2 @e0 @e2 @zda @zba @hb6 @eb6 @wd_w @o2 @eb0' @od_0;refine uT ?_;refine bR_at (fun T H7=>HP (·≠ b) H6 H7/\H6.next+1<=H7.next/\H7.get b=some (wdx t2.nx v2 l2 iv qv)/\H7.get H6.next=some (.cells (.lst (rcL (a6,recO s.t (splA o.nm)))) 84 44 false false) /\
  gT T 0= .ptr b 0/\gT T 3= .ptr H.next 0/\gT T 5= .ptr (H.next+1) 0/\gT T 8= .ptr H4.next 0/\gT T 13= .ptr H6.next 0/\gT T 53= .int .i64 o.op) ?_ ?_
 ·refine ⟨?_,qn _,zfa _ _,?_,vT0,vT0,vT0,vT0,vT0,vT0⟩
  ·have hxx:HX H6 ((H6.new (.cells (.lst (rcL (.nilSl,Rc0))) 84 44 false false)).put H6.next (.cells (.lst (rcL (a6,recO s.t (splA o.nm)))) 84 44 false false)):=HX.putN (HX.refl _) _ _
   exact (hxx.hp fun _=>True).trans (HP.put _ _ _) fun i _ hi=>⟨trivial,hi⟩
  ·rw [zgc _ oM]
   exact zfa _ _
 rintro T H7 ⟨hp7,hn7,hb7,g6,y0,y3,y5,y8,y13,y53⟩;haveI:=hp7.hn;have hlo7:H7.lo=H.lo:=hp7.lo.trans hlo6;have g0:=(hp7.get (i:=H.next) oM oM).trans g0
 have g1:=(hp7.get (i:=H.next+1) oM oM).trans g1
 have g4:=(hp7.get (i:=H4.next) oM oM).trans g4
 have h6:=h.hx hx06;have hx26:HX H2 H6:=(hx24.trans hx5).trans hx6;have kp7:KpR H H7 b iv qv iv qv:=(KpR.hx hx06).trans ⟨hp7.mono fun i _ hi=>hi.1,fun _ _ h=>h,fun _ _ h=>h⟩
 have sepb:∀(z:Nat),z≠9-> ∀j cc e op ro,H6.get j=some (.cells cc e z op ro)->j≠b:=fun z z9 j cc e op ro hg e'=>by
  subst e';rw [hb6] at hg;cases hg;exact z9 rfl
 have h7:WdR H7 b ⟨t2,s.b⟩ v2 l2 iv qv ll kv N:=by
  refine ⟨qa1 h6.lt hp7.next,hnb,hb7,(h3.hx hx26).hq hp7 (sepb 44 dC) (sepb 2 dC) (fun j op hr=>by obtain ⟨cc,hg,_⟩:=hr;exact sepb 1 dC _ _ _ _ _ hg),?_,?_,h.f,h.ok,h.nd⟩
  ·exact OwnS.hq h6.ids hp7 fun j o n c op e e2=>by
    subst e2;rcases h6.ids.2 with ⟨e3,_⟩|⟨i,op2,e3,hr,_⟩
    ·rw [e3] at e;cases e
    ·rw [e3] at e;cases e
     obtain ⟨cc,g,_⟩:=hr;rw [hb6] at g;cases g
  ·exact h6.bs.hq hp7 fun j o n c op e e2=>by
    subst e2;obtain ⟨_,_,_,_,g⟩:=h6.bs.blk e;rw [hb6] at g;cases g
 have fin:∀(k:Int) (x:Bk) (H8 H9:AH),HX H7 H8->chgB false s o=setK s.b k x->(∃iv2 qv2,WdR H9 b ⟨t2,setK s.b k x⟩ v2 l2 iv2 qv2 ll (upB k x kv) N/\(qv2= .nilSl\/upB k x kv≠ [])/\KpR H8 H9 b iv qv iv2 qv2) ->
   AV.int .i64 0= .int .i64 (er 0).err/\WdO H H9 b ⟨t2,chgB false s o⟩ iv qv kv.length N:=by
  rintro k x H8 H9 hx8 hc ⟨iv2,qv2,hw,hq2,hk⟩;rw [hc];exact ⟨rfl,v2,l2,iv2,qv2,ll,_,hw,hq2,zjm,kp7.trans ((KpR.hx hx8).trans hk)⟩
 cases a1:decide (o.op=1) with
 |true =>
  have e:=qe a1;have ec:chgB false s o=setK s.b s.t.nx zeroB:=by unfold chgB;simp only [e];rfl
  have F:=J7 @y0 @y3 @y5 @y8 @y13 @g1 @bu91;refine uT ?_;rw [← wz_a];refine cR_f (zci h7 hq s.t.nx zeroB_ok oM oM) ?_
  rintro r9 H9 hw9;refine uT0 ?_;exact fin _ _ H7 H9 (HX.refl _) ec hw9
 |false =>
 have n1:¬o.op=1:=qf a1;have F:=@y53;refine uT ?_;cases a2:decide (o.op=2) with
 |true =>
  have e:=qe a2;have ec:chgB false s o=setK s.b s.t.nx (s.b (recO s.t (splA o.nm)).id):=by unfold chgB;simp only [e];rfl
  have F:=J8 @y0 @y3 @y5 @y8 @y13 @g1 @g6 @rc_n0;refine uT ?_;refine rk_cw (js:= [H.next+1]) (R:=fun r H'=>r=bkA (s.b (recO s.t (splA o.nm)).id)/\HX H7 H') ?_ ?_ ?_
  ·rw [zsc]
   refine zga (o:=0) ?_ zza<;>(exact vT0)
  ·have F:=@y0;refine uT ?_
   exact of_ok h7 _ oM
  rintro r8 H8 ⟨rfl,hx8⟩;refine ⟨zcb hx8 _ fun i hi=> ?_,?_⟩
  ·simp only [qn1] at hi
   subst hi;exact ⟨by have:=hp7.next;omega,_,_,_,_,_,g1⟩
  haveI:=hx8.hn;have hlo8:H8.lo=H.lo:=hx8.lo.trans hlo7;have F:=J2 @zhd @y0;refine uT ?_;refine cR_f (zci (h7.hx hx8) hq s.t.nx (h.bk (recO s.t (splA o.nm)).id) oM oM) ?_
  rintro r9 H9 hw9;refine uT0 ?_;exact fin _ _ H8 H9 hx8 ec hw9
 |false =>
 have n2:¬o.op=2:=qf a2;have F:=@y53;refine uT ?_;cases a3:decide (o.op=3) with
 |true =>
  have e:=qe a3;have ec:chgB false s o=setK s.b s.t.nx (s.b (recO s.t o.nm).id):=by unfold chgB;simp only [e];rfl
  have F:=J8 @y0 @y3 @y5 @y8 @y13 @g1 @g4 @rc_n0;refine uT ?_;refine rk_cw (js:= [H.next+1]) (R:=fun r H'=>r=bkA (s.b (recO s.t o.nm).id)/\HX H7 H') ?_ ?_ ?_
  ·rw [zsc]
   refine zga (o:=0) ?_ zza<;>(exact vT0)
  ·have F:=@y0;refine uT ?_
   exact of_ok h7 _ oM
  rintro r8 H8 ⟨rfl,hx8⟩;refine ⟨zcb hx8 _ fun i hi=> ?_,?_⟩
  ·simp only [qn1] at hi
   subst hi;exact ⟨by have:=hp7.next;omega,_,_,_,_,_,g1⟩
  haveI:=hx8.hn;have hlo8:H8.lo=H.lo:=hx8.lo.trans hlo7;have F:=J2 @zhd @y0;refine uT ?_;refine cR_f (zci (h7.hx hx8) hq s.t.nx (h.bk (recO s.t o.nm).id) oM oM) ?_
  rintro r9 H9 hw9;refine uT0 ?_;exact fin _ _ H8 H9 hx8 ec hw9
 |false =>
 have n3:¬o.op=3:=qf a3;have F:=@y53;refine uT ?_;cases a4':decide (o.op=4) with
 |true =>
  have e:=qe a4';have ec:chgB false s o=setK s.b (recO s.t (splA o.nm)).id (s.b (recO s.t o.nm).id):=by unfold chgB;simp only [e];rfl
  have F:=J9 @y0 @y3 @y5 @y8 @y13 @g1 @g4 @g6 @rc_n0;refine uT ?_;refine rk_cw (js:= [H6.next]) (R:=fun r H'=>r=bkA (s.b (recO s.t o.nm).id)/\HX H7 H') ?_ ?_ ?_
  ·rw [zsc]
   refine zga (o:=0) ?_ zza<;>(exact vT0)
  ·have F:=@y0;refine uT ?_
   exact of_ok h7 _ oM
  rintro r8 H8 ⟨rfl,hx8⟩;refine ⟨zcb hx8 _ fun i hi=> ?_,?_⟩
  ·simp only [qn1] at hi
   subst hi;exact ⟨by have:=hp7.next;omega,_,_,_,_,_,g6⟩
  haveI:=hx8.hn;have hlo8:H8.lo=H.lo:=hx8.lo.trans hlo7;have F:=J2 @zhd @y0;refine uT ?_;refine cR_f (zci (h7.hx hx8) hq (recO s.t (splA o.nm)).id (h.bk (recO s.t o.nm).id) oM oM) ?_
  rintro r9 H9 hw9;refine uT0 ?_;exact fin _ _ H8 H9 hx8 ec hw9
 |false =>
 have n4:¬o.op=4:=qf a4';have F:=@y53;refine uT ?_;cases a7:decide (o.op=7) with
 |false =>
  have n7:¬o.op=7:=qf a7;have ec:chgB false s o=s.b:=by
   unfold chgB;by_cases e5:o.op=5
   ·simp only [e5];rfl
   ·simp only [qg n1,qg n2,qg n3,qg n4,qg e5,qg n7]
  refine uT0 ?_;refine ⟨rfl,v2,l2,iv,qv,ll,kv,?_,hq,oM,kp7⟩
  show WdR H7 b ⟨t2,chgB false s o⟩ _ _ _ _ _ _ _
  rw [ec];exact h7
 |true =>
  have e:=qe a7;have ec:chgB false s o=setK s.b (recO s.t o.nm).id (cutK (s.b (recO s.t o.nm).id) o.n.toNat (64 - o.n.toNat)):=by unfold chgB;simp only [e];rfl
  have hwn:wi o.n 1 64=true:=by
   have hc:chgT s.t o=sizeT s.t o.nm o.n:=by unfold chgT;simp only [e];rfl
   rw [hc] at h1;cases hw:wi o.n 1 64 with
   |true=>rfl
   |false=>unfold sizeT zrd at h1;rw [hw,qq2,ql3] at h1;cases h1
  rw [wi_d,qm,qs,qs] at hwn;obtain ⟨n,hn⟩:∃n:Nat,o.n=n:=⟨o.n.toNat,oM⟩
  rw [hn,qg2] at ec;have od3:nth (odL o ov bv) 3=some (.int .i64 (n:Int)):=by rw [od_3,hn]
  have F:=J10 @y0 @y3 @y5 @y8 @y13 @g0 @g1 @g4 @od3 @rc_n0;refine uT ?_;refine rk_cw (js:= [H.next,H4.next]) (R:=fun r H'=>r=bkA (s.b (recO s.t o.nm).id)/\HX H7 H') ?_ ?_ ?_
  ·rw [zsc]
   refine zga (o:=3) ?_ (zga (o:=0) ?_ zza)<;>(exact vT0)
  ·have F:=@y0;refine uT ?_
   exact of_ok h7 _ oM
  rintro r8 H8 ⟨rfl,hx8⟩;refine ⟨zcb hx8 _ fun i hi=> ?_,?_⟩
  ·simp only [qe1,qv4,qk6] at hi
   rcases hi with rfl|rfl
   ·exact ⟨oM,_,_,_,_,_,g0⟩
   ·exact ⟨oM,_,_,_,_,_,g4⟩
  haveI:=hx8.hn;have hn8:=hx8.next;have g4:=(hx8.get (i:=H4.next) oM).trans g4
  refine rk_cw (js:= [H4.next]) (R:=fun r H'=>r=bkA (cutK (s.b (recO s.t o.nm).id) n (64 - n))/\HX H8 H') ?_ ?_ ?_
  ·rw [zsc]
   refine zga (o:=0) ?_ zza<;>(have F:=@zhd;exact vT)
  ·have F:=@zhd;refine uT ?_
   exact zpb1 (h.bk _) (qn 64) oM
  rintro r9 H9 ⟨rfl,hx9⟩;refine ⟨zcb hx9 _ fun i hi=> ?_,?_⟩
  ·simp only [qn1] at hi
   subst hi;exact ⟨oM,_,_,_,_,_,g4⟩
  have hx79:=hx8.trans hx9;haveI:=hx79.hn;have hlo9:H9.lo=H.lo:=hx79.lo.trans hlo7;have F:=J2 @zhd @y0;refine uT ?_;refine cR_f (zci (h7.hx hx79) hq (recO s.t o.nm).id (zaj (h.bk (recO s.t o.nm).id) (f:=n) (qn 64)) oM oM) ?_
  rintro r10 H10 hw10;refine uT0 ?_;exact fin _ _ H9 H10 hx79 ec hw10
theorem WdR.fresh {H:AH}{b:Nat}{s:Ms}{v lv iv qv:AV}{l:List (AV×Rc)}{kv:Kv}{N:Nat}(h:WdR H b s v lv iv qv l kv N){i:Nat}(hi:H.next<=i):i≠b/\blkNe iv i/\blkNe qv i:=by
 have:=h.lt;refine ⟨oM,?_,?_⟩
 ·rcases h.ids.2 with ⟨rfl,_⟩|⟨j,op,rfl,_,_,hj,_⟩
  ·exact zka _
  ·exact zla oM
 ·rcases h.bs with ⟨rfl,_⟩|⟨j,op,rfl,_,hj,_⟩
  ·exact zka _
  ·exact zla oM
theorem WdR.put {H:AH}[hn:HN H]{b:Nat}{s:Ms}{v lv iv qv:AV}{l:List (AV×Rc)}{kv:Kv}{N:Nat}(h:WdR H b s v lv iv qv l kv N){i:Nat}{c:Ce}{e:Nat}{op ro:Bool}(hg:H.get i=some (.cells c e 3 op ro)) (b':ABlk):WdR (H.put i b') b s v lv iv qv l kv N:=by
 have hp:HP (·≠ i) H (H.put i b'):=HP.put _ _ _;have sep:∀(z:Nat),z≠3-> ∀j cc e op ro,H.get j=some (.cells cc e z op ro)->j≠i:=fun z z3 j cc e op ro hg' e'=>by
  subst e';rw [hg] at hg';cases hg';exact z3 rfl
 refine ⟨h.lt,h.nb,(hp.get h.lt (sep 9 dC _ _ _ _ _ h.box)).trans h.box,h.tb.hq hp (sep 44 dC) (sep 2 dC) (fun j op hr=>by obtain ⟨cc,hg',_⟩:=hr;exact sep 1 dC _ _ _ _ _ hg'),?_,?_,h.f,h.ok,h.nd⟩
 ·refine OwnS.hq h.ids hp fun j o n c op e=> ?_
  rcases h.ids.2 with ⟨e3,_⟩|⟨i2,op2,e3,hr,_⟩
  ·rw [e3] at e;cases e
  ·rw [e3] at e;cases e
   obtain ⟨cc,g,_⟩:=hr;exact sep 1 dC _ _ _ _ _ g
 ·refine h.bs.hq hp fun j o n c op e=> ?_
  obtain ⟨_,_,_,_,g⟩:=h.bs.blk e;exact sep 16384 dC _ _ _ _ _ g
theorem WdO.put {H H4:AH}[hn:HN H4]{b:Nat}{s:Ms}{iv qv:AV}{n N:Nat}(h:WdO H H4 b s iv qv n N){i:Nat}(hi:H.next<=i){c:Ce}{e:Nat}{op ro:Bool}(hg:H4.get i=some (.cells c e 3 op ro)) (b':ABlk):WdO H (H4.put i b') b s iv qv n N:=by
 obtain ⟨v,lv,iv2,qv2,l,kv2,hw,hq,hl,hk⟩:=h;exact ⟨v,lv,iv2,qv2,l,kv2,hw.put hg b',hq,hl,⟨hk.hp.trans (HP.put H4 i b') fun j hj hh=>⟨hh,oM⟩,hk.i,hk.q⟩⟩
theorem WdO.pre {H H3 H4:AH}{b:Nat}{s:Ms}{iv qv:AV}{n N:Nat}(hx:HX H H3) (h:WdO H3 H4 b s iv qv n N):WdO H H4 b s iv qv n N:=by
 obtain ⟨v,lv,iv2,qv2,l,kv2,hw,hq,hl,hk⟩:=h;exact ⟨v,lv,iv2,qv2,l,kv2,hw,hq,hl,(KpR.hx hx).trans hk⟩
theorem WdO.hp {H H4:AH}{b:Nat}{s:Ms}{iv qv:AV}{n N:Nat}(h:WdO H H4 b s iv qv n N):HP (fun i=>i≠b/\blkNe iv i/\blkNe qv i) H H4:=by
 obtain ⟨_,_,_,_,_,_,_,_,_,hk⟩:=h;exact hk.hp
def WdP (H H':AH) (b:Nat) (r:AV) (p:Rp×Ms) (iv qv:AV) (n N:Nat):Prop:=RpR H' r p.1 H.next/\WdO H H' b p.2 iv qv n N
set_option maxHeartbeats 32000000 in
theorem zmg1 {H:AH}[hn:HN H]{b:Nat}{s:Ms}{v lv iv qv:AV}{l:List (AV×Rc)}{kv:Kv}{N:Nat}{o:Od}{ov bv:AV}(h:WdR H b s v lv iv qv l kv N) (hq:qv= .nilSl\/kv≠ []) (hd:Bd s.t) (hlN:H.lo<=N) (hkl:kv.length<=99999) (ho:OdIn H o ov bv) (hb:ByS H bv o.b)
  (hsz:∀i,i<s.t.rs.length->1<=(get s.t.rs i).sz/\(get s.t.rs i).sz<=64) (hrs:∀r,r∈s.t.rs-> -1000000<=r.rs/\r.rs<=1000000) :
  FnE lookM 11 [.ptr b 0,odA o ov bv] H fun r H'=> ∃rp,r= .tup [rp,.bool (zyd false s o).2.1]/\WdP H H' b rp ((zyd false s o).1,(zyd false s o).2.2) iv qv kv.length N:=by
 refine fI Tryz.f11 ?_;have hlo:=hn.lo;have hlt:=h.lt;have e01:=hEq_f (oM:H.next≠H.next+1)
 have F:=J4 @zvf @zgb @e01 @zgh;refine uT ?_;clear F;refine cR_at (fun H1=>HX H H1/\H1.next=H.next+2/\H1.get H.next=some (odx o ov bv)/\H1.get (H.next+1)=some (rpx 0 .nilSl .nilSl)) ?_ ?_
 ·refine ⟨hxt,rfl,?_,zaa _⟩
  have F:=@e01;exact vT
 rintro H1 ⟨hx1,hn1,g0,g1⟩;haveI:=hx1.hn;refine cR_f (zpw (ho.hx hx1)) ?_;rintro r3 H3 ⟨rfl,hx3⟩;have hx03:=hx1.trans hx3;haveI:=hx03.hn;have hlo3:H3.lo=H.lo:=hx03.lo;have hn3:=hx3.next;have g0:=(hx3.get (i:=H.next) oM).trans g0
 have g1:=(hx3.get (i:=H.next+1) oM).trans g1
 have hR:zyd false s o=if ordOk o then
  (if o.op<=8 then ((zie false s o).1,true,(zie false s o).2)
   else if o.op=16 then (⟨0, [zyk s o.nm], []⟩,true,s)
   else if 12<=o.op/\o.op<=15 then ((asksM s o).1,true,(asksM s o).2)
   else (er 0,false,s))
  else (er 2,true,s):=rfl
 have same:∀(e:Int) (H5:AH),HX H3 H5->WdP H (H5.put (H.next+1) (rpx e .nilSl .nilSl)) b (rpA e .nilSl .nilSl) (er e,s) iv qv kv.length N:=fun e H5 hx5 =>
  ⟨RpR.err,WdO.same h hq (HX.put (hx03.trans hx5) oM _)⟩
 generalize zyd false s o=res at *
 unfold ordI;cases a1:ordOk o with
 |false =>
  rw [a1] at hR;have hR:res=(er 2,true,s):=hR;subst hR;have d1:decide (¬(2:Int)=0)=true:=dC
  have F:=J7 @d1 @rp_bu @zgb @g1 @rp_w0 @znb @ld3;refine uI ?_;clear F;exact ⟨_,rfl,same 2 H3 (HX.refl _)⟩
 |true =>
 have hOp:=(zcl o).1 a1;have hnm:=longB_f.1 hOp.nm;have hto:=longB_f.1 hOp.to;have hop1:=hOp.op1;rw [a1,qj rfl] at hR;have d1:decide (¬(0:Int)=0)=false:=dC
 have h3:=h.hx hx03;have rpe:∀e:Int,zua lookM 37 (zipF [0] [.int .i64 e])=some (rpA e .nilSl .nilSl):=rp_bu
 cases a2:decide (o.op<=8) with
 |true =>
  have y2:=qe a2;rw [qj y2] at hR;subst hR;have F:=J5 @d1 @g0 @od_0 @zgh @a2;refine uI ?_;clear F;refine cR_f (zlg1 h3 hq hd oM hkl oM oM oM y2) ?_
  rintro r5 H5 ⟨rfl,ho5⟩;have hp5:=ho5.hp;haveI:=hp5.hn;have hlo5:H5.lo=H.lo:=hp5.lo.trans hlo3;have g1:=(hp5.get (i:=H.next+1) oM (h.fresh oM)).trans g1
  have F:=J6 @rpe @zgb @g1 @rp_w0 @znb @ld3;refine uT ?_;clear F;refine ⟨_,rfl,?_,(WdO.pre hx03 ho5).put oM g1 _⟩
  unfold zie;split<;>exact RpR.err
 |false =>
 have y2:=qf a2;rw [qg y2] at hR;cases a3:decide (o.op<12) with
 |true =>
  have y3:=qe a3;rw [qg oM,qg oM] at hR
  subst hR;have F:=J11 @d1 @g0 @od_0 @a2 @a3 @zlj @zgb @g1 @rp_w0 @znb @ld3;refine uI ?_;clear F;exact ⟨_,rfl,same 0 H3 (HX.refl _)⟩
 |false =>
 have y3:=qf a3;cases a4:decide (16<o.op) with
 |true =>
  have y4:=qe a4;rw [qg oM,qg oM] at hR
  subst hR;have F:=J12 @d1 @g0 @od_0 @a2 @a3 @a4 @zlj @zgb @g1 @rp_w0 @znb @ld3;refine uI ?_;clear F;exact ⟨_,rfl,same 0 H3 (HX.refl _)⟩
 |false =>
 have y4:=qf a4;cases a5:decide (o.op=16) with
 |true =>
  have y5:=qe a5;rw [qj y5] at hR;subst hR;have F:=J8 @d1 @g0 @od_0 @od_1 @a2 @a3 @a4 @a5;refine uI ?_;clear F;refine cR_f (zig1 h3 hd hrs oM) ?_
  rintro r5 H5 ⟨rfl,hx5⟩;have hx05:=hx03.trans hx5;haveI:=hx05.hn;have hlo5:H5.lo=H.lo:=hx05.lo;have hn5:=hx5.next;have g1:=(hx5.get (i:=H.next+1) oM).trans g1
  have e1:=hEq_f (oM:H.next+1≠H5.next)
  have F:=J8 @one_q @zcg1 @zgb @g1 @e1 @rp_wN @znb @ld3;refine uT ?_;clear F;refine ⟨_,rfl,⟨_,_,rfl,?_,OwnS.nil _ _ _ _,fun j hj=>⟨zla oM,zka _⟩⟩,WdO.same h hq (by have K:=hx05;exact hxk)⟩
  have hr:Row ((H5.new (.cells (.lst [.int .i64 (zyk s o.nm)]) 3 1 false false)).put (H.next+1) (rpx 0 (.sl H5.next 0 1 1 false) .nilSl)) H5.next false false 3 1 [.int .i64 (zyk s o.nm)] :=
   ⟨.lst [.int .i64 (zyk s o.nm)],by rw [zgc _ oM];exact zaa _,rfl⟩
  exact hr.slZ (n:=1) (c:=1) (op':=false) (by show H5.next<H5.next+1;omega) rfl
 |false =>
 have y5:=qf a5;rw [qg y5,qj oM] at hR
 have hvol:= @FnX.p _ _ _ _ (zzk o.nm oM)
 have hsn:= @FnX.p _ _ _ _ (zco o.nm oM)
 have hl:=fun H'=>hb.len.1 u30 H'
 have F:=J9 @d1 @g0 @od_0 @od_1 @a2 @a3 @a4 @a5 @hvol;refine uI ?_;clear F;have hA:asksM s o=if (o.op=13/\(o.b.length=0\/o.b.length%256≠0))\/(partB o.nm || snapB o.nm)=false then (er 2,s)
   else if hasB o.nm s.t.rs=false then (er 6,s)
   else if o.op=12 then (readM s o (recO s.t o.nm),s) else if o.op=15 then (⟨0, [(usedB (s.b (recO s.t o.nm).id):Int)], []⟩,s) else zuf s o (recO s.t o.nm):=rfl
 generalize asksM s o=ask at *
 refine gR_at (fun T=>gT T 0= .ptr b 0/\gT T 3= .ptr H.next 0/\gT T 4= .ptr (H.next+1) 0/\gT T 41= .bool (!partB o.nm)) ?_ ?_
 ·refine ⟨?_,?_,?_,?_⟩<;>(exact vT0)
 rintro T ⟨t0,t3,t4,t41⟩;refine join4 (x:= !snapB o.nm) (u:=partB o.nm) (C:= ∀T,gT T 0= .ptr b 0->gT T 3= .ptr H.next 0->gT T 4= .ptr (H.next+1) 0->gT T 47= .bool false->gT T 51= .bool (decide (o.op=13))->gR (.bool (decide (o.op=13))) true lookM ?d1 ?b1 ?k1 ?s1 T H3 ?Q1)
  (fun hp hC=> ?_) (fun hp hs hC=> ?_) (fun hp hs=> ?_) ?_
 case refine_1 =>
  have F:=J7 @t0 @t3 @t4 @t41 @hp @g0 @od_0;refine uT ?_;clear F;refine hC _ ?_ ?_ ?_ ?_ ?_<;>(have F:=J3 @t0 @t3 @t4;exact vT)
 case refine_2 =>
  have hs':snapB o.nm=true:=by simpa using hs
  have F:=J10 @t0 @t3 @t4 @t41 @hp @g0 @od_0 @od_1 @hsn @hs';refine uT ?_;clear F;refine hC _ ?_ ?_ ?_ ?_ ?_<;>(have F:=J3 @t0 @t3 @t4;exact vT)
 case refine_3 =>
  have hs':snapB o.nm=false:=by simpa using hs
  rw [qj (.inr (by rw [hp,hs'];rfl))] at hA
  subst hA;subst hR;have F:=J15 @t0 @t3 @t4 @t41 @hp @g0 @g1 @od_1 @hsn @hs' @rp_bu @zgb @rp_w0 @znb @ld3;refine uT ?_;clear F;exact ⟨_,rfl,same 2 H3 (HX.refl _)⟩
 clear t0 t3 t4 t41;intro hps T t0 t3 t4 t47 t51;have hps':¬(partB o.nm || snapB o.nm)=false:=by
  rcases hps with k|k
  ·have:snapB o.nm=true:=by simpa using k
   rw [this];simp
  ·rw [k];simp
 refine join5 (x:=decide (o.op=13)) (u:=decide ((o.b.length:Int)=0)) (v:=decide (¬((o.b.length:Int)).tmod 256=0)) (C:= ∀T,gT T 0= .ptr b 0->gT T 3= .ptr H.next 0->gT T 4= .ptr (H.next+1) 0->cR false lookM 36 [.ptr b 0,.str o.nm] H3 70 ?k2 ?s2 T ?Q2)
  (fun hx hC=> ?_) (fun hx hu=> ?_) (fun hx hu hv=> ?_) (fun hx hu hv hC=> ?_) ?_
 case refine_1 =>
  have F:=J8 @hx @t0 @t3 @t4 @t47 @t51 @g0 @od_1;refine uT ?_;clear F;refine hC _ ?_ ?_ ?_<;>(have F:=J3 @t0 @t3 @t4;exact vT)
 case refine_2 =>
  rw [qj (.inl ⟨qe hx,.inl (by have:=qe hu;omega)⟩)] at hA
  subst hA;subst hR;have F:=J16 @hx @hu @t0 @t3 @t4 @t47 @t51 @g0 @g1 @od_6 @hl @rp_bu @zgb @rp_w0 @znb @ld3;refine uT ?_;clear F;exact ⟨_,rfl,same 2 H3 (HX.refl _)⟩
 case refine_3 =>
  rw [qj (.inl ⟨qe hx,.inr fun e=>qe hv (by show ((o.b.length%256:Nat):Int)=0;rw [e];rfl)⟩)] at hA
  subst hA;subst hR;have F:=J16 @hx @hu @hv @t0 @t3 @t4 @t47 @t51 @g0 @g1 @od_6 @hl @rp_bu @zgb @rp_w0 (J2 @znb @ld3);refine uT ?_;clear F;exact ⟨_,rfl,same 2 H3 (HX.refl _)⟩
 case refine_4 =>
  have F:=J12 @hx @hu @hv @t0 @t3 @t4 @t47 @t51 @g0 @od_6 @od_1 @hl;refine uT ?_;clear F;refine hC _ ?_ ?_ ?_<;>(have F:=J3 @t0 @t3 @t4;exact vT)
 clear t0 t3 t4 t47 t51;intro hodd T t0 t3 t4;have nodd:¬(o.op=13/\(o.b.length=0\/o.b.length%256≠0)):=fun ⟨k1,k2⟩=>by
  obtain ⟨h1,h2⟩:=hodd (qo k1);have h1:=qf h1;have h2:=qf h2;rcases k2 with k|k
  ·exact h1 oM
  ·refine h2 fun e=>k ?_
   have e:((o.b.length%256:Nat):Int)=0:=e;omega
 rw [qg (by rintro (k|k);exact nodd k;exact hps' k)] at hA
 refine cR_f (zrr (nm:=o.nm) h3 hd) ?_;rintro r4 H4 ⟨⟨a4,ha4,rfl⟩,hx4⟩;have hx04:=hx03.trans hx4;haveI:=hx04.hn;have hlo4:H4.lo=H.lo:=hx04.lo;have hn4:=hx4.next;have g0:=(hx4.get (i:=H.next) oM).trans g0
 have g1:=(hx4.get (i:=H.next+1) oM).trans g1
 have hone4:=zbc (a4,recO s.t o.nm) ha4;have e0:=hEq_f (oM:H.next≠H4.next)
 have e1:=hEq_f (oM:H.next+1≠H4.next)
 cases a6:hasB o.nm s.t.rs with
 |false =>
  rw [a6,qj rfl] at hA;subst hA;subst hR;have F:=J13 @t0 @t3 @t4 @zra @g0 @g1 @e0 @e1 @rp_bu @zgb @rp_w0 @znb @ld3;refine uT ?_;clear F;exact ⟨_,rfl,RpR.err,WdO.same h hq (by have K:=hx04;exact hxk)⟩
 |true =>
 rw [a6,qg (by simp)] at hA
 have hx44:1<=(recO s.t o.nm).sz/\(recO s.t o.nm).sz<=64:=by rw [znf a6];exact hsz _ (zeb a6).1
 have hon:0<=o.n/\o.n<=maxN:=qe hOp.n;have hom:0<=o.m/\o.m<=maxN:=qe hOp.m;generalize recO s.t o.nm=x at *
 cases a7:decide (o.op=12) with
 |true =>
  rw [qj (qe a7)] at hA;subst hA;subst hR;have F:=J12 @t0 @t3 @t4 @zra @g0 @g1 @e0 @e1 @od_0 @a7 @zgh @zzd;refine uT ?_;clear F;refine cR_at (fun H5=>HX H4 H5) ?_ ?_
  ·exact hxt
  rintro H5 hx5;have hx05:=hx04.trans hx5;haveI:=hx05.hn;refine cR_f (zto1 (a:=a4) (h.hx hx05) oM hx44 hon hom) ?_
  rintro r6 H6 ⟨hr6,hx6⟩;have hr6':=hr6;obtain ⟨nv,bv6,rfl,z1,z2,z3⟩:=hr6;have hx06:=hx05.trans hx6;haveI:=hx06.hn;have hlo6:H6.lo=H.lo:=hx06.lo;have hn5:=hx5.next;have g1:=((hx5.trans hx6).get (i:=H.next+1) oM).trans g1
  have o1:=zic z1.is;have o2:=zic z2.is;have F:=J6 @t4 @zgb @g1 @rp_w @znb @ld3;refine uT ?_;clear F;exact ⟨_,rfl,(hr6'.put oM _).le oM,WdO.same h hq (HX.put hx06 oM _)⟩
 |false =>
 rw [qg (qf a7)] at hA;have n7:=qf a7;cases a8:decide (o.op=15) with
 |true =>
  rw [qj (qe a8)] at hA;subst hA;subst hR;have F:=J12 @t0 @t3 @t4 @zra @g0 @g1 @e0 @e1 @od_0 @a7 @a8 @rc_n0;refine uT ?_;clear F;refine cR_at (fun H5=>HX H4 H5) ?_ ?_
  ·exact hxt
  rintro H5 hx5;have hx05:=hx04.trans hx5;haveI:=hx05.hn;have hn5:=hx5.next;refine cR_f (of_ok (h.hx hx05) x.id oM) ?_
  rintro r6 H6 ⟨rfl,hx6⟩;have hx06:=hx05.trans hx6;haveI:=hx06.hn;refine uT0 ?_;refine cR_f (zel (h.bk x.id)) ?_;rintro r7 H7 ⟨rfl,hx7⟩;have hx07:=hx06.trans hx7;haveI:=hx07.hn;have hlo7:H7.lo=H.lo:=hx07.lo;have hn6:=hx6.next;have hn7:=hx7.next;have g1:=(((hx5.trans hx6).trans hx7).get (i:=H.next+1) oM).trans g1
  have e1:=hEq_f (oM:H.next+1≠H7.next)
  have F:=J9 @t4 @one_q @zcg1 @zgb @g1 @e1 @rp_wN @znb @ld3;refine uT ?_;clear F;refine ⟨_,rfl,⟨_,_,rfl,?_,OwnS.nil _ _ _ _,fun j hj=>⟨zla oM,zka _⟩⟩,WdO.same h hq (by have K:=hx07;exact hxk)⟩
  have hr:Row ((H7.new (.cells (.lst [.int .i64 (usedB (s.b x.id):Int)]) 3 1 false false)).put (H.next+1) (rpx 0 (.sl H7.next 0 1 1 false) .nilSl)) H7.next false false 3 1 [.int .i64 (usedB (s.b x.id):Int)] :=
   ⟨.lst [.int .i64 (usedB (s.b x.id):Int)],by rw [zgc _ oM];exact zaa _,rfl⟩
  exact hr.slZ (n:=1) (c:=1) (op':=false) (by show H7.next<H7.next+1;omega) rfl
 |false =>
 have n8:=qf a8;rw [qg n8] at hA;subst hA;subst hR;have F:=J13 @t0 @t3 @t4 @zra @g0 @g1 @e0 @e1 @od_0 @a7 @a8 @zgh @zzd;refine uT ?_;clear F;refine cR_at (fun H5=>HX H4 H5) ?_ ?_
 ·exact hxt
 rintro H5 hx5;have hx05:=hx04.trans hx5;haveI:=hx05.hn;have hn5:=hx5.next;have hlo5:H5.lo=H.lo:=hx05.lo;have h14:o.op=13\/(o.op=14/\o.b= []):=by
  by_cases e:o.op=13
  ·exact .inl e
  ·have e14:o.op=14:=oM
   refine .inr ⟨e14,?_⟩;have:=hOp.u6;rw [e14] at this;rcases this with k|k
   ·exact ql1 oM
   ·exact absurd k dC
 refine cR_f (zkg1 (a:=a4) (h.hx hx05) hq oM hkl (hb.hx hx05) hx44 hon hom ?_ ?_ h14) ?_
 ·have:=hOp.b;omega
 ·rcases h14 with e|⟨_,e⟩
  ·by_cases e2:o.b.length%256=0
   ·exact e2
   ·exact absurd ⟨e,.inr e2⟩ nodd
  ·rw [e];rfl
 rintro r6 H6 ⟨rfl,ho6⟩;have hp6:=ho6.hp;haveI:=hp6.hn;have hlo6:H6.lo=H.lo:=hp6.lo.trans hlo5;have g1:=(hp6.get (i:=H.next+1) oM (h.fresh oM)).trans ((hx5.get oM).trans g1)
 have F:=J7 @t4 @rpe @zgb @g1 @rp_w0 @znb @ld3;refine uT ?_;clear F;refine ⟨_,rfl,?_,(WdO.pre hx05 ho6).put oM g1 _⟩
 have:(zuf s o x).1=er (zuf s o x).1.err:=by
  unfold zuf;simp only
  repeat' split
  all_goals rfl
 rw [this];exact RpR.err
theorem u91b:lookM.under 91=some (.array 64 89):=kR
theorem eq91 {a b:Bk}(ha:BkOk a) (hb:BkOk b):evEq lookM 40 91 (bkA a) (bkA b)=some (decide (a=b)):=by
 rw [← all100 ha hb,← zqr ha hb 64 0 oM]
 show (match lookM.under 91 with
  |some (.array n e)=>(match lookM.size e with
   |some s=>(match zsw (lookM.isAgg e) s (evEq lookM 39 e (.int .u8 0) (.int .u8 0)) n (bkC a) (bkC b) with
    |some r=>some r
    |none=>zxf (evEq lookM 39 e) (ztc lookM e (bkC a)) (ztc lookM e (bkC b)) s n 0)
   |none=>none)
  |_=>none)=_
 rw [u91b];simp only [s89,a89];rfl
theorem pl91:lookM.plainEq 91=true:=kR
theorem ne91 {a b:Bk}(ha:BkOk a) (hb:BkOk b) (xo yo:Operand):binF .neq (evBin lookM .neq 91 xo yo) (bkA a) (bkA b)=some (.bool (!decide (a=b))):=by
 rw [zyl];unfold evBin;simp only [pl91,eq91 ha hb]
set_option maxHeartbeats 16000000 in
theorem zuo1 {H:AH}[hn:HN H]{b b2:Nat}{s s2:Ms}{v lv iv qv v2 lv2 iv2 qv2:AV}{l l2:List (AV×Rc)}{kv kv2:Kv}{N N2:Nat}(h:WdR H b s v lv iv qv l kv N) (h2:WdR H b2 s2 v2 lv2 iv2 qv2 l2 kv2 N2) (hd:Bd s.t) (hd2:Bd s2.t) (hkl:kv.length<=100000) (hkl2:kv2.length<=100000) :
  FnE lookM 20 [.ptr b 0,.ptr b2 0] H fun r H'=>r= .bool (sameM s s2)/\HX H H':=by
 refine zud f20_eq rfl rfl ?_;have hlo:=hn.lo;have hl:∀H',fstO (zea .len lookM [49] [v] H')=some (.int .i64 s.t.rs.length):=fun H'=>by have:=zwc (H':=H') uRs h.tb.rd.sl.is;rwa [h.tb.len] at this
 have hl2:∀H',fstO (zea .len lookM [49] [v2] H')=some (.int .i64 s2.t.rs.length):=fun H'=>by have:=zwc (H':=H') uRs h2.tb.rd.sl.is;rwa [h2.tb.len] at this
 have hb:=h.box;have hb2:=h2.box;rw [zjb1];by_cases el:s.t.rs.length=s2.t.rs.length
 ·have d1:decide (¬(s.t.rs.length:Int)=(s2.t.rs.length:Int))=false:=qp oM
  rw [qo el,qo2];have F:=J7 f20c.eq_1 @hb @hb2 @wd_1 @hl @hl2 @d1;refine uT ?_;clear F;refine rc_lp zro1 (fun n T H'=> ∃q,n+q=s.t.rs.length/\HX H H'/\(List.range q).all (sameR s s2)=true/\gT T 0= .ptr b 0/\gT T 1= .ptr b2 0/\gT T 5= .int .i64 q) s.t.rs.length ?_ ?_
  ·exact ⟨0,rfl,HX.refl _,rfl,vT0,vT0,wT0⟩
  rintro n T H3 ⟨q,hnq,hx3,hall,t0,t1,t5⟩;unfold f20l0;haveI:=hx3.hn;have hn3:=hx3.next;have hlo3:H3.lo<=H3.next:=HN.lo;have hlen:=hd.len;have k1:=h.hx hx3;have k2:=h2.hx hx3;have kb1:=k1.box;have kb2:=k2.box;cases n with
  |zero =>
   have hq:q=s.t.rs.length:=oM
   rw [hq] at hall;have d2:decide ((q:Int)<(s.t.rs.length:Int))=false:=qp oM
   rw [hall];have F:=J8 @t0 @t1 @t5 @kb1 @kb2 @wd_1 @hl @d2;refine uT ?_;clear F;exact hx3
  |succ n =>
   have d2:decide ((q:Int)<(s.t.rs.length:Int))=true:=qo oM
   obtain ⟨p1,hp1,hpe1,hho1⟩:=(k1.db hd).at (oM:q<s.t.rs.length)
   obtain ⟨p2,hp2,hpe2,hho2⟩:=(k2.db hd2).at (oM:q<s2.t.rs.length)
   have hix:=ix44 (z:=44) (q:=q) k1.tb.rd.sl.is (by rw [k1.tb.len];omega)
   have hix2:=ix44 (z:=44) (q:=q) k2.tb.rd.sl.is (by rw [k2.tb.len];omega)
   have hld:=k1.tb.rd.sl.agg hp1;have hld2:=k2.tb.rd.sl.agg hp2;obtain ⟨a1,x⟩:=p1;obtain ⟨a2,y⟩:=p2;simp only at hpe1 hho1 hpe2 hho2;subst hpe1;subst hpe2;have hone:=zbc (a1,get s.t.rs q) (zic hho1.is);have hone2:=zbc (a2,get s2.t.rs q) (zic hho2.is);have e67:=hEq_f (oM:H3.next≠H3.next+1)
   rcases h2.tb.rd.rd with ⟨_,hl20⟩|⟨j2,c2,op2,op2',cs2,rfl,hj2,_⟩
   ·have:=h2.tb.len
    rw [hl20] at this;simp at this;omega
   rw [zdr,ldN_q,qu1] at hld2;have F:=J14 @t0 @t1 @t5 @kb1 @kb2 @wd_1 @hl @d2 @hix @hld @hix2 @hld2 @zyi @zzi;refine uT ?_;clear F;refine rk_at (fun H4=>HX H3 H4/\H4.next=H3.next+2/\(∃zl,zl.length=44/\H4.get H3.next=some (.cells (.lst zl) 84 44 false false))/\ ∃zl,zl.length=44/\H4.get (H3.next+1)=some (.cells (.lst zl) 84 44 false false)) ?_ ?_
   ·refine ⟨hxt,rfl,⟨_,?_,by rw [zmf _ (oM:H3.next≠H3.next+1),zaa]⟩,⟨_,?_,zaa _⟩⟩<;>rfl
   rintro H4 ⟨hx4,hn4,⟨z1,hz1,g6⟩,z2,hz2,g7⟩;have hx04:=hx3.trans hx4;haveI:=hx04.hn;have hlo4:H4.lo<=H3.next:=by have:=hx4.lo;omega
   have hw1:=wrN_l (l:=z1) (lv:=rcL (a1,get s.t.rs q)) (e:=84) (z:=44) (i:=H3.next) (n:=44) (op:=false) (H:=H4) hz1 rfl hone;have hw2:=fun H=>wrN_l (l:=z2) (lv:=rcL (a2,get s2.t.rs q)) (e:=84) (z:=44) (i:=H3.next+1) (n:=44) (op:=false) (H:=H) hz2 rfl hone2
   have hst:zyc lookM 84 (.ptr H3.next 0) (.agg (rcL (a1,get s.t.rs q))) H4=some (H4.put H3.next (.cells (.lst (rcL (a1,get s.t.rs q))) 84 44 false false)):=by
    rw [← stN_eq (s:=44) kR,stN_q hlo4,g6]
    exact hw1
   refine rk_gst (t:=84) (a:=6) (b:=38) (i:=H3.next) (o:=0) (u:=.agg (rcL (a1,get s.t.rs q))) (ks:= [sOf 45,sOf 42]) (js:= [j2,b2]) kR kR ?_ ?_ ?_ (by intro h;cases h) ?_ hst ?_
   ·refine zga (o:=q*44) ?_ (zga (o:=1) ?_ zza)<;>(exact vT0)
   ·exact vT0
   ·exact vT0
   ·intro i hi
    simp only [qe1,qv4,qk6] at hi;have:=h2.lt;rcases hi with rfl|rfl<;>omega
   have hpn:∀(v:AV) (T:Tr AV),putS none v T=T:=fun _ _=>rfl
   have F:=J7 @hpn @zra @g7 @e67 @hw2 @rc_1 @zsd;refine uT ?_;clear F;refine zpo1 (fun T H5=>HX H H5/\H3.next+2<=H5.next/\H5.get H3.next=some (.cells (.lst (rcL (a1,get s.t.rs q))) 84 44 false false)/\H5.get (H3.next+1)=some (.cells (.lst (rcL (a2,get s2.t.rs q))) 84 44 false false) /\
    gT T 0= .ptr b 0/\gT T 1= .ptr b2 0/\gT T 5= .int .i64 q/\gT T 6= .ptr H3.next 0/\gT T 7= .ptr (H3.next+1) 0/\gT T 52= .bool (!decide ((get s.t.rs q).nm=(get s2.t.rs q).nm))) ?_ ?_
   ·refine ⟨HX.put (HX.put hx04 oM _) oM _,by show _<=H4.next;omega,?_,zfa _ _,?_,?_,?_,?_,?_,?_⟩
    ·rw [zgc _ oM];exact zfa _ _
    all_goals simp (maxSteps:=1000000) (disch:=first|assumption|omega|rfl|(simp only [nx];omega)|(simp only [lens]<;>omega)) only [rq,rq2,zsi,lsE_s,qz3,qu3,Nat.reduceEqDiff,Nat.reduceAdd,reduceIte,reduceCtorEq,ne_eq,qb3,qu2,qh5,qb5,t0,t1,t5]
   clear t0 t1 t5;rintro T9 H5 ⟨hx5,hn5,g6,g7,t0,t1,t5,t6,t7,t52⟩;haveI:=hx5.hn;have no:sameR s s2 q=false-> ∀H',HX H H'->AV.bool false= .bool ((List.range s.t.rs.length).all (sameR s s2))/\HX H H':=fun hs H' hx'=>by
    refine ⟨?_,hx'⟩;have:(List.range s.t.rs.length).all (sameR s s2)=false:=by
     rw [List.all_eq_false];exact ⟨q,qc3.2 oM,by rw [hs];decide⟩
    rw [this]
   have yes:sameR s s2 q=true->(List.range (q+1)).all (sameR s s2)=true:=fun hs=>by
    rw [List.range_succ,qd6,hall,ql7,hs];rfl
   unfold sameR at no yes;cases x1:decide ((get s.t.rs q).nm=(get s2.t.rs q).nm) with
   |false =>
    rw [x1,qq2] at no;have F:=J2 @x1 @t52;refine uT ?_;clear F;exact no rfl _ hx5
   |true =>
   have F:=J8 @x1 @t52 @rc_n2 @e67 @t6 @t7 @g6 @g7;refine uT ?_;clear F;cases x2:decide ((get s.t.rs q).kd=(get s2.t.rs q).kd) with
   |false =>
    rw [x1,x2] at no;have e2:decide (¬(get s.t.rs q).kd=(get s2.t.rs q).kd)=true:=qo (qf x2);have F:=J10 @rc_n2 @rc_n3 @zaf @zwf @e67 @t6 @t7 @g6 @g7 @e2;refine uT ?_;clear F;exact no rfl _ hx5
   |true =>
   have f2:decide (¬(get s.t.rs q).kd=(get s2.t.rs q).kd)=false:=qp fun x=>x (qe x2)
   have F:=J10 @rc_n2 @rc_n3 @zaf @zwf @e67 @t6 @t7 @g6 @g7 @f2;refine uT ?_;clear F;cases x3:decide ((get s.t.rs q).sz=(get s2.t.rs q).sz) with
   |false =>
    rw [x1,x2,x3] at no;have e3:decide (¬(get s.t.rs q).sz=(get s2.t.rs q).sz)=true:=qo (qf x3);have F:=J10 @rc_n2 @rc_n3 @zaf @zwf @e67 @t6 @t7 @g6 @g7 @e3;refine uT ?_;clear F;exact no rfl _ hx5
   |true =>
   have f3:decide (¬(get s.t.rs q).sz=(get s2.t.rs q).sz)=false:=qp fun x=>x (qe x3)
   have F:=J10 @rc_n2 @rc_n3 @zaf @zwf @e67 @t6 @t7 @g6 @g7 @f3;refine uT ?_;clear F;cases x4:decide ((get s.t.rs q).qu=(get s2.t.rs q).qu) with
   |false =>
    rw [x1,x2,x3,x4] at no;have e4:decide (¬(get s.t.rs q).qu=(get s2.t.rs q).qu)=true:=qo (qf x4);have F:=J10 @rc_n2 @rc_n3 @zaf @zwf @e67 @t6 @t7 @g6 @g7 @e4;refine uT ?_;clear F;exact no rfl _ hx5
   |true =>
   have f4:decide (¬(get s.t.rs q).qu=(get s2.t.rs q).qu)=false:=qp fun x=>x (qe x4)
   have F:=J10 @rc_n2 @rc_n3 @zaf @zwf @e67 @t6 @t7 @g6 @g7 @f4;refine uT ?_;clear F;cases x5:decide ((get s.t.rs q).rs=(get s2.t.rs q).rs) with
   |false =>
    rw [x1,x2,x3,x4,x5] at no;have e5:decide (¬(get s.t.rs q).rs=(get s2.t.rs q).rs)=true:=qo (qf x5);have F:=J10 @rc_n2 @rc_n3 @zaf @zwf @e67 @t6 @t7 @g6 @g7 @e5;refine uT ?_;clear F;exact no rfl _ hx5
   |true =>
   have f5:decide (¬(get s.t.rs q).rs=(get s2.t.rs q).rs)=false:=qp fun x=>x (qe x5)
   have F:=J10 @rc_n2 @rc_n3 @zaf @zwf @e67 @t6 @t7 @g6 @g7 @f5;refine uT ?_;clear F;have F:=J7 @t0 @t1 @t6 @t7 @g6 @g7 @rc_n0;refine uT ?_;clear F;refine rk_cw (js:= [H3.next+1]) (R:=fun r H'=>r=bkA (s.b (get s.t.rs q).id)/\HX H5 H') ?_ ?_ ?_
   ·rw [zsc]
    refine zga (o:=0) ?_ zza<;>(exact vT0)
   ·refine uT0 ?_
    exact of_ok (h.hx hx5) _ hkl
   rintro r6 H6 ⟨rfl,hx6⟩;refine ⟨zcb hx6 _ fun i hi=> ?_,?_⟩
   ·simp only [qn1] at hi
    subst hi;exact ⟨oM,_,_,_,_,_,g7⟩
   have hx06:=hx5.trans hx6;haveI:=hx06.hn;have F:=@zhd;refine uT ?_;clear F;refine cR_f (of_ok (h2.hx hx06) (get s2.t.rs q).id hkl2) ?_;rintro r7 H7 ⟨rfl,hx7⟩;have hx07:=hx06.trans hx7;have hne:=fun xo yo=>ne91 (h.bk (get s.t.rs q).id) (h2.bk (get s2.t.rs q).id) xo yo
   have F:=@hne;refine uT ?_;clear F;cases x6:decide (s.b (get s.t.rs q).id=s2.b (get s2.t.rs q).id) with
   |false =>
    rw [x1,x2,x3,x4,x5,x6] at no;have F:=@x6;refine uT ?_;clear F;exact no rfl _ hx07
   |true =>
    rw [x1,x2,x3,x4,x5,x6] at yes;have F:=J4 @x6 @t0 @t1 @t5;refine uT ?_;clear F;exact ⟨n,oM,q+1,oM,hx07,yes rfl,by push_cast;rfl⟩
 ·have d1:decide (¬(s.t.rs.length:Int)=(s2.t.rs.length:Int))=true:=qo oM
  rw [qp el,qq2];have F:=J7 f20c.eq_1 @hb @hb2 @wd_1 @hl @hl2 @d1;refine uT ?_;clear F;exact HX.refl _
theorem w_bu (nn:Int) (i:Nat) (op:Bool):zua lookM 56 (zipF [0] [tbA nn .nilSl (.sl i 0 2 2 op)])=some (.agg (wdL nn .nilSl (.sl i 0 2 2 op) .nilSl .nilSl)):=kR
theorem wd_toC (nn:Int) (v lv iv qv:AV):AV.toC (.agg (wdL nn v lv iv qv))= .lst (wdL nn v lv iv qv):=rfl
theorem wnew_ok {H:AH}[hn:HN H]:FnE lookM 6 [] H fun r H'=>(∃b lv,r= .ptr b 0/\H.next<=b/\WdR H' b M0 .nilSl lv .nilSl .nilSl [] [] H.next)/\HX H H':=by
 refine fI Tryz.f6 ?_;have hlo:=hn.lo;refine uT0 ?_;refine cR_f dnew_ok ?_;rintro r1 H1 ⟨lv,rfl,hl1,hx1⟩;haveI:=hx1.hn;have hn1:=hx1.next;have hlo1:H1.lo<=H1.next:=HN.lo;have o2:=zbb (nn:=1) (v:=.nilSl) (lv:=lv) rfl hl1.one.1;have hl1':=hl1;obtain ⟨j,op,rfl,_⟩:=hl1';have F:=J6 @zba @zdb @zha @zda @w_bu @wd_toC;refine uT ?_;have hx2:HX H1 (((H1.new (tbx 0 .nilSl .nilSl)).put H1.next (tbx 1 .nilSl (.sl j 0 2 2 op)))):=hxt;haveI:=hx2.hn;have hx3:HX (((H1.new (tbx 0 .nilSl .nilSl)).put H1.next (tbx 1 .nilSl (.sl j 0 2 2 op)))) (((H1.new (tbx 0 .nilSl .nilSl)).put H1.next (tbx 1 .nilSl (.sl j 0 2 2 op))).new (wdx 1 .nilSl (.sl j 0 2 2 op) .nilSl .nilSl)):=HX.new _ _
 have hxx:=hx2.trans hx3;refine ⟨⟨H1.next+1,.sl j 0 2 2 op,rfl,oM,⟨qc1 _,oM,zaa _,⟨⟨.inl ⟨rfl,rfl⟩,fun p hp=>(by cases hp)⟩,rfl,hl1.hx hxx⟩,OwnS.nil _ _ _ _,.inl ⟨rfl,rfl⟩,fun k=>rfl,fun p hp=>(by cases hp),List.nodup_nil⟩⟩,hx1.trans hxx⟩
end HS
namespace HS.Md
open Go
def Pr (r:Rc):Prop:=r.nm.size<=100/\0<=r.rs/\r.rs<=64
structure Gd (t:Tb):Prop where
 len:t.rs.length<=17
 nx:0<=t.nx/\t.nx<=2147483649
 all:∀r,r∈t.rs->Pr r
theorem gd0:Gd M0.t:=⟨by show 0<=17;decide,⟨by show (0:Int)<=1;decide,by show (1:Int)<=2147483649;decide⟩,fun r h=>by cases h⟩
theorem pr0:Pr Rc0:=⟨qh2 _,Int.le_refl _,dC⟩
theorem pr_get {l:List Rc}(h:∀r,r∈l->Pr r) (i:Nat):Pr (get l i):=by
 by_cases hi:i<l.length
 ·exact h _ (qz.2 ⟨i,get_lt hi⟩)
 ·have:get l i=Rc0:=by unfold get;rw [qn6,qx1 oM];rfl
  rw [this];exact pr0
theorem zqj1 (x:Rc) (l:List Rc):(layL x l).length<=l.length+1:=by
 unfold layL;rw [qy,qi2,qd1,qb2];omega
theorem zsb1:∀(l out:List Rc),(l.foldl (fun out x=>layL x out) out).length<=l.length+out.length
 | [],out=>by simp
 |x::l,out=>by
  have h1:=zsb1 l (layL x out);have h2:=zqj1 x out;rw [qs6,qi2];omega
theorem zvo1 (l:List Rc):(sortL l).length<=l.length:=by
 have h:=zsb1 l [];rw [qc6,qk4] at h;exact h
theorem zdo (a b:ByteArray):(joinB a b).size<=41:=by
 unfold joinB;split
 ·next h =>
  rw [qm] at h;unfold partB at h;simp only [qm,qs] at h;rw [qm4,qm4];have:sign.size=1:=rfl;omega
 ·exact qh2 _
theorem zwo1 {t:Tb}(h:Gd t) (hk:Ok t){x:Rc}(hx:Pr x):Gd (putT t x):=by
 refine ⟨?_,?_,fun r hr=> ?_⟩
 ·have:=zqj1 {x with id:=t.nx} t.rs
  have:=hk.len;show (layL _ _).length<=17
  omega
 ·have:=hk.nx
  show 0<=t.nx+1/\t.nx+1<=2147483649
  omega
 ·rcases zkz hr with e|e
  ·rw [e];exact hx
  ·exact h.all _ e
theorem gd_set {t:Tb}(h:Gd t){i:Nat}{x:Rc}(hx:Pr x):Gd ⟨t.nx,t.rs.set i x⟩ :=
 ⟨by show (t.rs.set i x).length<=17;rw [qm2];exact h.len,h.nx,fun r hr=>(qv6 hr).elim (h.all r) fun e=>e▸hx⟩
theorem ztu {t t':Tb}{s:ByteArray}{fine:Bool}{f:Rc->Rc}{z:Int}(h:Gd t) (hf:∀x,fine=true->Pr x->Pr (f x)) (hc:zrd t s fine f=(some t',z)):Gd t':=by
 unfold zrd at hc;obtain ⟨c1,hc⟩:=zya hc;obtain ⟨c2,hc⟩:=zya hc;obtain ⟨c3,hc⟩:=zjg hc;simp only [qm] at c1;have:=zed hc;subst this;exact gd_set h (hf _ c1.2.1 (pr_get h.all _))
theorem gd_chg {t t':Tb}{o:Od}{z:Int}(h:Gd t) (hs:o.nm.size<=48) (hto:o.to.size<=48) (hc:chgT t o=(some t',z)):Gd t':=by
 have nmok:∀x:Rc,x.nm.size<=48->x.rs=0->Pr x:=fun x h1 h2=>⟨oM,oM,oM⟩
 unfold chgT at hc;split at hc
 ·unfold makeT at hc
  obtain ⟨c1,hc⟩:=zya hc;obtain ⟨c2,hc⟩:=zya hc;simp only [qm] at c1;have:=zed hc;subst this;exact zwo1 h (checkB_ok.1 c1.1) (nmok _ hs rfl)
 split at hc
 ·unfold snapT at hc
  obtain ⟨c1,hc⟩:=zya hc;obtain ⟨c2,hc⟩:=zya hc;obtain ⟨c3,hc⟩:=zya hc;simp only [qm] at c1;have:=zed hc;subst this;exact zwo1 h (checkB_ok.1 c1.1) (nmok _ hs rfl)
 split at hc
 ·unfold zxn at hc
  obtain ⟨c1,hc⟩:=zya hc;obtain ⟨c2,hc⟩:=zya hc;obtain ⟨c3,hc⟩:=zya hc;simp only [qm] at c1;have:=zed hc;subst this;exact zwo1 h (checkB_ok.1 c1.1) (nmok _ hto rfl)
 split at hc
 ·unfold rollT at hc
  obtain ⟨c1,hc⟩:=zya hc;obtain ⟨c2,hc⟩:=zya hc;obtain ⟨c3,hc⟩:=zjg hc;have:=zed hc;subst this;unfold setSz;exact gd_set h (pr_get h.all _)
 split at hc
 ·unfold dropT at hc
  obtain ⟨c1,hc⟩:=zya hc;obtain ⟨c2,hc⟩:=zya hc;obtain ⟨c3,hc⟩:=zjg hc;have:=zed hc;subst this;refine ⟨qx2 (List.length_eraseIdx_le _ _) h.len,h.nx,fun r hr=>h.all r (List.mem_of_mem_eraseIdx hr)⟩
 split at hc
 ·unfold renT at hc
  obtain ⟨c1,hc⟩:=zya hc;obtain ⟨c2,hc⟩:=zya hc;obtain ⟨c3,hc⟩:=zjg hc;have:=zed hc;subst this;refine ⟨?_,h.nx,fun r hr=> ?_⟩
  ·have h1:=zvo1 (t.rs.map (ren o.nm o.to))
   rw [qt3] at h1;have:=h.len;show (sortL _).length<=17
   omega
  ·obtain ⟨y,hy,e⟩:=qd3.1 (zyn hr)
   have hp:=h.all y hy;rw [← e];unfold ren;split
   ·exact ⟨by show o.to.size<=100;omega,hp.2⟩
   ·split
    ·exact ⟨by have:=zdo o.to (splB y.nm);show (joinB o.to (splB y.nm)).size<=100;omega,hp.2⟩
    ·exact hp
 split at hc
 ·unfold sizeT at hc
  exact ztu (f:=fun x=> {x with sz:=o.n}) h (fun x _ hx=>⟨hx.1,hx.2⟩) hc
 ·unfold limT at hc
  refine ztu (f:=fun x=> {x with qu:=o.n,rs:=o.m}) h (fun x hf hx=>⟨hx.1,?_⟩) hc
  rw [qm] at hf;exact qe hf.2
theorem ztb1 {s:Ms}{o:Od}(h:Gd s.t) (del:Bool) (hs:ordOk o=true->o.nm.size<=48/\o.to.size<=48):Gd (zyd del s o).2.2.t:=by
 unfold zyd;split
 ·next hok =>
  split
  ·show Gd (zie del s o).2.t
   unfold zie;cases hc:chgT s.t o with
   |mk r z =>
    cases r with
    |none=>exact h
    |some t=>exact gd_chg h (hs hok).1 (hs hok).2 hc
  ·split
   ·exact h
   ·split
    ·show Gd (asksM s o).2.t
     unfold asksM;split
     ·exact h
     split
     ·exact h
     simp only;split
     ·exact h
     split
     ·exact h
     unfold zuf;simp only
     repeat' split
     all_goals exact h
    ·exact h
 ·exact h
end HS.Md
namespace HS
set_option maxRecDepth 100000
open HS.Md
theorem MdR.fr {H H':AH}{b mb:Nat}{s:Ms}{v lv:AV}(h:MdR H b mb s v lv){p:Nat->Prop}(hp:HP p H H') (pb:p b) (pm:p mb) (p44:∀j cc e op ro,H.get j=some (.cells cc e 44 op ro)->p j) (p1:∀j op,Row H j false op 3 1 lvL->p j):MdR H' b mb s v lv:=by
 refine ⟨qa1 h.lt hp.next,(hp.get h.lt pb).trans h.box,h.rd.sep hp p44,?_,h.mp.hp hp pm⟩;obtain ⟨j,op,rfl,hr,hj⟩:=h.lv;exact ⟨j,op,rfl,hr.hp hp hj (p1 _ _ hr),qa1 hj hp.next⟩
theorem WdR.fr {H H':AH}{b:Nat}{s:Ms}{v lv iv qv:AV}{l:List (AV×Rc)}{kv:Kv}{N:Nat}(h:WdR H b s v lv iv qv l kv N){p:Nat->Prop}(hp:HP p H H') (pb:p b) (p44:∀j cc e op ro,H.get j=some (.cells cc e 44 op ro)->p j) (p2:∀j cc e op ro,H.get j=some (.cells cc e 2 op ro)->p j)
  (p1:∀j op,Row H j false op 3 1 lvL->p j) (pi:∀j o n c op,iv= .sl j o n c op->p j) (pq:∀j o n c op,qv= .sl j o n c op->p j):WdR H' b s v lv iv qv l kv N :=
 ⟨qa1 h.lt hp.next,h.nb,(hp.get h.lt pb).trans h.box,h.tb.hq hp p44 p2 p1,OwnS.hq h.ids hp pi,h.bs.hq hp pq,h.f,h.ok,h.nd⟩
def Mx (H:AH) (N b mb:Nat) (s:Ms):Prop:=N<=b/\N<=mb/\ ∃v lv,MdR H b mb s v lv
def Wx (H:AH) (N b:Nat) (s:Ms) (iv qv:AV) (n:Nat):Prop:= ∃v lv l kv,WdR H b s v lv iv qv l kv N/\(n<=999->qv= .nilSl\/kv≠ [])/\kv.length<=n
theorem Mx.hx {H H':AH}{N b mb:Nat}{s:Ms}(h:Mx H N b mb s) (hx:HX H H'):Mx H' N b mb s:=by
 obtain ⟨h1,h2,v,lv,h3⟩:=h;exact ⟨h1,h2,v,lv,h3.hx hx⟩
theorem Wx.hx {H H':AH}{N b:Nat}{s:Ms}{iv qv:AV}{n:Nat}(h:Wx H N b s iv qv n) (hx:HX H H'):Wx H' N b s iv qv n:=by
 obtain ⟨v,lv,l,kv,h1,h2⟩:=h;exact ⟨v,lv,l,kv,h1.hx hx,h2⟩
def Dj (a b:AV):Prop:= ∀j,blkNe a j\/blkNe b j
theorem Dj.symm {a b:AV}(h:Dj a b):Dj b a:=fun j=>(h j).symm
theorem Dj.of {a b:AV}(h:Dj a b){j o n c:Nat}{op:Bool}(e:b= .sl j o n c op):blkNe a j:=(h j).elim id fun hb=>absurd e (hb _ _ _ _)
theorem mx_z {H:AH}{N b mb:Nat}{s:Ms}(h:Mx H N b mb s){j z:Nat}{cc:Ce}{e:Nat}{op ro:Bool}(hz:z≠8) (hg:H.get j=some (.cells cc e z op ro)):j≠b/\j≠mb:=by
 obtain ⟨_,_,v,lv,h3⟩:=h;refine ⟨fun e=> ?_,fun e=> ?_⟩
 ·subst e;rw [h3.box] at hg;cases hg;exact hz rfl
 ·subst e
  obtain ⟨_,es,c,kv,gm,_⟩:=h3.mp;rw [gm] at hg;cases hg
theorem mx_m {H:AH}{N b mb:Nat}{s:Ms}(h:Mx H N b mb s){j:Nat}{es:List (AV×AV×Nat)}{c:Nat}(hg:H.get j=some (.map es c)):j≠b:=by
 obtain ⟨_,_,v,lv,h3⟩:=h;intro e;subst e;rw [h3.box] at hg;cases hg
theorem wx_z {H:AH}{N b:Nat}{s:Ms}{iv qv:AV}{n:Nat}(h:Wx H N b s iv qv n){j z:Nat}{cc:Ce}{e:Nat}{op ro:Bool}(h9:z≠9) (h1:z≠1) (h16:z≠16384) (hg:H.get j=some (.cells cc e z op ro)):j≠b/\blkNe iv j/\blkNe qv j:=by
 obtain ⟨v,lv,l,kv,h3,_⟩:=h;refine ⟨fun e=> ?_,OwnS.ne h3.ids hg fun e=>h1 e.symm,h3.bs.ne hg fun e=>h16 e.symm⟩
 subst e;rw [h3.box] at hg;cases hg;exact h9 rfl
theorem wx_m {H:AH}{N b:Nat}{s:Ms}{iv qv:AV}{n:Nat}(h:Wx H N b s iv qv n){j:Nat}{es:List (AV×AV×Nat)}{c:Nat}(hg:H.get j=some (.map es c)):j≠b/\blkNe iv j/\blkNe qv j:=by
 obtain ⟨v,lv,l,kv,h3,_⟩:=h;refine ⟨fun e=> ?_,?_,?_⟩
 ·subst e;rw [h3.box] at hg;cases hg
 ·rcases h3.ids.2 with ⟨rfl,_⟩|⟨i,op2,rfl,⟨cc,g,_⟩,_⟩
  ·exact zka _
  ·exact zla fun e=>by subst e;rw [hg] at g;cases g
 ·intro o n c op e
  obtain ⟨_,_,_,_,g⟩:=h3.bs.blk e;rw [hg] at g;cases g
theorem wx_lv {H:AH}{N b:Nat}{s:Ms}{iv qv:AV}{n:Nat}(h:Wx H N b s iv qv n){j:Nat}{op:Bool}(hr:Row H j false op 3 1 lvL):j≠b/\blkNe iv j/\blkNe qv j:=by
 obtain ⟨v,lv,l,kv,h3,_⟩:=h;refine ⟨fun e=> ?_,ids_lv h3.ids h3.nd hr,?_⟩
 ·subst e;obtain ⟨c,g,_⟩:=hr;rw [h3.box] at g;cases g
 ·obtain ⟨c,g,_⟩:=hr
  exact h3.bs.ne g dC
theorem wx_low {H:AH}{N b:Nat}{s:Ms}{iv qv:AV}{n:Nat}(h:Wx H N b s iv qv n){j:Nat}(hj:j<N):j≠b/\blkNe iv j/\blkNe qv j:=by
 obtain ⟨v,lv,l,kv,h3,_⟩:=h;have:=h3.nb;refine ⟨oM,?_,?_⟩
 ·rcases h3.ids.2 with ⟨rfl,_⟩|⟨i,op2,rfl,_,hN,_⟩
  ·exact zka _
  ·exact zla oM
 ·rcases h3.bs with ⟨rfl,_⟩|⟨i,op2,rfl,hN,_⟩
  ·exact zka _
  ·exact zla oM
theorem Mx.byM {H H':AH}{N b mb b2 mb2:Nat}{s s2:Ms}(h:Mx H N b mb s) (k:Mx H N b2 mb2 s2) (hb:b≠b2) (hm:mb≠mb2) (hp:HP (fun i=>i≠b2/\i≠mb2) H H'):Mx H' N b mb s:=by
 obtain ⟨h1,h2,v,lv,h3⟩:=h;obtain ⟨_,es,c,kv,gm,_⟩:=h3.mp;obtain ⟨_,_,v2,lv2,k3⟩:=id k;obtain ⟨_,es2,c2,kv2,gm2,_⟩:=k3.mp;refine ⟨h1,h2,v,lv,h3.fr hp ⟨hb,fun e=> ?_⟩ ⟨mx_m k gm,hm⟩ (fun j cc e op ro hg=>mx_z k dC hg) fun j op hr=> ?_⟩
 ·subst e
  have hbx:=h3.box;rw [gm2] at hbx;cases hbx
 ·obtain ⟨cc,g,_⟩:=hr
  exact mx_z k dC g
theorem Wx.byM {H H':AH}{N b b2 mb2:Nat}{s s2:Ms}{iv qv:AV}{n:Nat}(h:Wx H N b s iv qv n) (k:Mx H N b2 mb2 s2) (hp:HP (fun i=>i≠b2/\i≠mb2) H H'):Wx H' N b s iv qv n:=by
 obtain ⟨v,lv,l,kv,h3,h4⟩:=h;refine ⟨v,lv,l,kv,h3.fr hp (mx_z k dC h3.box) (fun j cc e op ro hg=>mx_z k dC hg) (fun j cc e op ro hg=>mx_z k dC hg) (fun j op hr=> ?_) (fun j o n c op e=> ?_) (fun j o n c op e=> ?_),h4⟩
 ·obtain ⟨cc,g,_⟩:=hr
  exact mx_z k dC g
 ·rcases h3.ids.2 with ⟨e3,_⟩|⟨i2,op2,e3,hr,_⟩
  ·rw [e3] at e;cases e
  ·rw [e3] at e;cases e
   obtain ⟨cc,g,_⟩:=hr;exact mx_z k dC g
 ·obtain ⟨_,_,_,_,g⟩:=h3.bs.blk e
  exact mx_z k dC g
theorem Mx.byW {H H':AH}{N b mb b2:Nat}{s s2:Ms}{iv qv:AV}{n:Nat}(h:Mx H N b mb s) (k:Wx H N b2 s2 iv qv n) (hp:HP (fun i=>i≠b2/\blkNe iv i/\blkNe qv i) H H'):Mx H' N b mb s:=by
 obtain ⟨h1,h2,v,lv,h3⟩:=h;obtain ⟨_,es,c,kv,gm,_⟩:=h3.mp;exact ⟨h1,h2,v,lv,h3.fr hp (wx_z k dC dC dC h3.box) (wx_m k gm) (fun j cc e op ro hg=>wx_z k dC dC dC hg) fun j op hr=>wx_lv k hr⟩
theorem Wx.byW {H H':AH}{N b b2:Nat}{s s2:Ms}{iv qv iv2 qv2:AV}{n n2:Nat}(h:Wx H N b s iv qv n) (k:Wx H N b2 s2 iv2 qv2 n2) (hb:b≠b2) (hi:Dj iv2 iv) (hq:Dj qv2 qv) (hp:HP (fun i=>i≠b2/\blkNe iv2 i/\blkNe qv2 i) H H'):Wx H' N b s iv qv n:=by
 obtain ⟨v,lv,l,kv,h3,h4⟩:=h;obtain ⟨v2,lv2,l2,kv2,k3,_⟩:=id k;refine ⟨v,lv,l,kv,h3.fr hp ⟨hb,OwnS.ne k3.ids h3.box dC,k3.bs.ne h3.box dC⟩ (fun j cc e op ro hg=>wx_z k dC dC dC hg) (fun j cc e op ro hg=>wx_z k dC dC dC hg) (fun j op hr=>wx_lv k hr) (fun j o n c op e=> ?_) (fun j o n c op e=> ?_),h4⟩
 ·rcases h3.ids.2 with ⟨e3,_⟩|⟨i2,op2,e3,hr,_⟩
  ·rw [e3] at e;cases e
  ·have e':=e
   rw [e3] at e;cases e;obtain ⟨cc,g,_⟩:=hr;refine ⟨fun e2=> ?_,hi.of e',k3.bs.ne g dC⟩
   subst e2;rw [k3.box] at g;cases g
 ·obtain ⟨_,_,_,_,g⟩:=h3.bs.blk e
  refine ⟨fun e2=> ?_,OwnS.ne k3.ids g dC,hq.of e⟩
  subst e2;rw [k3.box] at g;cases g
theorem zub1 {H:AH}{N b:Nat}{s:Ms}{iv qv:AV}{n:Nat}(h:Wx H N b s iv qv n){j:Nat}(hj:H.next<=j):j≠b/\blkNe iv j/\blkNe qv j:=by
 obtain ⟨v,lv,l,kv,h3,_⟩:=h;exact h3.fresh hj
theorem KpR.dj {H H':AH}{b b2 N:Nat}{s2:Ms}{iv qv iv' qv' iv2 qv2:AV}{n2:Nat}(k:KpR H H' b iv qv iv' qv') (h:Wx H N b2 s2 iv2 qv2 n2) (hi:Dj iv iv2) (hq:Dj qv qv2):Dj iv' iv2/\Dj qv' qv2:=by
 refine ⟨fun j=> ?_,fun j=> ?_⟩
 ·by_cases hj:j<H.next
  ·exact (hi j).imp (k.i j hj) id
  ·exact .inr (zub1 h oM).2.1
 ·by_cases hj:j<H.next
  ·exact (hq j).imp (k.q j hj) id
  ·exact .inr (zub1 h oM).2.2
theorem gd_bd {t:Tb}(h:Gd t):Bd t:=⟨by have:=h.len;omega,fun r hr=>by have:=(h.all r hr).1;omega,by have:=h.nx;omega⟩
theorem zvb1 {H:AH}:FnE lookM 8 [] H fun r H'=>r= .bool true/\H'=H:=zcm (show lookM.ext 8=some xTrue from rfl) rfl
structure OdX (H:AH) (v:AV) (l:List Ot):Prop where
 sl:SlOd H v l
 by_:∀p,p∈l->ByS H p.2.2 p.1.b
theorem OdX.hx {H H':AH}{v:AV}{l:List Ot}(h:OdX H v l) (hx:HX H H'):OdX H' v l:=⟨h.sl.hx hx,fun p hp=>(h.by_ p hp).hx hx⟩
theorem like_sz {s w:Ms}(h:Like s w):(∀i,i<s.t.rs.length->1<=(get s.t.rs i).sz/\(get s.t.rs i).sz<=64)/\(∀i,i<w.t.rs.length->1<=(get w.t.rs i).sz/\(get w.t.rs i).sz<=64):=⟨h.sz,by rw [← h.t];exact h.sz⟩
theorem zxo1 {w:World}{a:Addr}{v:Value}(h:w.cell? a=some v):a.spot=none/\ ∃cs e fz,w.heap[a.block]? =some (.cells cs e fz):=by
 refine ⟨World.cell?_spot h,?_⟩;unfold World.cell? at h;split at h
 ·next c e fz hb=>exact ⟨_,_,_,hb⟩
 ·cases h
section
variable {H:Type}{enc:TypeId×Value->H}{P:Program}{w:World}{base:Nat}{spare:Nat->Bool}{held:Bool}{n:Nat}{T:TypeId}{cs:List Value}{o:Nat}{y:DataW H×List MemPlace}
theorem zuu {c:Value}(h:(cs.drop o).take 1= [c]):cs[o]? =some c:=by
 have:((cs.drop o).take 1)[0]? =some c:=by rw [h];rfl
 rw [qa2 oM,qj2] at this
 simpa using this
theorem zyo1 {k:IntKind}(hu:P.underlying T=some (.int k)) (h:DataW.trod enc P w base spare held n T ((cs.drop o).take 1)=some y):∃m,cs[o]? =some (.int k m):=by
 obtain ⟨m,hm,_⟩:=DataW.trod_int hu h;exact ⟨m,zuu hm⟩
theorem str_at (hu:P.underlying T=some .string) (h:DataW.trod enc P w base spare held n T ((cs.drop o).take 1)=some y):∃s,cs[o]? =some (.string s):=by
 obtain ⟨m,hm,_⟩:=DataW.trod_string hu h;exact ⟨m,zuu hm⟩
theorem zng1 {fs:Array Field}{fuel:Nat}{x:DataW H×List MemPlace}(hu:P.underlying T=some (.struct fs)) (h:DataW.trod enc P w base spare held fuel T cs=some x) :
  ∃m,cs.length=P.cellsOf T/\ ∀(i:Nat) (f:Field),fs[i]? =some f-> ∃y,DataW.trod enc P w base spare held m f.type ((cs.drop f.offset).take (P.cellsOf f.type))=some y:=by
 obtain ⟨xs,m,_,_,hl,hlen,hg⟩:=DataW.trod_struct hu h;refine ⟨m,hl,fun i f hf=> ?_⟩
 have hi:i<xs.length:=by
  rw [hlen];exact (qn2.1 hf).1
 rw [hg i f hf];exact ⟨xs[i],qr hi⟩
def RowS (w:World) (c:Value) (p:Nat->Value->Prop) (len:Nat):Prop:=(c= .slice none 0 0/\len=0)\/ ∃a cap,c= .slice (some a) len cap/\len<=cap/\cap<=maxLen/\(0<cap->a.spot=none/\(∃cs e fz,w.heap[a.block]? =some (.cells cs e fz))/\ ∀i,i<len-> ∃v,w.cell? ⟨a.block,a.off+i,none⟩=some v/\p i v)
theorem zrj1 {e:TypeId}{p:Value->Prop}(hu:P.underlying T=some (.slice e)) (hce:P.cellsOf e=1) (hp:∀m cs x,DataW.trod enc P w base (fun _=>true) held m e cs=some x-> ∃v,cs= [v]/\p v)
  (h:DataW.trod enc P w base (fun _=>true) held n T ((cs.drop o).take 1)=some y):∃c len,cs[o]? =some c/\RowS w c (fun _=>p) len:=by
 rcases Go.Deep.open_slice hu h with ⟨hcs,_⟩|⟨a,len,cap,m,n',D,Pl,hcs,_,hl,hm,hmm,_,hx⟩
 ·exact ⟨_,0,zuu hcs,.inl ⟨rfl,rfl⟩⟩
 ·have hmm:m=cap:=by rw [hmm];rfl
  subst hmm;rw [hce] at hx;have cell:∀i,i<m-> ∃v,w.cell? (a.add i)=some v/\p v:=fun i hi=>by
   obtain ⟨cs',h1,h2⟩:=hx i hi;obtain ⟨v,rfl,hv⟩:=hp _ _ _ h2;obtain ⟨_,_,h4⟩:=World.cells?_some h1;have:=h4 0 dC
   rw [qx4] at this;exact ⟨v,this,hv⟩
  refine ⟨_,len,zuu hcs,.inr ⟨a,m,rfl,hl,hm,fun h0=> ?_⟩⟩
  obtain ⟨v0,hv0,_⟩:=cell 0 h0;have hb:a.add 0=a:=rfl;rw [hb] at hv0;obtain ⟨hsp,hblk⟩:=zxo1 hv0;refine ⟨hsp,hblk,fun i hi=> ?_⟩
  obtain ⟨v,hv,hp'⟩:=cell i oM
  rw [zxk hsp] at hv;exact ⟨v,hv,hp'⟩
end
theorem zsj1 {a:Addr}:LenV (extSl a 0 0) 0:=by
 obtain ⟨k,o,he,hk⟩:=zwr (a:=a) (c:=0) (l:=0) dC
 have hb:Nat.ble 3 (k+3)=true:=by rw [Nat.ble_eq];omega
 have hs:Nat.sub (k+3) 3=k:=qy6 k 3;rw [he];refine ⟨fun {t e} ht H'=> ?_,rfl,rfl⟩
 show fstO (match evLen lookM t (.ext (k+3) a.block o) H' with|some v=>some (v,H')|none=>none)=_
 unfold evLen;rw [ht];simp only [hb,hs,hk];rfl
theorem ext_ne (a:Addr) (j:Nat):blkNe (extSl a 0 0) j:=fun o n c op e=>by
 obtain ⟨k,o',he,_⟩:=zwr (a:=a) (c:=0) (l:=0) dC
 rw [he] at e;cases e
theorem arg_S (k:Nat){w:World}{c:Value}{len:Nat}(h:RowS w c (fun _ v=> ∃s,v= .string s) len):∃(ss:List ByteArray) (b:ABlk×EB) (v:AV),Arg w k c (fun H v=>SlT H v ss) b v:=by
 rcases h with ⟨rfl,rfl⟩|⟨a,cap,rfl,hl,hm,hc⟩
 ·exact ⟨[],_,_,zuy w k fun H=>⟨zmu (H:=H) (.inl ⟨rfl,rfl⟩),fun h=>absurd h dC⟩⟩
 ·rcases qp3 cap with h0|h0
  ·subst h0
   obtain rfl:len=0:=oM
   exact ⟨[],(.defd,⟨0,0,0⟩),extSl a 0 0,rfl,fun _ _=>trivial,fun E _=>zlo E a dC dC,fun _ _=>⟨zsj1,fun h=>absurd h dC⟩⟩
  ·obtain ⟨hsp,hblk,hcell⟩:=hc h0
   let G:Nat->ByteArray:=fun i=>match w.cell? ⟨a.block,a.off+i,none⟩ with|some (.string s)=>s|_=>ByteArray.empty
   have hG:∀i,i<len->w.cell? ⟨a.block,a.off+i,none⟩=some (.string (G i)):=fun i hi=>by
    obtain ⟨v,h1,s,rfl⟩:=hcell i hi;show w.cell? ⟨a.block,a.off+i,none⟩=some (.string (match w.cell? ⟨a.block,a.off+i,none⟩ with|some (.string s)=>s|_=>ByteArray.empty))
    rw [h1]
   generalize G=G at hG;have hlen:((List.range len).map G).length=len:=by simp
   refine ⟨(List.range len).map G,_,_,zkh1 k (e:=9) (z:=1) (l:=((List.range len).map G).map AV.str) hsp hblk (fun E j v hj=> ?_) (fun H hk hr=> ?_)⟩
   ·by_cases hjl:j<len
    ·rw [qi1,qi1,qz4 hjl] at hj
     cases hj
     exact hG j hjl
    ·rw [qx1 (by simp;omega)] at hj;cases hj
   ·have hs:SlR H (.sl k 0 len cap false) len fun i=>.str ((((List.range len).map G)[i]?).getD ⟨#[]⟩):=hr.slR hk (qh2 _) fun i hi=>by
     rw [qu1,qi1,qi1,qz4 hi];rfl
    refine ⟨?_,fun _=> ?_⟩
    ·rw [hlen];exact zmu hs.is
    ·rw [hlen];exact hs
theorem arg_B (k:Nat){w:World}{c:Value}{len:Nat}(h:RowS w c (fun _ v=> ∃m:Int,v= .int .u8 m/\(Lit.int .u8 m).wf=true) len):∃(bs:List Nat) (b:ABlk×EB) (v:AV),Arg w k c (fun H v=>ByS H v bs) b v:=by
 rcases h with ⟨rfl,rfl⟩|⟨a,cap,rfl,hl,hm,hc⟩
 ·exact ⟨[],_,_,zuy w k fun H=>.inl ⟨rfl,zmu (H:=H) (.inl ⟨rfl,rfl⟩),fun j _=>zka j⟩⟩
 ·rcases qp3 cap with h0|h0
  ·subst h0
   obtain rfl:len=0:=oM
   exact ⟨[],(.defd,⟨0,0,0⟩),extSl a 0 0,rfl,fun _ _=>trivial,fun E _=>zlo E a dC dC,fun _ _=>.inl ⟨rfl,zsj1,fun j _=>ext_ne a j⟩⟩
  ·obtain ⟨hsp,hblk,hcell⟩:=hc h0
   let G:Nat->Nat:=fun i=>match w.cell? ⟨a.block,a.off+i,none⟩ with|some (.int .u8 m)=>m.toNat|_=>0
   have hG:∀i,i<len->w.cell? ⟨a.block,a.off+i,none⟩=some (.int .u8 (.ofNat (G i)))/\G i<256:=fun i hi=>by
    obtain ⟨v,h1,m,rfl,hw⟩:=hcell i hi;have hr:0<=m/\m<=255:=by
     unfold Lit.wf at hw;rw [qm,qs,qs] at hw;exact hw
    have hg:G i=m.toNat:=by
     show (match w.cell? ⟨a.block,a.off+i,none⟩ with|some (.int .u8 m)=>m.toNat|_=>0)=_
     rw [h1]
    rw [hg,h1];refine ⟨?_,oM⟩
    have:Int.ofNat m.toNat=m:=Int.toNat_of_nonneg hr.1;rw [this]
   generalize G=G at hG;have hlen:((List.range len).map G).length=len:=by simp
   have hbyt:Byt ((List.range len).map G):=fun x hx=>by
    obtain ⟨i,hi,rfl⟩:=qd3.1 hx;exact (hG i (qc3.1 hi)).2
   have hcl:∀(E:Env) j v,(u8L ((List.range len).map G))[j]? =some v->w.cell? ⟨a.block,a.off+j,none⟩=some (conc E v):=fun E j v hj=>by
    by_cases hjl:j<len
    ·unfold u8L at hj
     rw [qi1,qi1,qz4 hjl] at hj;cases hj;exact (hG j hjl).1
    ·rw [qx1 (by unfold u8L;simp;omega)] at hj;cases hj
   obtain ⟨h1,h2⟩:=arg_sl k (len:=len) (cap:=cap) (e:=5) (z:=1) (l:=u8L ((List.range len).map G)) hsp hblk hcl;refine ⟨(List.range len).map G,(.cells (byC ((List.range len).map G)) 5 1 false true,⟨a.block,a.off,0⟩),.sl k 0 len cap false,rfl,fun E hE=> ?_,h1,fun bs hb=> ?_⟩
   ·obtain ⟨cs,e',fz,k1,k2,_⟩:=h2 E hE
    exact ⟨cs,e',fz,k1,fun j v hj=>k2 j v (by rw [byC_l hbyt] at hj;exact hj),fun h=>by cases h⟩
   ·refine .inr ⟨k,0,cap,false,(List.range len).map G,5,1,false,true,by rw [hlen],(qq.1 hb).1,by rw [zty];exact hb,hbyt,oM,?_,by rw [hlen];exact hl⟩
    rw [qt2];exact qx (qn _)
abbrev PS:Nat->Value->Prop:=fun _ v=> ∃s,v= .string s
abbrev PB:Nat->Value->Prop:=fun _ v=> ∃m:Int,v= .int .u8 m/\(Lit.int .u8 m).wf=true
theorem zzo1:Tryz.prog.cellsOf 3=1:=kR
theorem zap1:Tryz.prog.cellsOf 9=1:=kR
theorem cellsB:Tryz.prog.cellsOf 5=1:=kR
theorem cellsST:Tryz.prog.cellsOf 29=1:=kR
theorem cellsSB:Tryz.prog.cellsOf 30=1:=kR
theorem cellsO:Tryz.prog.cellsOf 32=7:=kR
section
variable {H:Type}{enc:TypeId×Value->H}{w:World}{base:Nat}{held:Bool}{n:Nat}{cs:List Value}{x:DataW H×List MemPlace}
theorem zbp1 (h:DataW.trod enc Tryz.prog w base (fun _=>true) held n 32 cs=some x):∃op nm to n3 n4 c5 l5 c6 l6,cs[0]? =some (.int .i64 op)/\cs[1]? =some (.string nm)/\cs[2]? =some (.string to)/\cs[3]? =some (.int .i64 n3)/\cs[4]? =some (.int .i64 n4) /\
  cs[5]? =some c5/\RowS w c5 PS l5/\cs[6]? =some c6/\RowS w c6 PB l6:=by
 obtain ⟨m,hl,hf⟩:=zng1 Tryz.underlying32 h;obtain ⟨op,e0⟩:∃v,cs[0]? =some (.int .i64 v):=by obtain ⟨y,hy⟩:=hf 0 _ rfl;exact zyo1 Tryz.underlying3 (by rw [← zzo1];exact hy)
 obtain ⟨nm,e1⟩:∃v,cs[1]? =some (.string v):=by obtain ⟨y,hy⟩:=hf 1 _ rfl;exact str_at Tryz.underlying9 (by rw [← zap1];exact hy)
 obtain ⟨to,e2⟩:∃v,cs[2]? =some (.string v):=by obtain ⟨y,hy⟩:=hf 2 _ rfl;exact str_at Tryz.underlying9 (by rw [← zap1];exact hy)
 obtain ⟨n3,e3⟩:∃v,cs[3]? =some (.int .i64 v):=by obtain ⟨y,hy⟩:=hf 3 _ rfl;exact zyo1 Tryz.underlying3 (by rw [← zzo1];exact hy)
 obtain ⟨n4,e4⟩:∃v,cs[4]? =some (.int .i64 v):=by obtain ⟨y,hy⟩:=hf 4 _ rfl;exact zyo1 Tryz.underlying3 (by rw [← zzo1];exact hy)
 obtain ⟨c5,l5,e5,r5⟩:∃c len,cs[5]? =some c/\RowS w c PS len:=by
  obtain ⟨y,hy⟩:=hf 5 _ rfl;exact zrj1 (p:=fun v=> ∃s,v= .string s) Tryz.underlying29 zap1 (fun m cs x h=>by obtain ⟨s,hs,_⟩:=DataW.trod_string Tryz.underlying9 h;exact ⟨_,hs,_,rfl⟩) (by rw [← cellsST];exact hy)
 obtain ⟨c6,l6,e6,r6⟩:∃c len,cs[6]? =some c/\RowS w c PB len:=by
  obtain ⟨y,hy⟩:=hf 6 _ rfl;exact zrj1 (p:=fun v=> ∃m:Int,v= .int .u8 m/\(Lit.int .u8 m).wf=true) Tryz.underlying30 cellsB (fun m cs x h=>by obtain ⟨s,hs,_,hw⟩:=DataW.trod_int Tryz.underlying5 h;exact ⟨_,hs,_,rfl,hw⟩) (by rw [← cellsSB];exact hy)
 exact ⟨op,nm,to,n3,n4,c5,l5,c6,l6,e0,e1,e2,e3,e4,e5,r5,e6,r6⟩
end
structure OD where
 o:Od
 b1:ABlk×EB
 u1:AV
 b2:ABlk×EB
 u2:AV
structure OA (w:World) (x:Addr) (i:Nat) (d:OD):Prop where
 a1:∃c,Arg w (2+2*i) c (fun H v=>SlT H v d.o.l) d.b1 d.u1
 a2:∃c,Arg w (3+2*i) c (fun H v=>ByS H v d.o.b) d.b2 d.u2
 cell:∀E:Env,E (2+2*i)=d.b1.2->E (3+2*i)=d.b2.2-> ∀j v,(odL d.o d.u1 d.u2)[j]? =some v->w.cell? ⟨x.block,x.off+(i*7+j),none⟩=some (conc E v)
theorem oa_of {w:World}{x:Addr}{i:Nat}{cs:List Value}(hsp:x.spot=none) (h1:w.cells? 0 (x.add (i*7)) 7=some cs){op n3 n4:Int}{nm to:ByteArray}{c5 c6:Value}{l5 l6:Nat}(e0:cs[0]? =some (.int .i64 op)) (e1:cs[1]? =some (.string nm)) (e2:cs[2]? =some (.string to)) (e3:cs[3]? =some (.int .i64 n3)) (e4:cs[4]? =some (.int .i64 n4))
  (e5:cs[5]? =some c5) (r5:RowS w c5 PS l5) (e6:cs[6]? =some c6) (r6:RowS w c6 PB l6):∃d,OA w x i d:=by
 obtain ⟨ss,b1,u1,g1⟩:=arg_S (2+2*i) r5;obtain ⟨bs,b2,u2,g2⟩:=arg_B (3+2*i) r6;refine ⟨⟨⟨op,nm,to,n3,n4,ss,bs⟩,b1,u1,b2,u2⟩,⟨_,g1⟩,⟨_,g2⟩,fun E hE1 hE2 j v hj=> ?_⟩
 obtain ⟨_,_,h4⟩:=World.cells?_some h1;have hc:∀j,j<7->w.cell? ⟨x.block,x.off+(i*7+j),none⟩=cs[j]? :=fun j hj=>by
  have:=h4 j hj;rw [zxk hsp,zxk rfl] at this;rw [← this];simp only [qa6]
 have hj7:j<7:=(qq.1 hj).1;rw [hc j hj7];have v1:=g1.val E hE1;have v2:=g2.val E hE2
 match j,hj7,hj with
 |0,_,hj=>(cases hj;exact e0)
 |1,_,hj=>(cases hj;exact e1)
 |2,_,hj=>(cases hj;exact e2)
 |3,_,hj=>(cases hj;exact e3)
 |4,_,hj=>(cases hj;exact e4)
 |5,_,hj=>(cases hj;rw [v1];exact e5)
 |6,_,hj=>(cases hj;rw [v2];exact e6)
def blkF (r f:ABlk×EB) (d:Nat->OD) (k:Nat):ABlk×EB:=if k=0 then r else if k=1 then f else if k%2=0 then (d ((k - 2) / 2)).b1 else (d ((k - 3) / 2)).b2
def blks (r f:ABlk×EB) (d:Nat->OD) (len:Nat):List (ABlk×EB):=(List.range (2+2*len)).map (blkF r f d)
theorem zwp {r f:ABlk×EB}{d:Nat->OD}{len k:Nat}(hk:k<2+2*len):(blks r f d len)[k]? =some (blkF r f d k):=by
 unfold blks;rw [qi1,qz4 hk];rfl
theorem ztj1 {r f:ABlk×EB}{d:Nat->OD}{len k:Nat}{b:ABlk×EB}(h:(blks r f d len)[k]? =some b):k<2+2*len/\b=blkF r f d k:=by
 have hk:=(qq.1 h).1;unfold blks at hk;rw [qt3,List.length_range] at hk;rw [zwp hk] at h;cases h;exact ⟨hk,rfl⟩
theorem zcp1 {r f:ABlk×EB}{d:Nat->OD}(i:Nat):blkF r f d (2+2*i)=(d i).b1:=by
 unfold blkF;rw [qg oM,qg oM,qj oM,show (2+2*i - 2) / 2=i from oM]
theorem zog1 {r f:ABlk×EB}{d:Nat->OD}(i:Nat):blkF r f d (3+2*i)=(d i).b2:=by
 unfold blkF;rw [qg oM,qg oM,qg oM,show (3+2*i - 3) / 2=i from oM]
structure Ins (w:World) (v0 v1:Value) (l:List Ot) (bs:List (ABlk×EB)) (v bv:AV) (nb:Nat) (fl:Nat->Bool):Prop where
 od:OdX (hA (bs.map Prod.fst)) v l
 bo:SlR (hA (bs.map Prod.fst)) bv nb fun k=>.bool (fl k)
 own:∀b∈bs,b.1.own=false
 br:∀k b,bs[k]? =some b-> ∀E:Env,(∀k b,bs[k]? =some b->E k=b.2)->BRel E k b.1 w
 val:∀E:Env,(∀k b,bs[k]? =some b->E k=b.2)->concL E [v,bv]= [v0,v1]
theorem ins_row {w:World}{x:Addr}{len cap:Nat}(hsp:x.spot=none) (hblk:∃cs e fz,w.heap[x.block]? =some (.cells cs e fz)){d:Nat->OD}(hO:∀i,i<len->OA w x i (d i)){f:ABlk×EB}{bv:AV}{nb:Nat}{fl:Nat->Bool}{v1:Value}(hf:Arg w 1 v1 (fun H v=>SlR H v nb fun k=>.bool (fl k)) f bv) :
  ∃(l:List Ot) (bs:List (ABlk×EB)),l.length=len/\Ins w (.slice (some x) len cap) v1 l bs (.sl 0 0 len cap false) bv nb fl:=by
 let l:List Ot:=(List.range len).map fun i=>((d i).o,(d i).u1,(d i).u2)
 have hl:∀i,i<len->l[i]? =some ((d i).o,(d i).u1,(d i).u2):=fun i hi=>by
  show ((List.range len).map fun i=>((d i).o,(d i).u1,(d i).u2))[i]? =_
  rw [qi1,qz4 hi];rfl
 have hll:l.length=len:=by show ((List.range len).map _).length=len;rw [qt3,List.length_range]
 have hmem:∀p,p∈l-> ∃i,i<len/\p=((d i).o,(d i).u1,(d i).u2):=fun p hp=>by
  obtain ⟨i,hi,rfl⟩:=qd3.1 hp;exact ⟨i,qc3.1 hi,rfl⟩
 generalize l=l at *
 let r:ABlk×EB:=(.cells (.lst (encC otL l)) 32 7 false true,⟨x.block,x.off,0⟩)
 have hb:∀k,k<2+2*len->((blks r f d len).map Prod.fst)[k]? =some (blkF r f d k).1:=fun k hk=>by
  rw [qi1,zwp hk];rfl
 have henc:(encC otL l).length=len*7:=by rw [znc zhm,hll]
 have hn0:0<(hA ((blks r f d len).map Prod.fst)).next:=by
  show 0<((blks r f d len).map Prod.fst).length
  unfold blks;rw [qt3,qt3,List.length_range];omega
 have hrow:Row (hA ((blks r f d len).map Prod.fst)) 0 true false 32 7 (encC otL l):=⟨.lst (encC otL l),by rw [zty,hb 0 oM];rfl,rfl⟩
 refine ⟨l,blks r f d len,hll,⟨⟨⟨?_,fun p hp=> ?_⟩,fun p hp=> ?_⟩,hf.rd _ ?_,fun b hb'=> ?_,fun k b hk E hE=> ?_,fun E hE=> ?_⟩⟩
 ·refine ⟨by rw [hll];exact henc,.inr ⟨0,0,cap,false,true,false,32,7,encC otL l,by rw [hll],hn0,hrow,by rw [henc,hll];omega,?_⟩⟩
  rw [qt2];exact qx (by rw [henc,hll];exact qn _)
 ·obtain ⟨i,hi,rfl⟩:=hmem p hp
  obtain ⟨c,g1⟩:=(hO i hi).a1;obtain ⟨c2,g2⟩:=(hO i hi).a2;exact ⟨g1.rd _ (by rw [hb _ oM,zcp1]),(g2.rd ((blks r f d len).map Prod.fst) (by rw [hb _ oM,zog1])).len⟩
 ·obtain ⟨i,hi,rfl⟩:=hmem p hp
  obtain ⟨c2,g2⟩:=(hO i hi).a2;exact g2.rd _ (by rw [hb _ oM,zog1])
 ·rw [hb 1 oM];rfl
 ·obtain ⟨k,hk⟩:=qz.1 hb'
  obtain ⟨hk,rfl⟩:=ztj1 hk;unfold blkF;split
  ·rfl
  split
  ·exact hf.own
  split
  ·obtain ⟨c,g1⟩:=(hO ((k - 2) / 2) oM).a1;exact g1.own
  ·obtain ⟨c,g1⟩:=(hO ((k - 3) / 2) oM).a2;exact g1.own
 ·obtain ⟨hkl,rfl⟩:=ztj1 hk
  have hEk:∀k,k<2+2*len->E k=(blkF r f d k).2:=fun k hk=>hE k _ (zwp hk)
  by_cases k0:k=0
  ·subst k0
   obtain ⟨cs,e',fz,hh⟩:=hblk;have hE0:E 0=⟨x.block,x.off,0⟩:=hEk 0 oM
   show BRel E 0 (.cells (.lst (encC otL l)) 32 7 false true) w
   refine ⟨cs,e',fz,by rw [hE0];exact hh,fun j v hj=> ?_,fun h=>by cases h⟩
   have hj7:j<len*7:=by have:=(qq.1 hj).1;rwa [show (Ce.lst (encC otL l)).l=encC otL l from rfl,henc] at this
   have hi:j / 7<len:=oM
   have hj2:(encC otL l)[j / 7*7+j%7]? =some v:=by rw [show j / 7*7+j%7=j from oM];exact hj
   rw [zvi zhm (hl _ hi) oM] at hj2
   have:=(hO _ hi).cell E (by rw [hEk _ oM,zcp1]) (by rw [hEk _ oM,zog1]) (j%7) v hj2
   rw [show j / 7*7+j%7=j from oM] at this
   rw [hE0];unfold World.cell? at this;simp only [hh,qc4,qj1,qq3] at this;exact this
  ·by_cases k1:k=1
   ·subst k1
    exact hf.br E (hEk 1 oM)
   ·by_cases ke:k%2=0
    ·obtain ⟨c,g1⟩:=(hO ((k - 2) / 2) oM).a1
     have hk2:k=2+2*((k - 2) / 2):=oM
     have he:=zcp1 (r:=r) (f:=f) (d:=d) ((k - 2) / 2);rw [← hk2] at he g1;rw [he];exact g1.br E (by rw [hEk _ hkl,he])
    ·obtain ⟨c,g1⟩:=(hO ((k - 3) / 2) oM).a2
     have hk2:k=3+2*((k - 3) / 2):=oM
     have he:=zog1 (r:=r) (f:=f) (d:=d) ((k - 3) / 2);rw [← hk2] at he g1;rw [he];exact g1.br E (by rw [hEk _ hkl,he])
 ·have h0:E 0=⟨x.block,x.off,0⟩:=hE 0 _ (zwp oM)
  have h1:conc E bv=v1:=hf.val E (hE 1 _ (zwp oM))
  show [conc E (.sl 0 0 len cap false),conc E bv]=_
  rw [h1];obtain ⟨xb,xo,xs⟩:=x;simp only at hsp;subst hsp;show [Value.slice (some ⟨(E 0).blk,(E 0).off+0,none⟩) len (cap+0),v1]=_
  rw [h0];rfl
theorem mnew_x {H:AH}[hn:HN H]{N:Nat}(hN:N<=H.next):FnE lookM 5 [] H fun r H'=>(∃b mb,r= .ptr b 0/\H.next<=b/\H.next<=mb/\Mx H' N b mb M0)/\HX H H' :=
 mnew_ok.mono fun r H' ⟨⟨b,mb,v,lv,h1,h2,h3,h4⟩,h5⟩=>⟨⟨b,mb,h1,h2,h3,oM,oM,v,lv,h4⟩,h5⟩
theorem wnew_x {H:AH}[hn:HN H]{N:Nat}(hN:N<=H.next):FnE lookM 6 [] H fun r H'=>(∃b,r= .ptr b 0/\H.next<=b/\Wx H' N b M0 .nilSl .nilSl 0)/\HX H H' :=
 wnew_ok.mono fun r H' ⟨⟨b,lv,h1,h2,h3⟩,h5⟩=>⟨⟨b,h1,h2,.nilSl,lv, [], [],⟨h3.lt,oM,h3.box,h3.tb,OwnS.le h3.ids hN,h3.bs.le hN,h3.f,h3.ok,h3.nd⟩,fun _=>.inl rfl,qn _⟩,h5⟩
theorem mcopy_x {H:AH}[hn:HN H]{N b mb:Nat}{s:Ms}(h:Mx H N b mb s):FnE lookM 18 [.ptr b 0] H fun r H'=>(∃b2 mb2,r= .ptr b2 0/\H.next<=b2/\H.next<=mb2/\Mx H' N b2 mb2 s)/\HX H H':=by
 obtain ⟨h1,h2,v,lv,h3⟩:=h;have hlt:=h3.lt;exact (copy_ok h3).mono fun r H' ⟨⟨b2,mb2,k1,k2,k3,k4⟩,k5⟩=>⟨⟨b2,mb2,k1,k2,k3,oM,oM,v,lv,k4⟩,k5⟩
theorem zxp {H:AH}[hn:HN H]{N b mb b2 mb2:Nat}{s s2:Ms}(h:Mx H N b mb s) (k:Mx H N b2 mb2 s2) (hg:Gd s.t):FnE lookM 19 [.ptr b 0,.ptr b2 0] H fun r H'=>r= .bool (sameM s s2)/\HX H H':=by
 obtain ⟨_,_,v,lv,h3⟩:=h;obtain ⟨_,_,v2,lv2,k3⟩:=k;exact same_ok h3 k3 (gd_bd hg)
theorem zvu {H:AH}[hn:HN H]{N b b2:Nat}{s s2:Ms}{iv qv iv2 qv2:AV}{n n2:Nat}(h:Wx H N b s iv qv n) (k:Wx H N b2 s2 iv2 qv2 n2) (hg:Gd s.t) (hg2:Gd s2.t) (hn1:n<=1000) (hn2:n2<=1000):FnE lookM 20 [.ptr b 0,.ptr b2 0] H fun r H'=>r= .bool (sameM s s2)/\HX H H':=by
 obtain ⟨v,lv,l,kv,h3,_,h5⟩:=h;obtain ⟨v2,lv2,l2,kv2,k3,_,k5⟩:=k;exact zuo1 h3 k3 (gd_bd hg) (gd_bd hg2) oM oM
theorem mrep_x {H:AH}[hn:HN H]{N b mb:Nat}{s w:Ms}{o:Od}{ov bv:AV}(h:Mx H N b mb s) (hl:Like s w) (hg:Gd s.t) (hN:H.lo<=N) (ho:OdIn H o ov bv) (hb:ByS H bv o.b) :
  FnE lookM 10 [.ptr b 0,odA o ov bv] H fun r H'=>Mx H' N b mb (zyd true s o).2.2/\HP (fun i=>i≠b/\i≠mb) H H':=by
 obtain ⟨h1,h2,v,lv,h3⟩:=h;exact (zqo1 h3 (gd_bd hg) oM oM ho hb hl.sz fun r hr=>by have:=(hg.all r hr).2;omega).mono fun r H' ⟨rp,_,_,⟨v',lv',hm⟩,hp⟩=>⟨⟨h1,h2,v',lv',hm⟩,hp⟩
theorem wrep_x {H:AH}[hn:HN H]{N b:Nat}{s w:Ms}{iv qv:AV}{n:Nat}{o:Od}{ov bv:AV}(h:Wx H N b w iv qv n) (hl:Like s w) (hg:Gd w.t) (hN:H.lo<=N) (hn1:n<=998) (ho:OdIn H o ov bv) (hb:ByS H bv o.b) :
  FnE lookM 11 [.ptr b 0,odA o ov bv] H fun r H'=> ∃iv2 qv2,Wx H' N b (zyd false w o).2.2 iv2 qv2 (n+1)/\KpR H H' b iv qv iv2 qv2:=by
 obtain ⟨v,lv,l,kv,h3,h4,h5⟩:=h;refine (zmg1 h3 (h4 oM) (gd_bd hg) hN oM ho hb (like_sz hl).2 fun r hr=>by have:=(hg.all r hr).2;omega).mono fun r H' hh=> ?_
 obtain ⟨rp,_,_,v',lv',iv2,qv2,l',kv',hw,hq,hlen,hk⟩:=hh;exact ⟨iv2,qv2,⟨v',lv',l',kv',hw,fun _=>hq,oM⟩,hk⟩
theorem wd_all (nn:Int) (v lv iv qv:AV) (e z:Nat) (op ro:Bool):sbB (some (.cells (.lst (wdL nn v lv iv qv)) e z op ro)) 0 9=some (.agg (wdL nn v lv iv qv)):=zah rfl
theorem wd_one {nn:Int}{v lv iv qv:AV}(h1:v.oneCell=true) (h2:lv.oneCell=true) (h3:iv.oneCell=true) (h4:qv.oneCell=true):(wdL nn v lv iv qv).all AV.oneCell=true:=by
 show (true && (v.oneCell && (true && (true && (true && (true && (lv.oneCell && (iv.oneCell && (qv.oneCell && true)))))))))=true
 rw [h1,h2,h3,h4];rfl
theorem bs0_z {s e:Nat}{z:AV}(H:AH):bsF s 0 z e (zipF [] []) H=some (.sl H.next 0 0 0 false,H.new (.cells (.byt 0 0) e s false false)):=bs0_q
theorem uOd:lookM.under 22=some (.slice 32):=kR
theorem uBo:lookM.under 47=some (.slice 4):=kR
theorem nb4 (xo yo:Operand) (a:Bool):binF .neq (evBin lookM .neq 4 xo yo) (.bool a) (.bool a)=some (.bool false):=by
 rw [zzl1 kR]
 simp
theorem zmm {s w:Ms}(h:Like s w) (hg:Gd s.t):Gd w.t:=by rw [← h.t];exact hg
structure Lw (H0 H:AH) (bm mm bn mn bw bv:Nat) (sm sn sw sv:Ms) (iw qw iv qv:AV) (q:Nat):Prop where
 hx:HX H0 H
 m:Mx H H0.next bm mm sm
 n:Mx H H0.next bn mn sn
 w:Wx H H0.next bw sw iw qw q
 v:Wx H H0.next bv sv iv qv q
 di:Dj iw iv
 dq:Dj qw qv
 lm:Like sm sw
 ln:Like sn sv
 gm:Gd sm.t
 gn:Gd sn.t
theorem Lw.to {H0 H H':AH}{bm mm bn mn bw bv:Nat}{sm sn sw sv:Ms}{iw qw iv qv:AV}{q:Nat}(h:Lw H0 H bm mm bn mn bw bv sm sn sw sv iw qw iv qv q) (hx:HX H H'):Lw H0 H' bm mm bn mn bw bv sm sn sw sv iw qw iv qv q :=
 ⟨h.hx.trans hx,h.m.hx hx,h.n.hx hx,h.w.hx hx,h.v.hx hx,h.di,h.dq,h.lm,h.ln,h.gm,h.gn⟩
theorem mx_low {H H' H0:AH}{b mb:Nat}{s:Ms}(h:Mx H H0.next b mb s) (hx:HX H0 H) (hp:HP (fun i=>i≠b/\i≠mb) H H'):HX H0 H':=HX.hp2 hx hp fun q hq=>by
 obtain ⟨h1,h2,_⟩:=h;exact ⟨oM,oM⟩
theorem zuj1 {H H' H0:AH}{b:Nat}{s:Ms}{iv qv:AV}{n:Nat}(h:Wx H H0.next b s iv qv n) (hx:HX H0 H) (hp:HP (fun i=>i≠b/\blkNe iv i/\blkNe qv i) H H'):HX H0 H':=HX.hp2 hx hp fun q hq=>wx_low h hq
theorem Lw.repM {H0 H H':AH}{bm mm bn mn bw bv:Nat}{sm sn sw sv:Ms}{iw qw iv qv:AV}{q:Nat}(h:Lw H0 H bm mm bn mn bw bv sm sn sw sv iw qw iv qv q) (hbn:bm≠bn) (hmn:mm≠mn){s':Ms}(hm:Mx H' H0.next bm mm s') (hp:HP (fun i=>i≠bm/\i≠mm) H H') :
  HX H0 H'/\Mx H' H0.next bn mn sn/\Wx H' H0.next bw sw iw qw q/\Wx H' H0.next bv sv iv qv q :=
 ⟨mx_low h.m h.hx hp,h.n.byM h.m (fun e=>hbn e.symm) (fun e=>hmn e.symm) hp,h.w.byM h.m hp,h.v.byM h.m hp⟩
set_option maxHeartbeats 64000000 in
theorem law_ok {H:AH}[hn:HN H]{v bv0:AV}{l:List Ot}{nb:Nat}{bs:Nat->Bool}(hl:OdX H v l) (hb:SlR H bv0 nb fun k=>.bool (bs k)) (hm:l.length<=9223372036854775807) (hmb:nb<=9223372036854775807) :
  FnE lookM 4 [v,bv0] H fun r H'=>r= .bool true:=by
 refine fI Tryz.f4 ?_;have hlo:=hn.lo;have hlen:=fun H'=>zwc (H':=H') uOd hl.sl.is
 have hlenb:=fun H'=>zwc (H':=H') uBo hb.is
 refine uT0 ?_;refine cR_f (mnew_x (N:=H.next) (qn _)) ?_;rintro r1 H1 ⟨⟨bm,mm,rfl,hbm,hmm,m1⟩,hx1⟩;haveI:=hx1.hn;have hn1:=hx1.next;refine uT0 ?_;refine cR_f (mnew_x (N:=H.next) oM) ?_
 rintro r2 H2 ⟨⟨bn,mn,rfl,hbn,hmn,m2⟩,hx2⟩;have hx02:=hx1.trans hx2;haveI:=hx02.hn;have hn2:=hx2.next;have hbmn:bm≠bn/\mm≠mn:=by
  obtain ⟨_,_,v,lv,h3⟩:=m1;have h1:=h3.lt;have h2:=h3.mp.1;exact ⟨oM,oM⟩
 have m1:=m1.hx hx2;refine uT0 ?_;refine cR_f (wnew_x (N:=H.next) oM) ?_
 rintro r3 H3 ⟨⟨bw,rfl,hbw,w1⟩,hx3⟩;have hx03:=hx02.trans hx3;haveI:=hx03.hn;have hn3:=hx3.next;refine uT0 ?_;refine cR_f (wnew_x (N:=H.next) oM) ?_
 rintro r4 H4 ⟨⟨bv,rfl,hbv,w2⟩,hx4⟩;have hx04:=hx03.trans hx4;haveI:=hx04.hn;have hbwv:bw≠bv:=by
  obtain ⟨v,lv,l,kv,h3,_⟩:=w1;have h1:=h3.lt;omega
 have m1:=(m1.hx hx3).hx hx4;have m2:=(m2.hx hx3).hx hx4;have w1:=w1.hx hx4;have F:=@nil23;refine uT ?_;clear F;refine cR_f (zgo1 (hl.hx hx04).sl hm) ?_;rintro r5 H5 ⟨rfl,hx5⟩;have hx05:=hx04.trans hx5;cases a1:longL l with
 |true =>
  refine uT0 ?_;refine cR_f zvb1 ?_;rintro r6 H6 ⟨rfl,rfl⟩;exact vT0
 |false =>
 obtain ⟨hl30,hlp⟩:=longL_f a1;refine uT0 ?_;have start:Lw H H5 bm mm bn mn bw bv M0 M0 M0 M0 .nilSl .nilSl .nilSl .nilSl 0 :=
  ⟨hx05,m1.hx hx5,m2.hx hx5,w1.hx hx5,w2.hx hx5,fun j=>.inl (zka _),fun j=>.inl (zka _),like0,like0,gd0,gd0⟩
 refine rc_l (fun n T H'=> ∃q sm sn sw sv iw qw iv qv,n+q=l.length/\Lw H H' bm mm bn mn bw bv sm sn sw sv iw qw iv qv q /\
  gT T 0=v/\gT T 1=bv0/\gT T 5= .ptr bm 0/\gT T 6= .ptr bn 0/\gT T 7= .ptr bw 0/\gT T 8= .ptr bv 0/\gT T 9= .int .i64 q) l.length ?_ ?_
 ·exact ⟨0,M0,M0,M0,M0,.nilSl,.nilSl,.nilSl,.nilSl,rfl,start,vT0,vT0,vT0,vT0,vT0,vT0,by refine uT0 ?_;rfl⟩
 clear start w1 w2 m1 m2 hx1 hx2 hx3 hx4 hx5 hx02 hx03 hx04 hx05 hn1 hn2 hn3 hbm hmm hbn hmn hbw hbv;rintro n T H1 ⟨q,sm,sn,sw,sv,iw,qw,iv,qv,hnq,hL,t0,t1,t5,t6,t7,t8,t9⟩;haveI:=hL.hx.hn;have hlo1:H1.lo=H.lo:=hL.hx.lo;cases n with
 |zero =>
  have d1:decide ((q:Int)<(l.length:Int))=false:=qp oM
  have F:=J4 @t0 @t9 @hlen @d1;refine uT ?_;clear F;refine cR_f zvb1 ?_;rintro r6 H6 ⟨rfl,rfl⟩;exact vT0
 |succ n =>
 have hq:q<l.length:=oM
 have d1:decide ((q:Int)<(l.length:Int))=true:=qo oM
 have hp:l[q]? =some l[q]:=qr hq;have hmem:l[q]∈l:=qz.2 ⟨q,hp⟩;have hpl:=hlp _ hmem;generalize l[q]=p at *
 have F:=J5 @t0 @t5 @t9 @hlen @d1;refine uT ?_;clear F;refine cR_f (mcopy_x hL.m) ?_;rintro r2 H2 ⟨⟨b1,m1,rfl,hb1,hm1,ma⟩,hx2⟩;have hL2:=hL.to hx2;haveI:=hL2.hx.hn;have F:=J2 @t5 @nil23;refine uT ?_;clear F;refine cR_f (zxp ma hL2.m hL.gm) ?_;rintro r3 H3 ⟨rfl,hx3⟩;have hL3:=hL2.to hx3;have ma:=ma.hx hx3;haveI:=hL3.hx.hn;have hlo3:H3.lo=H.lo:=hL3.hx.lo;have hn3:=hL3.hx.next;obtain ⟨vw,lw,ll,kv,hw3,hq3,hk3⟩:=hL3.w;have hbx:=hw3.box;have hlt:=hw3.lt;have hnbw:=hw3.nb;have hone9:=wd_one (nn:=sw.t.nx) (RdD.one hw3.tb.rd) (LvD.one hw3.tb.lv).1 (zic (OwnS.slZ hw3.ids).is) (zic hw3.bs.is);have eb:=hEq_f (oM:bw≠H3.next)
 have eb1:=hEq_f (oM:bw≠H3.next+1)
 have e01:=hEq_f (oM:H3.next≠H3.next+1)
 have hw9:=fun i op H=>wrN_l (l:= [AV.int .i64 0,.nilSl,.int .i64 0,.int .i64 0,.int .i64 0,.int .i64 0,.nilSl,.nilSl,.nilSl]) (lv:=wdL sw.t.nx vw lw iw qw) (e:=56) (z:=9) (i:=i) (n:=9) (op:=op) (H:=H) rfl rfl hone9
 have F:=J10 @zte1 @t7 @hbx @wd_all @wd_toC @hw9 @bs0_z @eb @eb1 @wd_8;refine uT ?_;clear F;refine zva1 (fun H4=>HX H3 H4/\H4.next=H3.next+2/\H4.get H3.next=some (wdx sw.t.nx vw lw iw qw)/\H4.get (H3.next+1)=some (.cells (.byt 0 0) 91 16384 false false)) ?_ ?_
 ·refine ⟨hxt,rfl,?_,zaa _⟩
  rw [zmf _ (oM:H3.next≠H3.next+1)]
  exact zfa _ _
 rintro H4 ⟨hx4,hn4,g4,g4'⟩;haveI:=hx4.hn;have hlo4:H4.lo=H.lo:=hx4.lo.trans hlo3;have hw4:=hw3.hx hx4;have hkl:kv.length<=100000:=oM
 obtain ⟨qb,H5,a5,hq5,hp5,hn5⟩:=bs_copy (i:=H3.next+1) oM g4' hw4.bs hw4.ok hkl oM
 haveI:=hp5.hn;have hx5:HX H3 H5:=HX.hp2 hx4 hp5 fun q hq=>oM
 have hlo5:H5.lo=H.lo:=hp5.lo.trans hlo4;have hn5':=hp5.next;have g5:=(hp5.get (i:=H3.next) oM oM).trans g4
 have hqb1:qb.oneCell=true/\qb.toC= .lst [qb]:=by
  rcases hq5 with ⟨rfl,_⟩|⟨i,op2,rfl,_⟩<;>exact ⟨rfl,rfl⟩
 have hst8:=st1_w (L:=lookM) (t:=54) (i:=H3.next) (o:=8) (H:=H5) kR hqb1.1 hqb1.2 oM
 have hs8:∀qv2,(wdL sw.t.nx vw lw iw qw).set 8 qv2=wdL sw.t.nx vw lw iw qv2:=fun _=>rfl
 have hl8:8<(wdL sw.t.nx vw lw iw qw).length:=by show 8<9;decide
 have hbx5:=(hw3.hx hx5).box;have eb5:=hEq_f (oM:bw≠H5.next)
 have F:=J11 @a5 @hst8 @g5 @hs8 @hl8 @bs0_z @t7 @hbx5 @eb @eb5 @wd_7;refine uT ?_;clear F;refine zva1 (fun H6=>HX H3 H6/\H6.next=H5.next+1/\H6.get H3.next=some (wdx sw.t.nx vw lw iw qb)/\H6.get H5.next=some (.cells (.byt 0 0) 3 1 false false)/\BsS H6 qb kv H3.next) ?_ ?_
 ·have hpp:HP (·≠ H3.next) H5 (H5.put H3.next (wdx sw.t.nx vw lw iw qb)):=HP.put _ _ _
  have hxx:HX H3 (H5.put H3.next (wdx sw.t.nx vw lw iw qb)):=HX.put hx5 (qn _) _;haveI:=hxx.hn;have hxn:HX (H5.put H3.next (wdx sw.t.nx vw lw iw qb)) ((H5.put H3.next (wdx sw.t.nx vw lw iw qb)).new (.cells (.byt 0 0) 3 1 false false)):=HX.new _ _;refine ⟨hxx.trans hxn,rfl,?_,zaa _,?_⟩
  ·exact (hxn.get (oM:H3.next<H5.next)).trans (zfa _ _)
  ·refine ((hq5.le oM).hq hpp fun j o n c op e=> ?_).hx hxn
   rcases hq5 with ⟨e2,_⟩|⟨i,op2,e2,hN,_⟩
   ·rw [e2] at e;cases e
   ·rw [e2] at e;cases e;omega
 rintro H6 ⟨hx6,hn6,g6,g6',hq6⟩;haveI:=hx6.hn;have hlo6:H6.lo=H.lo:=hx6.lo.trans hlo3;have hw6:=hw3.hx hx6;have hn6':=hx6.next;have own0:OwnS H6 (.sl H5.next 0 0 0 false) 0 3 1 [] H5.next:=⟨by simp,.inr ⟨H5.next,false,rfl,⟨.byt 0 0,g6',rfl⟩,qn _,oM,fun h=>absurd rfl h⟩⟩
 have hidone:(idL kv).all AV.oneCell=true:=qb1.2 fun y hy=>by obtain ⟨x,_,rfl⟩:=qd3.1 hy;rfl
 obtain ⟨ib,H7,a7,ho7,hp7,hn7,hne7⟩:=OwnS.app (b:=8) own0 (OwnS.slZ hw6.ids) hidone oM oM oM oM
 haveI:=hp7.hn;rw [qu1,qk1] at ho7;have hx7:HX H3 H7:=HX.hp2 hx6 hp7 fun q hq=>zla oM
 have hlo7:H7.lo=H.lo:=hx7.lo.trans hlo3;have hn7':=hx7.next;have hn67:=hp7.next;have g7:=(hp7.get (i:=H3.next) oM (zla oM)).trans g6
 have hib1:=OwnS.one ho7;have hst7:=st1_w (L:=lookM) (t:=35) (i:=H3.next) (o:=7) (H:=H7) kR hib1.1 hib1.2 oM
 have hs7:∀iv2,(wdL sw.t.nx vw lw iw qb).set 7 iv2=wdL sw.t.nx vw lw iv2 qb:=fun _=>rfl
 have hl7:7<(wdL sw.t.nx vw lw iw qb).length:=by show 7<9;decide
 have hq7:BsS H7 qb kv H3.next:=hq6.hq hp7 fun j o n c op e=>by
  obtain ⟨_,_,_,_,g⟩:=hq6.blk e;refine zla fun e2=> ?_
  subst e2;rw [g6'] at g;cases g
 have hx8:HX H3 (H7.put H3.next (wdx sw.t.nx vw lw ib qb)):=HX.put hx7 (qn _) _;have hp8:HP (·≠ H3.next) H7 (H7.put H3.next (wdx sw.t.nx vw lw ib qb)):=HP.put _ _ _;have hw8:WdR (H7.put H3.next (wdx sw.t.nx vw lw ib qb)) H3.next sw vw lw ib qb ll kv H3.next:=by
  have h8:=hw3.hx hx8;refine ⟨by show H3.next<H7.next;omega,qn _,zfa _ _,h8.tb,OwnS.hq (OwnS.le ho7 oM) hp8 fun j o n c op e=> ?_,hq7.hq hp8 fun j o n c op e=> ?_,h8.f,h8.ok,h8.nd⟩
  ·intro e2
   subst e2;exact OwnS.ne ho7 g7 dC _ _ _ _ e
  ·intro e2
   subst e2;obtain ⟨_,_,_,_,g⟩:=hq7.blk e;rw [g7] at g;cases g
 have djb:Dj iw ib:=fun j=>by
  by_cases hj:j<H3.next
  ·refine .inr ?_
   rcases ho7.2 with ⟨rfl,_⟩|⟨i,op2,rfl,_,hN,_⟩
   ·exact zka _
   ·exact zla oM
  ·exact .inl (hw3.fresh oM).2.1
 have djq:Dj qw qb:=fun j=>by
  by_cases hj:j<H3.next
  ·refine .inr ?_
   rcases hq7 with ⟨rfl,_⟩|⟨i,op2,rfl,hN,_⟩
   ·exact zka _
   ·exact zla oM
  ·exact .inl (hw3.fresh oM).2.2
 have odin:∀H',HX H H'->OdIn H' p.1 p.2.1 p.2.2/\ByS H' p.2.2 p.1.b:=fun H' hx' =>
  ⟨⟨((hl.hx hx').sl.at hp).l,((hl.hx hx').sl.at hp).b,oM,oM⟩,(hl.hx hx').by_ _ hmem⟩
 have hix:=ix44 (z:=7) (q:=q) hl.sl.is hq;have hld:∀H',HX H H'->ldN 7 (elA 7 v q) H'=some (odA p.1 p.2.1 p.2.2):=fun H' hx'=>(hl.hx hx').sl.agg hp
 have hL8:=hL3.to hx8;have hld8:=hld _ hL8.hx;have ma8:=ma.hx hx8;have wb8:Wx (H7.put H3.next (wdx sw.t.nx vw lw ib qb)) H.next H3.next sw ib qb 1000:=⟨vw,lw,ll,kv,⟨hw8.lt,oM,hw8.box,hw8.tb,OwnS.le hw8.ids oM,hw8.bs.le oM,hw8.f,hw8.ok,hw8.nd⟩,fun h=>oM,oM⟩
 have F:=J9 @a7 @hst7 @g7 @hs7 @hl7 @t0 @t5 @t9 @hix;refine uT ?_;clear F;generalize H7.put H3.next (wdx sw.t.nx vw lw ib qb)=H8 at *
 haveI:=hx8.hn;have F:=@hld8;refine uT ?_;clear F;refine cR_f (mrep_x hL8.m hL8.lm hL8.gm (by have:=hL8.hx.lo;omega) (odin _ hL8.hx).1 (odin _ hL8.hx).2) ?_
 rintro r9 H9 ⟨m9,hp9⟩;have hlr:=zsp hL8.lm p.1;have hsz:ordOk p.1=true->p.1.nm.size<=48/\p.1.to.size<=48:=fun hok=>⟨longB_f.1 ((zcl p.1).1 hok).nm,longB_f.1 ((zcl p.1).1 hok).to⟩
 have hgr:=ztb1 hL8.gm true hsz;obtain ⟨hx09,n9,w9,v9⟩:=hL8.repM hbmn.1 hbmn.2 m9 hp9;have wb9:=wb8.byM hL8.m hp9;have hb1m:b1≠bm/\m1≠mm:=by
  obtain ⟨_,_,v,lv,h3⟩:=hL.m;have h1:=h3.lt;have h2:=h3.mp.1;exact ⟨oM,oM⟩
 have ma9:=ma8.byM hL8.m hb1m.1 hb1m.2 hp9;haveI:=hx09.hn;generalize (zyd true sm p.1).2.2=sm' at *
 have hld9:=hld _ hx09;have F:=J5 @t0 @t7 @t9 @hix @hld9;refine uT ?_;clear F;refine cR_f (wrep_x w9 hL8.lm (zmm hL8.lm hL8.gm) (by have:=hx09.lo;omega) oM (odin _ hx09).1 (odin _ hx09).2) ?_
 rintro r10 H10 ⟨iw2,qw2,w10,hk10⟩;have hx010:=zuj1 w9 hx09 hk10.hp;have m10:=m9.byW w9 hk10.hp;have n10:=n9.byW w9 hk10.hp;have ma10:=ma9.byW w9 hk10.hp;have wb10:=wb9.byW w9 oM djb djq hk10.hp
 have v10:=v9.byW w9 (fun e=>hbwv e.symm) hL.di hL.dq hk10.hp
 obtain ⟨dj1,dj2⟩:=hk10.dj v9 hL.di hL.dq;have hlike:=hlr.2.2;generalize (zyd false sw p.1).2.2=sw' at *
 have es1:=ztj hL.lm hlike;have es2:=ztj hlike hL.lm;haveI:=hx010.hn;have gsw:=zmm hL.lm hL.gm;have gsw':=zmm hlike hgr;have F:=J2 @t5 @t7;refine uT ?_;clear F;refine cR_f (zxp ma10 m10 hL.gm) ?_;rintro r11 H11 ⟨rfl,hx11⟩;haveI:=(hx010.trans hx11).hn;have F:=@t7;refine uT ?_;clear F;refine cR_f (zvu (wb10.hx hx11) (w10.hx hx11) gsw gsw' oM oM) ?_
 rintro r12 H12 ⟨rfl,hx12⟩;have hx1012:=hx11.trans hx12;haveI:=(hx010.trans hx1012).hn;rw [← es1];have F:=J3 @nb4 @t5 @t7;refine uT ?_;clear F;refine cR_f (zxp (m10.hx hx1012) (ma10.hx hx1012) hgr) ?_;rintro r13 H13 ⟨rfl,hx13⟩;have hx1013:=hx1012.trans hx13;haveI:=(hx010.trans hx1013).hn;have F:=@t7;refine uT ?_;clear F;refine cR_f (zvu (w10.hx hx1013) (wb10.hx hx1013) gsw' gsw oM oM) ?_
 rintro r14 H14 ⟨rfl,hx14⟩;have hx1014:=hx1013.trans hx14;rw [← es2];have hx014:=hx010.trans hx1014;haveI:=hx014.hn;have v14:=v10.hx hx1014;have hL14:Lw H H14 bm mm bn mn bw bv sm' sn sw' sv iw2 qw2 iv qv (q+1):=by
  obtain ⟨vv,lvv,llv,kvv,k1,k2,k3⟩:=v10.hx hx1014;exact ⟨hx014,m10.hx hx1014,n10.hx hx1014,w10.hx hx1014,⟨vv,lvv,llv,kvv,k1,fun _=>k2 oM,oM⟩,dj1,dj2,hlike,hL.ln,hgr,hL.gn⟩
 have F:=J4 @nb4 @t9 @hlenb @t1;refine uT ?_;clear F;refine zpo1 (fun T H'=>H'=H14/\gT T 0=v/\gT T 1=bv0/\gT T 5= .ptr bm 0/\gT T 6= .ptr bn 0/\gT T 7= .ptr bw 0/\gT T 8= .ptr bv 0/\gT T 9= .int .i64 q/\gT T 88= .bool (decide ((q:Int)<(nb:Int)))) ?_ ?_
 ·refine ⟨rfl,?_,?_,?_,?_,?_,?_,?_,?_⟩<;>(have F:=J7 @t0 @t1 @t5 @t6 @t7 @t8 @t9;exact vT)
 clear t0 t1 t5 t6 t7 t8 t9;rintro T9 H' ⟨rfl,t0,t1,t5,t6,t7,t8,t9,t88⟩;clear hL hL2 hL3 hL8 ma ma8 ma9 ma10 wb8 wb9 wb10 m9 n9 w9 v9 m10 n10 w10 v10 hw3 hw4 hw6 hw8 hx5 hx6 hx7 hx8 hp5 hp7 hp8 hx1012 hx1013 hx1014 hx11 hx12 hx13 hx14 hp9 hk10 hx4 hq5 hq6 hq7 ho7 own0 hlr es1 es2 gsw gsw' dj1 dj2 djb djq;have hldo:=hld _ hL14.hx;refine join2 (x:=decide ((q:Int)<(nb:Int)) && bs q) (C:= ∀T H' sn' sv' iv' qv',Lw H H' bm mm bn mn bw bv sm' sn' sw' sv' iw2 qw2 iv' qv' (q+1)->gT T 0=v->gT T 1=bv0->gT T 5= .ptr bm 0->gT T 6= .ptr bn 0->gT T 7= .ptr bw 0->gT T 8= .ptr bv 0->gT T 9= .int .i64 q ->
  cR false lookM 19 [.ptr bm 0,.ptr bn 0] H' 108 ?kz ?sz T ?Qz) (fun hx hC=> ?_) (fun hx hC=> ?_) ?_
 case refine_1 =>
  cases b1:decide ((q:Int)<(nb:Int)) with
  |false =>
   have F:=J9 @b1 @t88 @t0 @t1 @t5 @t6 @t7 @t8 @t9;refine uT ?_;clear F;refine hC _ _ sn sv iv qv hL14 ?_ ?_ ?_ ?_ ?_ ?_ ?_<;>(have F:=J7 @t0 @t1 @t5 @t6 @t7 @t8 @t9;exact vT)
  |true =>
   have hqb:q<nb:=by have:=qe b1;omega
   have hbf:bs q=false:=by rw [b1,qo2] at hx;exact hx
   have hixb:=ix44 (z:=1) (q:=q) hb.is hqb;have hldb:ld1 (elA 1 bv0 q) H'=some (.bool (bs q)):=(hb.hx hL14.hx).el q hqb;rw [hbf] at hldb;have F:=J11 @b1 @t88 @t0 @t1 @t5 @t6 @t7 @t8 @t9 @hixb @hldb;refine uT ?_;clear F;refine hC _ _ sn sv iv qv hL14 ?_ ?_ ?_ ?_ ?_ ?_ ?_<;>(have F:=J7 @t0 @t1 @t5 @t6 @t7 @t8 @t9;exact vT)
 case refine_2 =>
  rw [qm] at hx;obtain ⟨b1,hbf⟩:=hx;have hqb:q<nb:=by have:=qe b1;omega
  have hixb:=ix44 (z:=1) (q:=q) hb.is hqb;have hldb:ld1 (elA 1 bv0 q) H'=some (.bool (bs q)):=(hb.hx hL14.hx).el q hqb;rw [hbf] at hldb;have F:=J13 @b1 @t88 @t0 @t1 @t5 @t6 @t7 @t8 @t9 @hixb @hldb @hix @hldo;refine uT ?_;clear F;refine cR_f (mrep_x hL14.n hL14.ln hL14.gn (by have:=hL14.hx.lo;omega) (odin _ hL14.hx).1 (odin _ hL14.hx).2) ?_
  rintro r15 H15 ⟨n15,hp15⟩;have hlr:=(zsp hL14.ln p.1).2.2;have hgn:=ztb1 hL14.gn true hsz;have hx015:=mx_low hL14.n hL14.hx hp15;have m15:=hL14.m.byM hL14.n hbmn.1 hbmn.2 hp15;have w15:=hL14.w.byM hL14.n hp15;have v15:=v14.byM hL14.n hp15;haveI:=hx015.hn;have hld15:=hld _ hx015;generalize (zyd true sn p.1).2.2=sn' at *
  have F:=J5 @t0 @t8 @t9 @hix @hld15;refine uT ?_;clear F;refine cR_f (wrep_x v15 hL14.ln (zmm hL14.ln hL14.gn) (by have:=hx015.lo;omega) oM (odin _ hx015).1 (odin _ hx015).2) ?_
  rintro r16 H16 ⟨iv2,qv2,v16,hk16⟩;have hx016:=zuj1 v15 hx015 hk16.hp;have m16:=m15.byW v15 hk16.hp;have n16:=n15.byW v15 hk16.hp;have w16:=w15.byW v15 hbwv hL14.di.symm hL14.dq.symm hk16.hp;obtain ⟨e1,e2⟩:=hk16.dj w15 hL14.di.symm hL14.dq.symm;generalize (zyd false sv p.1).2.2=sv' at *
  have hL16:Lw H H16 bm mm bn mn bw bv sm' sn' sw' sv' iw2 qw2 iv2 qv2 (q+1) :=
   ⟨hx016,m16,n16,w16,v16,e1.symm,e2.symm,hL14.lm,hlr,hL14.gm,hgn⟩
  have F:=J2 @t5 @t6;refine uT ?_;clear F;refine hC _ _ sn' sv' iv2 qv2 hL16 ?_ ?_ ?_ ?_ ?_ ?_ ?_<;>(have F:=J7 @t0 @t1 @t5 @t6 @t7 @t8 @t9;exact vT)
 clear t0 t1 t5 t6 t7 t8 t9 t88;intro T H15 sn' sv' iv' qv' hLx t0 t1 t5 t6 t7 t8 t9;have es1:=ztj hLx.lm hLx.ln;have es2:=ztj hLx.ln hLx.lm;have gsw:=zmm hLx.lm hLx.gm;have gsv:=zmm hLx.ln hLx.gn;haveI:=hLx.hx.hn;refine cR_f (zxp hLx.m hLx.n hLx.gm) ?_;rintro r16 H16 ⟨rfl,hx16⟩;have hL16:=hLx.to hx16;haveI:=hL16.hx.hn;have F:=J2 @t7 @t8;refine uT ?_;clear F;refine cR_f (zvu hL16.w hL16.v gsw gsv oM oM) ?_
 rintro r17 H17 ⟨rfl,hx17⟩;have hL17:=hL16.to hx17;haveI:=hL17.hx.hn;rw [← es1];have F:=J3 @nb4 @t5 @t6;refine uT ?_;clear F;refine cR_f (zxp hL17.n hL17.m hL17.gn) ?_;rintro r18 H18 ⟨rfl,hx18⟩;have hL18:=hL17.to hx18;haveI:=hL18.hx.hn;have F:=J2 @t7 @t8;refine uT ?_;clear F;refine cR_f (zvu hL18.v hL18.w gsv gsw oM oM) ?_
 rintro r19 H19 ⟨rfl,hx19⟩;have hL19:=hL18.to hx19;rw [← es2];have F:=J8 @nb4 @t0 @t1 @t5 @t6 @t7 @t8 @t9;refine uT ?_;clear F;exact ⟨n,oM,q+1,sm',sn',sw',sv',iw2,qw2,iv',qv',oM,hL19,by push_cast;rfl⟩
end HS
