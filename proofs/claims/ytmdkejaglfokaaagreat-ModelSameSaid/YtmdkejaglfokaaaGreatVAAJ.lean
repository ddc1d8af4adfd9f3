import Derived.Test.YtmdkejaglfokaaaGreatVAAH
import Derived.Test.YtmdkejaglfokaaaGreatVAAI
import Derived.Test.YtmdkejaglfokaaaGreatVAAG
noncomputable section
set_option maxHeartbeats 8000000
set_option linter.unusedSimpArgs false
set_option linter.unusedVariables false
open Go Go.Ev Go.Proofs Go.RowKit
namespace HS
set_option maxRecDepth 100000
open HS.Md
def snapO (t:Tb) (s:ByteArray):Res:=if snapB s then (if hasB (splA s) t.rs then (if roomE t s=0 then good (putT t ⟨0,s,2,(get t.rs (fndI (splA s) t.rs)).sz,1,(get t.rs (fndI (splA s) t.rs)).id,0,0,0⟩) else bad (roomE t s)) else bad 6) else bad 2
theorem zpa1 (t:Tb) (s:ByteArray):snapT t s=if ztb t then snapO t s else bad 2:=by
 unfold snapT snapO;cases ztb t<;>rfl
theorem snapO_w (t:Tb) (s:ByteArray):ResW (snapO t s):=by
 unfold snapO;split
 ·split
  ·split
   ·exact .good
   ·next h=>exact .bad h
  ·exact .bad dC
 ·exact .bad dC
theorem zsc (ks:List S2) (T:Tr AV):ptrsO (some ks) T=ptrsT T ks:=rfl
theorem zqa1 {H:AH}[hn:HN H]{c:Ce}(r:AV×Rc):((H.new (.cells c 84 44 false false)).put H.next (.cells (.lst (rcL r)) 84 44 false false)).get H.next=some (.cells (.lst (rcL r)) 84 44 false false):=zfa _ _
abbrev rcb (r:Rc):ABlk:=.cells (.lst (rcL (.nilSl,r))) 84 44 false false
theorem zin1 {H0:AH}[hn0:HN H0]{t:Tb}{s:ByteArray}{b1 b2:Nat}(hk:Ok t) (hlen:t.rs.length<=900) (hnm:∀r,r∈t.rs->r.nm.size<=100000) (hs:s.size<=100000)
  (h1:b1<H0.next) (h2:b2<H0.next) (g1:H0.get b1=some (bxs s)) (g2:H0.get b2=some (bxi 1)) :
  ClOk 148 [.ptr b1 0,.ptr b2 0] H0 t (snapO t s):=by
 intro H1 it v lv hx hn1 ht;refine fJ Tryz.f148 o148 ?_;have k1:=(hx.get h1).trans g1;have k2:=(hx.get h2).trans g2;have hsp:= @FnX.p _ _ _ _ (zlg s oM)
 have hcm:= @FnX.p _ _ _ _ zao;have hN:=hx.next;have hlo:H1.lo<=H0.next:=by rw [hx.lo];exact hn0.lo
 unfold snapO;cases a1:snapB s with
 |false=>have F:=J3 @k1 @hsp @a1;refine uT ?_;exact ⟨rfl,HP.refl _ _,fun t2 h=>by cases h⟩
 |true =>
 have F:=J7 @k1 @k2 @hsp @a1 @hcm @ht.box @zda;refine uT ?_;refine cR_f (zbi ht.sl hlen) ?_;rintro r2 H2 ⟨rfl,hx2⟩;have hx02:=hx.trans hx2;have m1:=(hx02.get h1).trans g1;have ht2:=ht.hx hx2;haveI:=hx02.hn;have hn2:=hx2.next;cases a2:hasB (splA s) t.rs with
 |false=>refine uT0 ?_;exact ⟨rfl,hx2.hp _,fun t2 h=>by cases h⟩
 |true =>
 obtain ⟨q1,q2⟩:=zeb a2;have F:=@m1;refine uT ?_;refine cR_f (zoa1 ht2 hlen) ?_;rintro r3 H3 ⟨rfl,hx3⟩;have hx03:=hx02.trans hx3;have hx13:=hx2.trans hx3;have m1:=(hx03.get h1).trans g1;have m2:=(hx03.get h2).trans g2;have ht3:=ht2.hx hx3;haveI:=hx03.hn;have hn3:=hx3.next;have hlo3:H3.lo<=H3.next:=HN.lo;by_cases hr:roomE t s=0
 ·have hix:=ix44 (z:=44) (q:=fndI (splA s) t.rs) ht3.sl.is (by rw [zhc];exact q1)
  have hld:=ht3.sl.agg (nl_at q1);have ho:=zbc (AV.nilSl,get t.rs (fndI (splA s) t.rs)) rfl;have e1:=hEq_f (oM:b1≠H3.next)
  have e2:=hEq_f (oM:b2≠H3.next)
  simp only [hr,reduceIte,qx3,qp2];have F:=J13 @m1 @m2 @ht3.box @tb_1 @hix @hld @zra @rc_3 @rc_5 @rc_0 @rc_ro @e1 @e2;refine uT ?_;refine rk_at (fun H4=>HX H3 H4/\H4.next=H3.next+1/\H4.get H3.next=some (rcb (get t.rs (fndI (splA s) t.rs)))) ?_ ?_
  ·exact ⟨hxt,rfl,zqa1 _⟩
  rintro H4 ⟨hx4,hn4,hg4⟩;have hx04:=hx03.trans hx4;have m1:=(hx04.get h1).trans g1;have m2:=(hx04.get h2).trans g2;haveI:=hx04.hn;refine rk_cw (js:= [H3.next,b2,H3.next,b1]) (R:=fun r H'=>r=roA .nilSl/\HX H4 H') ?_ ?_ ?_
  ·rw [zsc]
   refine zga (o:=0) ?_ (zga (o:=0) ?_ (zga (o:=3) ?_ (zga (o:=0) ?_ zza)))<;>(exact vT0)
  ·refine uT0 ?_;exact zla1
  rintro r5 H5 ⟨rfl,hx5⟩;refine ⟨zcb hx5 _ fun i hi=> ?_,?_⟩
  ·simp only [qe1,qv4,qk6] at hi
   rcases hi with rfl|rfl|rfl|rfl
   ·exact ⟨oM,_,_,_,_,_,hg4⟩
   ·exact ⟨oM,_,_,_,_,_,m2⟩
   ·exact ⟨oM,_,_,_,_,_,hg4⟩
   ·exact ⟨oM,_,_,_,_,_,m1⟩
  have hx05:=hx04.trans hx5;have hx15:=(hx13.trans hx4).trans hx5;haveI:=hx05.hn;have hn5:=hx5.next;have F:=J2 @zhd @sn_bu;refine uT ?_;refine cR_f (zsm (ht.hx hx15) oM hk.srt (fun r hr=>by have:=hnm r hr;omega) (by show s.size<=_;omega) (by have:=hk.nx;omega) (by rw [hx15.lo];exact hlo) oM) ?_
  rintro r6 H6 ⟨⟨rfl,v',ht6,_⟩,hp6⟩;refine uT0 ?_;exact ⟨rfl,(hx15.hp (fun _=>True)).trans hp6 fun i _ hi=>⟨trivial,hi⟩,fun t2 h=>by cases h;exact ⟨v',ht6.o⟩⟩
 ·simp only [qg hr,reduceIte,qx3,qp2]
  have d1:decide (roomE t s≠0)=true:=qo hr;have F:=@d1;refine uT ?_;exact ⟨rfl,hx13.hp _,fun t2 h=>by cases h⟩
theorem zjn1 {H:AH}[hn:HN H]{t:Tb}{v lv:AV}{s:ByteArray}(h:TbIn H t v lv) (hs:s.size<=100000) :
  FnE lookM 135 [tbA t.nx v lv,.str s,.int .i64 1] H fun r H'=>TbR H' r (snapT t s)/\HX H H':=by
 refine fI Tryz.f135 ?_;have hlo:=hn.lo;have F:=J3 @zba @zdb @zda;refine uT ?_;refine cR_at (fun H1=>HX H H1/\H1.next=H.next+4/\H1.get (H.next+1)=some (bxs s)/\H1.get (H.next+2)=some (bxi 1)/\H1.get (H.next+3)=some (tbx 0 .nilSl .nilSl)) ?_ ?_
 ·exact ⟨hxt,rfl,vT0,vT0,vT0⟩
 rintro H1 ⟨hx1,hn1,g1,g2,gr⟩;haveI:=hx1.hn;refine cR_f (zfh (h.hx hx1) (fun hc=>zin1 (checkB_ok.1 hc) h.len h.nm hs oM oM g1 g2) (snapO_w t s)) ?_
 rw [← zpa1];rintro r2 H2 ⟨ht2,hx2⟩;have gr2:=(hx2.get oM).trans gr
 have hx02:=hx1.trans hx2;haveI:=hx02.hn;have hlo2:H2.lo=H.lo:=hx02.lo;rcases ht2 with ⟨e,he,h1,rfl⟩|⟨t2,v2,l2,h1,rfl,h3,h4⟩
 ·have o1:=zbb (nn:=0) (v:=.nilSl) (lv:=.nilSl) rfl rfl
  have F:=J5 @gr2 @zda @zba @zha @ld7;refine uT ?_;exact ⟨.inl ⟨e,he,h1,rfl⟩,HX.put hx02 oM _⟩
 ·have o1:=zbb (nn:=t2.nx) (v:=v2) (lv:=l2) (RdR.one h3) (OwnS.one h4).1
  have F:=J5 @gr2 @zda @zba @zha @ld7;refine uT ?_;obtain ⟨p1,p2⟩:=TbR.put h3 h4 gr2 (tbx t2.nx v2 l2);exact ⟨.inr ⟨t2,v2,l2,h1,rfl,p1,p2⟩,HX.put hx02 oM _⟩
def zlr (t:Tb) (s to:ByteArray):Res:=if snapB s && partB to then (if hasB s t.rs then (if roomE t to=0 then good (putT t ⟨0,to,1,(get t.rs (fndI s t.rs)).sz,1,0,(get t.rs (fndI s t.rs)).id,0,0⟩) else bad (roomE t to)) else bad 6) else bad 2
theorem zfu (t:Tb) (s to:ByteArray):zxn t s to=if ztb t then zlr t s to else bad 2:=by
 unfold zxn zlr;cases ztb t<;>rfl
theorem zkn1 (t:Tb) (s to:ByteArray):ResW (zlr t s to):=by
 unfold zlr;split
 ·split
  ·split
   ·exact .good
   ·next h=>exact .bad h
  ·exact .bad dC
 ·exact .bad dC
theorem zmf1 {H0:AH}[hn0:HN H0]{t:Tb}{s to:ByteArray}{b1 b2 b3:Nat}(hk:Ok t) (hlen:t.rs.length<=900) (hnm:∀r,r∈t.rs->r.nm.size<=100000) (hs:s.size<=100000) (hto:to.size<=100000)
  (h1:b1<H0.next) (h2:b2<H0.next) (h3:b3<H0.next) (g1:H0.get b1=some (bxs s)) (g2:H0.get b2=some (bxs to)) (g3:H0.get b3=some (bxi 1)) :
  ClOk 150 [.ptr b1 0,.ptr b2 0,.ptr b3 0] H0 t (zlr t s to):=by
 intro H1 it v lv hx hn1 ht;refine fJ Tryz.f150 o150 ?_;have k1:=(hx.get h1).trans g1;have k2:=(hx.get h2).trans g2;have k3:=(hx.get h3).trans g3;have hsn:= @FnX.p _ _ _ _ (zzt s oM)
 have hv:= @FnX.p _ _ _ _ (zzn to);have hcm:= @FnX.p _ _ _ _ zao;have hN:=hx.next;have hlo:H1.lo<=H0.next:=by rw [hx.lo];exact hn0.lo
 unfold zlr;cases a1:snapB s with
 |false=>have F:=J3 @k1 @hsn @a1;refine uT ?_;exact ⟨rfl,HP.refl _ _,fun t2 h=>by cases h⟩
 |true =>
 cases a0:partB to with
 |false=>have F:=J6 @k1 @k2 @hsn @hv @a1 @a0;refine uT ?_;exact ⟨rfl,HP.refl _ _,fun t2 h=>by cases h⟩
 |true =>
 have F:=J10 @k1 @k2 @k3 @hsn @hv @a1 @a0 @hcm @ht.box @zda;refine uT ?_;refine cR_f (zbi ht.sl hlen) ?_;rintro r2 H2 ⟨rfl,hx2⟩;have hx02:=hx.trans hx2;have m2:=(hx02.get h2).trans g2;have ht2:=ht.hx hx2;haveI:=hx02.hn;have hn2:=hx2.next;cases a2:hasB s t.rs with
 |false=>refine uT0 ?_;exact ⟨rfl,hx2.hp _,fun t2 h=>by cases h⟩
 |true =>
 obtain ⟨q1,q2⟩:=zeb a2;have F:=@m2;refine uT ?_;refine cR_f (zoa1 ht2 hlen) ?_;rintro r3 H3 ⟨rfl,hx3⟩;have hx03:=hx02.trans hx3;have hx13:=hx2.trans hx3;have m2:=(hx03.get h2).trans g2;have m3:=(hx03.get h3).trans g3;have ht3:=ht2.hx hx3;haveI:=hx03.hn;have hn3:=hx3.next;have hlo3:H3.lo<=H3.next:=HN.lo;by_cases hr:roomE t to=0
 ·have hix:=ix44 (z:=44) (q:=fndI s t.rs) ht3.sl.is (by rw [zhc];exact q1)
  have hld:=ht3.sl.agg (nl_at q1);have ho:=zbc (AV.nilSl,get t.rs (fndI s t.rs)) rfl;have e2:=hEq_f (oM:b2≠H3.next)
  have e3:=hEq_f (oM:b3≠H3.next)
  simp only [hr,reduceIte,qx3,qp2];have F:=J13 @m2 @m3 @ht3.box @tb_1 @hix @hld @zra @rc_3 @rc_5 @rc_0 @rc_ro @e2 @e3;refine uT ?_;refine rk_at (fun H4=>HX H3 H4/\H4.next=H3.next+1/\H4.get H3.next=some (rcb (get t.rs (fndI s t.rs)))) ?_ ?_
  ·exact ⟨hxt,rfl,zqa1 _⟩
  rintro H4 ⟨hx4,hn4,hg4⟩;have hx04:=hx03.trans hx4;have m2:=(hx04.get h2).trans g2;have m3:=(hx04.get h3).trans g3;haveI:=hx04.hn;refine rk_cw (js:= [H3.next,b3,H3.next,b2]) (R:=fun r H'=>r=roA .nilSl/\HX H4 H') ?_ ?_ ?_
  ·rw [zsc]
   refine zga (o:=0) ?_ (zga (o:=0) ?_ (zga (o:=3) ?_ (zga (o:=0) ?_ zza)))<;>(exact vT0)
  ·refine uT0 ?_;exact zla1
  rintro r5 H5 ⟨rfl,hx5⟩;refine ⟨zcb hx5 _ fun i hi=> ?_,?_⟩
  ·simp only [qe1,qv4,qk6] at hi
   rcases hi with rfl|rfl|rfl|rfl
   ·exact ⟨oM,_,_,_,_,_,hg4⟩
   ·exact ⟨oM,_,_,_,_,_,m3⟩
   ·exact ⟨oM,_,_,_,_,_,hg4⟩
   ·exact ⟨oM,_,_,_,_,_,m2⟩
  have hx05:=hx04.trans hx5;have hx15:=(hx13.trans hx4).trans hx5;haveI:=hx05.hn;have hn5:=hx5.next;have F:=J2 @zhd @cl_bu;refine uT ?_;refine cR_f (zsm (ht.hx hx15) oM hk.srt (fun r hr=>by have:=hnm r hr;omega) (by show to.size<=_;omega) (by have:=hk.nx;omega) (by rw [hx15.lo];exact hlo) oM) ?_
  rintro r6 H6 ⟨⟨rfl,v',ht6,_⟩,hp6⟩;refine uT0 ?_;exact ⟨rfl,(hx15.hp (fun _=>True)).trans hp6 fun i _ hi=>⟨trivial,hi⟩,fun t2 h=>by cases h;exact ⟨v',ht6.o⟩⟩
 ·simp only [qg hr,reduceIte,qx3,qp2]
  have d1:decide (roomE t to≠0)=true:=qo hr;have F:=@d1;refine uT ?_;exact ⟨rfl,hx13.hp _,fun t2 h=>by cases h⟩
theorem znf1 {H:AH}[hn:HN H]{t:Tb}{v lv:AV}{s to:ByteArray}(h:TbIn H t v lv) (hs:s.size<=100000) (hto:to.size<=100000) :
  FnE lookM 136 [tbA t.nx v lv,.str s,.str to,.int .i64 1] H fun r H'=>TbR H' r (zxn t s to)/\HX H H':=by
 refine fI Tryz.f136 ?_;have hlo:=hn.lo;have F:=J3 @zba @zdb @zda;refine uT ?_;refine cR_at (fun H1=>HX H H1/\H1.next=H.next+5/\H1.get (H.next+1)=some (bxs s)/\H1.get (H.next+2)=some (bxs to)/\H1.get (H.next+3)=some (bxi 1)/\H1.get (H.next+4)=some (tbx 0 .nilSl .nilSl)) ?_ ?_
 ·exact ⟨hxt,rfl,vT0,vT0,vT0,vT0⟩
 rintro H1 ⟨hx1,hn1,g1,g2,g3,gr⟩;haveI:=hx1.hn;refine cR_f (zfh (h.hx hx1) (fun hc=>zmf1 (checkB_ok.1 hc) h.len h.nm hs hto oM oM oM g1 g2 g3) (zkn1 t s to)) ?_
 rw [← zfu];rintro r2 H2 ⟨ht2,hx2⟩;have gr2:=(hx2.get oM).trans gr
 have hx02:=hx1.trans hx2;haveI:=hx02.hn;have hlo2:H2.lo=H.lo:=hx02.lo;rcases ht2 with ⟨e,he,h1,rfl⟩|⟨t2,v2,l2,h1,rfl,h3,h4⟩
 ·have o1:=zbb (nn:=0) (v:=.nilSl) (lv:=.nilSl) rfl rfl
  have F:=J5 @gr2 @zda @zba @zha @ld7;refine uT ?_;exact ⟨.inl ⟨e,he,h1,rfl⟩,HX.put hx02 oM _⟩
 ·have o1:=zbb (nn:=t2.nx) (v:=v2) (lv:=l2) (RdR.one h3) (OwnS.one h4).1
  have F:=J5 @gr2 @zda @zba @zha @ld7;refine uT ?_;obtain ⟨p1,p2⟩:=TbR.put h3 h4 gr2 (tbx t2.nx v2 l2);exact ⟨.inr ⟨t2,v2,l2,h1,rfl,p1,p2⟩,HX.put hx02 oM _⟩
theorem zln1 {H:AH}[hn:HN H](p q:AV×Rc):FnE lookM 154 [.agg (rcL p),.agg (rcL q)] H fun r H'=>r= .bool (zrp p.2 q.2)/\HX H H':=by
 refine fI Tryz.f154 ?_;have he:=hEq_f (oM:H.next≠H.next+1)
 have e:zrp p.2 q.2=(decide (q.2.md<p.2.md) || (decide (p.2.md=q.2.md) && decide (q.2.id<p.2.id))):=rfl;rw [e];cases a1:decide (q.2.md<p.2.md) with
 |true=>have F:=J5 @zra @rc_39 @rc_0 @he @a1;refine uT ?_;(exact fin0)
 |false =>
  cases a2:decide (p.2.md=q.2.md) with
  |false=>have F:=J6 @zra @rc_39 @rc_0 @he @a1 @a2;refine uT ?_;(exact fin0)
  |true=>have F:=J6 @zra @rc_39 @rc_0 @he @a1 @a2;refine uT ?_;(exact fin0)
def rb11 (q:Rc) (p:Rc):Bool:=decide (p.ow=q.ow) && zrp p q
theorem rb11_ok {H:AH}[hn:HN H](p:AV×Rc){b:Nat}{q:AV×Rc}(hb:b<H.next) (hg:H.get b=some (.cells (.lst (rcL q)) 84 44 false false)) :
  FnE lookM 153 [.agg (rcL p),.ptr b 0] H fun r H'=>r= .bool (rb11 q.2 p.2)/\HX H H':=by
 refine fI Tryz.f153 ?_;have he:=hEq_f (oM:b≠H.next)
 unfold rb11;cases a1:decide (p.2.ow=q.2.ow) with
 |false=>have F:=J5 @zra @rc_40 @hg @he @a1;refine uT ?_;(exact fin0)
 |true =>
  have F:=J6 @zra @rc_40 @zzd @hg @he @a1;refine uT ?_;refine cR_f (zln1 p q) ?_;rintro r H2 ⟨rfl,hx⟩;refine uT0 ?_
  (exact fin0)
theorem zgu {H:AH}[hn:HN H]{v:AV}{rs:List Rc}{p:Rc->Bool}{g:Nat}{caps:List AV}(hsl:SlRc H v (nl rs)) (hlen:rs.length<=1000000)
  (hp:∀H1,HX H H1-> ∀r:AV×Rc,FnE lookM g (.agg (rcL r)::caps) H1 fun r' H'=>r'= .bool (p r.2)/\HX H1 H') :
  FnE lookM 152 [v,.fn (.func g) [] caps] H fun r H'=>r= .bool (rs.any p)/\HX H H':=by
 have:=zwm1 (p:=p) hsl (by rw [zhc];exact hlen) (fun H1 hx k r _=>hp H1 hx r)
 rw [zef1,zhc] at this;rw [zda1];exact this
def rollO (t:Tb) (s:ByteArray):Res:=if snapB s then (if hasB s t.rs then (if t.rs.any (rb11 (get t.rs (fndI s t.rs))) then bad 17 else good ⟨t.nx,setSz t.rs (fndI (splA s) t.rs) (get t.rs (fndI s t.rs)).sz⟩) else bad 6) else bad 2
theorem zra1 (t:Tb) (s:ByteArray):rollT t s=if ztb t then rollO t s else bad 2:=by
 unfold rollT rollO rb11;cases ztb t<;>rfl
theorem rollO_w (t:Tb) (s:ByteArray):ResW (rollO t s):=by
 unfold rollO;split
 ·split
  ·split
   ·exact .bad dC
   ·exact .good
  ·exact .bad dC
 ·exact .bad dC
theorem zbj1 {s:ByteArray}{l:List Rc}(h:0<l.length):fndI s l<l.length:=by
 unfold fndI;split<;>assumption
theorem zof1 (rs:List Rc) (k:Nat) (r:Rc):(nl rs).set k (.nilSl,r)=nl (rs.set k r):=by
 show (rs.map _).set k _=(rs.set k r).map _
 rw [List.map_set]
theorem zmn1 {rs:List Rc}{k:Nat}(hk:k<rs.length):(encC rcL (nl rs)).take (k*44+4) ++ roL .nilSl ++ (encC rcL (nl rs)).drop (k*44+4+35)=encC rcL (nl rs):=by
 have h1:=zpf zqa (nl_at hk);have h2:((encC rcL (nl rs)).drop (k*44+4)).take 35=roL .nilSl:=by
  have:((((encC rcL (nl rs)).drop (k*44)).take 44).drop 4).take 35=roL .nilSl:=by rw [h1];rfl
  rw [qf7,qj5,qk3] at this;exact this
 have h3:(encC rcL (nl rs)).drop (k*44+4)=roL .nilSl ++ (encC rcL (nl rs)).drop (k*44+4+35):=by
  have h4:=(qn4 35 ((encC rcL (nl rs)).drop (k*44+4))).symm;rw [h2,qk3] at h4;exact h4
 rw [qg1,← h3,qn4]
theorem znn1 {H0:AH}[hn0:HN H0]{t:Tb}{s:ByteArray}{b1:Nat}(hk:Ok t) (hlen:t.rs.length<=900) (hs:s.size<=100000)
  (h1:b1<H0.next) (g1:H0.get b1=some (bxs s)):ClOk 151 [.ptr b1 0] H0 t (rollO t s):=by
 intro H1 it v lv hx hn1 ht;refine fJ Tryz.f151 o151 ?_;have k1:=(hx.get h1).trans g1;have hsp:= @FnX.p _ _ _ _ (zlg s oM)
 have hN:=hx.next;have hlo:H1.lo<=H0.next:=by rw [hx.lo];exact hn0.lo
 unfold rollO;cases a1:snapB s with
 |false=>have F:=J3 @k1 @hsp @a1;refine uT ?_;exact ⟨rfl,HP.refl _ _,fun t2 h=>by cases h⟩
 |true =>
 have F:=J5 @k1 @hsp @a1 @ht.box @zda;refine uT ?_;refine cR_f (zbi ht.sl hlen) ?_;rintro r2 H2 ⟨rfl,hx2⟩;have hx02:=hx.trans hx2;have ht2:=ht.hx hx2;haveI:=hx02.hn;have hn2:=hx2.next;have hlo2:H2.lo<=H2.next:=HN.lo;cases a2:hasB s t.rs with
 |false=>refine uT0 ?_;exact ⟨rfl,hx2.hp _,fun t2 h=>by cases h⟩
 |true =>
 obtain ⟨q1,q2⟩:=zeb a2;have hit:=ht.lt;have hix:=ix44 (z:=44) (q:=fndI s t.rs) ht2.sl.is (by rw [zhc];exact q1)
 have hld:=ht2.sl.agg (nl_at q1);have ho:=zbc (AV.nilSl,get t.rs (fndI s t.rs)) rfl;have e1:=hEq_f (oM:it≠H2.next)
 have F:=J6 @ht2.box @tb_1 @hix @hld @zra @e1;refine uT ?_;refine cR_at (fun H3=>HX H2 H3/\H3.next=H2.next+1/\H3.get H2.next=some (rcb (get t.rs (fndI s t.rs)))) ?_ ?_
 ·exact ⟨hxt,rfl,zqa1 _⟩
 rintro H3 ⟨hx3,hn3,hg3⟩;have hx03:=hx02.trans hx3;have ht3:=ht2.hx hx3;haveI:=hx03.hn;refine cR_f (zgu (p:=rb11 (get t.rs (fndI s t.rs))) ht3.sl oM fun H hxx r=> ?_) ?_
 ·haveI:=hxx.hn
  exact rb11_ok r (by have:=hxx.next;omega) ((hxx.get oM).trans hg3)
 rintro r4 H4 ⟨rfl,hx4⟩;have hx04:=hx03.trans hx4;have hx14:=(hx2.trans hx3).trans hx4;have ht4:=ht3.hx hx4;haveI:=hx04.hn;have hn4:=hx4.next;have hg4:=(hx4.get oM).trans hg3
 cases a3:t.rs.any (rb11 (get t.rs (fndI s t.rs))) with
 |true=>refine uT0 ?_;exact ⟨rfl,hx14.hp _,fun t2 h=>by cases h⟩
 |false =>
 have F:=J2 @ht4.box @zda;refine uX ?_;refine cR_f (zbi ht4.sl hlen) ?_;rintro r5 H5 ⟨rfl,hx5⟩;have hx05:=hx04.trans hx5;have hx15:=hx14.trans hx5;have ht5:=ht4.hx hx5;haveI:=hx05.hn;have hn5:=hx5.next;have hg5:=(hx5.get oM).trans hg4
 have q3:fndI (splA s) t.rs<t.rs.length:=zbj1 oM
 have F:=J5 @ht5.box @tb_1 @hg5 @rc_3 @rc_ro;refine uT ?_;refine rk_cw (js:= [H2.next,it,it]) (R:=fun r H'=>r=roA .nilSl/\HX H5 H') ?_ ?_ ?_
 ·rw [zsc]
  refine zga (o:=3) ?_ (zga (o:=1) ?_ (zga (o:=1) ?_ zza))<;>(exact vT0)
 ·refine uT0 ?_;exact zla1
 rintro r6 H6 ⟨rfl,hx6⟩;refine ⟨zcb hx6 _ fun i hi=> ?_,?_⟩
 ·simp only [qe1,qv4,qk6] at hi
  rcases hi with rfl|rfl|rfl
  ·exact ⟨oM,_,_,_,_,_,hg5⟩
  ·exact ⟨by have:=ht5.lt;omega,_,_,_,_,_,ht5.box⟩
  ·exact ⟨by have:=ht5.lt;omega,_,_,_,_,_,ht5.box⟩
 have hx06:=hx05.trans hx6;have hx16:=hx15.trans hx6;have ht6:=ht5.hx hx6;haveI:=hx06.hn;have hn6:=hx6.next;have hge:=ht6.ge;have ho6:=ht6.own;have hbx6:=ht6.box;have hlv6:=ht6.lvo;obtain ⟨c0,⟨rfl,c00⟩|⟨j,op,rfl,hr,hNj,hj,hop⟩⟩:=ho6
 ·omega
 have hne:j≠it:=fun e=>by
  subst e;exact OwnS.ne ht6.own hbx6 dC _ _ _ _ rfl
 have hlo6:H6.lo<=j:=by rw [hx16.lo];omega
 have hk3:fndI (splA s) t.rs*44+3<(encC rcL (nl t.rs)).length:=by rw [c0];have:(fndI (splA s) t.rs+1)*44<=t.rs.length*44:=qd2 44 q3;omega
 obtain ⟨H7,w1,w2,w3,w4⟩:=Row.st1 (L:=lookM) (t:=3) (k:=fndI (splA s) t.rs*44+3) (v:=.int .i64 (get t.rs (fndI s t.rs)).sz) hr HN.hide hlo6 sz3i rfl hk3;rw [zai zqa (nl_at q3) oM (b:=(AV.nilSl,{get t.rs (fndI (splA s) t.rs) with sz:=(get t.rs (fndI s t.rs)).sz})) rfl,zof1] at w2
 have hset:t.rs.set (fndI (splA s) t.rs) {get t.rs (fndI (splA s) t.rs) with sz:=(get t.rs (fndI s t.rs)).sz}=setSz t.rs (fndI (splA s) t.rs) (get t.rs (fndI s t.rs)).sz:=rfl
 rw [hset] at w2;have hsl:(setSz t.rs (fndI (splA s) t.rs) (get t.rs (fndI s t.rs)).sz).length=t.rs.length:=by rw [← hset,qm2]
 have hcl:(encC rcL (nl (setSz t.rs (fndI (splA s) t.rs) (get t.rs (fndI s t.rs)).sz))).length=t.rs.length*44:=by rw [znc zqa,zhc,hsl]
 have hlo7:H7.lo<=j:=by rw [w3.lo];exact hlo6
 haveI:HN H7:=w3.hn;obtain ⟨H8,x1,x2,x3,x4⟩:=Row.stN (L:=lookM) (t:=0) (s:=35) (k:=fndI (splA s) t.rs*44+4) (v:=roA .nilSl) w2 HN.hide hlo7 rfl rfl (by rw [hcl];have:(fndI (splA s) t.rs+1)*44<=t.rs.length*44:=qd2 44 q3;omega)
 have hcells:(roA .nilSl).cells=roL .nilSl:=rfl;rw [hcells,zmn1 (by rw [hsl];exact q3)] at x2
 have hix6:ixS 44 (.sl j 0 t.rs.length t.rs.length op) (.int .i64 (fndI (splA s) t.rs:Nat))=some (elA 44 (.sl j 0 t.rs.length t.rs.length op) (fndI (splA s) t.rs)):=ix44 (H:=H6) (SlZ.is (hr.slZ hj c0)) q3;have F:=J4 @zhd @hix6 @w1 @x1;refine uT ?_;have hp8:HP (·≠ j) H6 H8:=w3.trans x3 fun i _ hi=>⟨hi,hi⟩
 refine ⟨rfl,(hx16.hp (fun _=>True)).trans hp8 (fun i hi hf=>⟨trivial,fun e=>by subst e;exact hf.2 _ _ _ _ rfl⟩),fun t2 h=> ?_⟩
 cases h
 refine ⟨.sl j 0 t.rs.length t.rs.length op,(hp8.get oM (fun e=>hne e.symm)).trans hbx6,?_,OwnS.hq hlv6 hp8 fun j' o n c op' he=> ?_⟩
 ·refine .inr ⟨j,t.rs.length,op,_,by rw [hsl],oM,x2,by rw [hsl];exact qn _,by rw [hcl,hsl];exact qn _,by rw [hsl];exact qx (by rw [hcl];exact qn _)⟩
 ·intro e
  subst e;obtain ⟨cc,hg,_⟩:=hr;exact OwnS.ne hlv6 hg dC _ _ _ _ he
theorem zon1 {H:AH}[hn:HN H]{t:Tb}{v lv:AV}{s:ByteArray}(h:TbIn H t v lv) (hs:s.size<=100000) :
  FnE lookM 137 [tbA t.nx v lv,.str s] H fun r H'=>TbR H' r (rollT t s)/\HX H H':=by
 refine fI Tryz.f137 ?_;have hlo:=hn.lo;have F:=J3 @zba @zdb @zda;refine uT ?_;refine cR_at (fun H1=>HX H H1/\H1.next=H.next+3/\H1.get (H.next+1)=some (bxs s)/\H1.get (H.next+2)=some (tbx 0 .nilSl .nilSl)) ?_ ?_
 ·exact ⟨hxt,rfl,vT0,vT0⟩
 rintro H1 ⟨hx1,hn1,g1,gr⟩;haveI:=hx1.hn;refine cR_f (zfh (h.hx hx1) (fun hc=>znn1 (checkB_ok.1 hc) h.len hs oM g1) (rollO_w t s)) ?_
 rw [← zra1];rintro r2 H2 ⟨ht2,hx2⟩;have gr2:=(hx2.get oM).trans gr
 have hx02:=hx1.trans hx2;haveI:=hx02.hn;have hlo2:H2.lo=H.lo:=hx02.lo;rcases ht2 with ⟨e,he,h1,rfl⟩|⟨t2,v2,l2,h1,rfl,h3,h4⟩
 ·have o1:=zbb (nn:=0) (v:=.nilSl) (lv:=.nilSl) rfl rfl
  have F:=J5 @gr2 @zda @zba @zha @ld7;refine uT ?_;exact ⟨.inl ⟨e,he,h1,rfl⟩,HX.put hx02 oM _⟩
 ·have o1:=zbb (nn:=t2.nx) (v:=v2) (lv:=l2) (RdR.one h3) (OwnS.one h4).1
  have F:=J5 @gr2 @zda @zba @zha @ld7;refine uT ?_;obtain ⟨p1,p2⟩:=TbR.put h3 h4 gr2 (tbx t2.nx v2 l2);exact ⟨.inr ⟨t2,v2,l2,h1,rfl,p1,p2⟩,HX.put hx02 oM _⟩
theorem zR:lookM.zero 84=some (.agg (rcL (.nilSl,Rc0))):=kR
theorem zRcc:(AV.agg (rcL (.nilSl,Rc0))).cells=rcL (.nilSl,Rc0):=rfl
theorem zpn1 (rs:List Rc) (k:Nat):(nl rs).take k ++ (nl rs).drop (k+1)=nl (rs.eraseIdx k):=by
 show (rs.map _).take k ++ (rs.map _).drop (k+1)=(rs.eraseIdx k).map _
 rw [qk5,qe3,qm5,qn5]
theorem sl3 {L:Lk}{t e z:Nat}(ht:L.under t=some (.slice e)) (hz:L.size e=some z) (j n k m:Nat) (op:Bool) (h1:k<=m) (h2:m<=n):∃u,zxa L t true true true [.sl j 0 n n op,.int .i64 (k:Int),.int .i64 (m:Int),.int .i64 (n:Int)]=some u:=by
 show ∃u,zfb L t (.sl j 0 n n op) (some (.int .i64 (k:Int))) (some (.int .i64 (m:Int))) (some (.int .i64 (n:Int)))=some u
 unfold zfb;simp only [maxOk,bndOf,ht,hz,natOf];rw [show Nat.ble k m=true from qh h1,show Nat.ble m n=true from qh h2,show Nat.ble n n=true from qh (qn _)]
 exact ⟨_,rfl⟩
theorem slo_hi {L:Lk}{t e z:Nat}(ht:L.under t=some (.slice e)) (hz:L.size e=some z) (j n c k:Nat) (h0:0<c) (h2:k<=c):zxa L t false true false [.sl j 0 n c true,.int .i64 (k:Int)]=some (.sl j 0 k c true):=by
 show zfb L t (.sl j 0 n c true) none (some (.int .i64 (k:Int))) none=_
 unfold zfb;simp only [maxOk,bndOf,ht,hz,natOf];rw [show Nat.ble 0 k=true from qh (qh2 _),show Nat.ble k c=true from qh h2]
 show (match Nat.beq c 0 with|true=>_|false=>some (AV.sl j (0+0*z) (k - 0) (c - 0) true))=_
 rw [show Nat.beq c 0=false from by cases c with|zero=>omega|succ c=>rfl,ql4]
 rfl
theorem zqn1 {L:Lk}{t e z:Nat}(ht:L.under t=some (.slice e)) (hz:L.size e=some z) (j n k:Nat) (h2:k<=n):zxa L t true false false [.sl j 0 n n true,.int .i64 (k:Int)]=some (if k=n then .ext 1 j (n*z+1) else .sl j (k*z) (n - k) (n - k) true):=by
 show zfb L t (.sl j 0 n n true) (some (.int .i64 (k:Int))) none none=_
 unfold zfb;simp only [maxOk,bndOf,ht,hz,natOf];rw [show Nat.ble k n=true from qh h2,show Nat.ble n n=true from qh (qn _)]
 show (match Nat.beq n k with|true=>(match Nat.beq 0 0 with|true=>some (AV.ext 1 j (n*z+1))|false=>none)|false=>some (AV.sl j (0+k*z) (n - k) (n - k) true))=_
 by_cases h:k=n
 ·subst h
  rw [qj rfl,show Nat.beq k k=true from qr2 k]
 ·rw [qg h,show Nat.beq n k=false from by cases hb:Nat.beq n k with|false=>rfl|true=>exact absurd (qi hb).symm h,qu1]
theorem slo_lh {L:Lk}{t e z:Nat}(ht:L.under t=some (.slice e)) (hz:L.size e=some z) (j n c k m:Nat) (h1:k<=m) (h2:m<=c) (h3:k≠c):zxa L t true true false [.sl j 0 n c true,.int .i64 (k:Int),.int .i64 (m:Int)]=some (.sl j (k*z) (m - k) (c - k) true):=by
 show zfb L t (.sl j 0 n c true) (some (.int .i64 (k:Int))) (some (.int .i64 (m:Int))) none=_
 unfold zfb;simp only [maxOk,bndOf,ht,hz,natOf];rw [show Nat.ble k m=true from qh h1,show Nat.ble m c=true from qh h2]
 show (match Nat.beq c k with|true=>_|false=>some (AV.sl j (0+k*z) (m - k) (c - k) true))=_
 rw [show Nat.beq c k=false from by cases hb:Nat.beq c k with|false=>rfl|true=>exact absurd (qi hb).symm h3,qu1]
theorem zpf1 {H:AH}[hn:HN H]{j:Nat}{rs:List Rc}{k:Nat}(hr:Row H j false true 84 44 (encC rcL (nl rs))) (hj:j<H.next) (hlo:H.lo<=j) (hk:k<rs.length) (hlen:rs.length<=900) :
  FnE lookM 158 [.sl j 0 rs.length rs.length true,.int .i64 (k:Int),.int .i64 ((k:Int)+1)] H fun r H'=>(∃n',n'+1=rs.length/\r= .sl j 0 n' rs.length true)/\RdR H' r (rs.eraseIdx k)/\HP (·≠ j) H H':=by
 refine fI Tryz.f158 ?_;obtain ⟨n',hn'⟩:∃n',n'+1=rs.length:=⟨rs.length - 1,oM⟩
 have c0:(encC rcL (nl rs)).length=rs.length*44:=by rw [znc zqa,zhc]
 have hl:∀(n c:Nat) (op:Bool) H',fstO (zea .len lookM [49] [.sl j 0 n c op] H')=some (.int .i64 n):=fun n c op H'=>rfl
 have hk1:((k+1:Nat):Int)=(k:Int)+1:=by push_cast;rfl
 obtain ⟨u,hu⟩:=sl3 (L:=lookM) uRs sz3 j rs.length k (k+1) true oM oM
 rw [hk1] at hu;have hd:decide ((k:Int)=(k:Int)+1)=false:=qp oM
 have s1:=slo_hi (L:=lookM) uRs sz3 j rs.length rs.length k oM oM
 have s2:=zqn1 (L:=lookM) uRs sz3 j rs.length (k+1) oM
 rw [hk1] at s2;obtain ⟨m,hm⟩:∃m,k+1+m=rs.length:=⟨rs.length - (k+1),oM⟩
 obtain ⟨x,hx,hxl,hxs⟩:∃x,(if k+1=rs.length then AV.ext 1 j (rs.length*44+1) else .sl j ((k+1)*44) (rs.length - (k+1)) (rs.length - (k+1)) true)=x/\lenOf x=some m/\ ∃new,zhb 44 x m H=some new/\new.l=(encC rcL (nl rs)).drop ((k+1)*44):=by
  by_cases h:k+1=rs.length
  ·refine ⟨_,qj h,?_,?_⟩
   ·have:m=0:=oM
    subst this;show (match Nat.beq 1 1 && Nat.ble 1 (rs.length*44+1) with|true=>some 0|false=>none)=some 0
    rw [show Nat.ble 1 (rs.length*44+1)=true from qh oM];rfl
   ·have:m=0:=oM
    subst this;refine ⟨.lst [],?_,?_⟩
    ·show (match Nat.beq 1 1 && (Nat.ble 1 (rs.length*44+1) && Nat.beq 0 0) with|true=>some (Ce.lst [])|false=>none)=_
     rw [show Nat.ble 1 (rs.length*44+1)=true from qh oM];rfl
    ·rw [qw3 (by rw [c0];omega)];rfl
  ·refine ⟨_,qg h,?_,?_⟩
   ·show some (rs.length - (k+1))=some m
    rw [show rs.length - (k+1)=m from oM]
   ·obtain ⟨new,n1,n2⟩:=znp (z:=44) (m:=rs.length - (k+1)) (c:=rs.length - (k+1)) (op:=true) hr (o:=(k+1)*44) (n:=m) (by rw [c0,← qy4];exact qd2 44 oM)
    refine ⟨new,n1,?_⟩;rw [n2,qx];rw [qb2,c0];omega
 rw [hx] at s2;obtain ⟨new,hsrc,hnl⟩:=hxs;have hnll:new.l.length=m*44:=by rw [hnl,qb2,c0];omega
 have hone:new.one=true:=zhg (by rw [hnl];exact qb1.2 fun y hy=>qb1.1 (zbn1 rs) y (qn3 hy))
 obtain ⟨cc,hg,hcc⟩:=hr;obtain ⟨c',h3,h4⟩:=Ce.over_ex (x:=new) (c:=cc) (o:=0+k*44) (by rw [hnll,hcc,c0];omega)
 have ha:appX 84 44 152 [.sl j 0 k rs.length true,x] H=some (.sl j 0 n' rs.length true,H.put j (.cells c' 84 44 true false)):=by
  rw [zbo hxl hsrc hone];show brec _ (orec none (fun H'=>some (AV.sl j 0 (Nat.add k m) rs.length true,H')) (zne H j (Nat.add 0 (Nat.mul k 44)) new)) (Nat.ble (Nat.add k m) rs.length)=_
  have e:Nat.add k m=n':=by show k+m=n';omega
  rw [e,show Nat.ble n' rs.length=true from qh oM,zcd]
  unfold AH.writeC;rw [show Nat.ble H.lo j=true from qh hlo,hg]
  have h3':Ce.over new cc (Nat.add 0 (Nat.mul k 44))=some c':=h3;simp only [hone,h3'];rfl
 have s3:=slo_lh (L:=lookM) uRs sz3 j n' rs.length n' rs.length oM (qn _) oM
 have hc'l:c'.l.length=rs.length*44:=by
  rw [h4,qy,qy,qd1,qb2,hnll,hcc,c0];omega
 obtain ⟨c2,h5,h6⟩:=Ce.over_ex (x:=Ce.of (rep (rcL (.nilSl,Rc0)) 1)) (c:=c') (o:=n'*44) (by rw [Ce.of_l,zuc,zqa,hc'l];omega)
 have hcl:∀H0:AH,H0=H.put j (.cells c' 84 44 true false)->zea .clear lookM [49] [.sl j (n'*44) (rs.length - n') (rs.length - n') true] H0=some (.undef,H0.put j (.cells c2 84 44 true false)):=fun H0 h0=>by
  show (match zyj lookM 49 (.sl j (n'*44) (rs.length - n') (rs.length - n') true) H0 with|some H'=>some (AV.undef,H')|none=>none)=_
  have hw:zyj lookM 49 (.sl j (n'*44) (rs.length - n') (rs.length - n') true) H0=some (H0.put j (.cells c2 84 44 true false)):=by
   unfold zyj;rw [uRs];simp only [zR,zRcc];rw [show rs.length - n'=1 from oM]
   show (match Nat.beq 1 0 with|true=>some H0|false=>H0.write j (n'*44) (rep (rcL (.nilSl,Rc0)) 1))=_
   show H0.writeC j (n'*44) (Ce.of (rep (rcL (.nilSl,Rc0)) 1))=_
   unfold AH.writeC;subst h0;rw [show Nat.ble (H.put j (.cells c' 84 44 true false)).lo j=true from qh hlo,zfa]
   simp only [h5];rw [show (Ce.of (rep (rcL (.nilSl,Rc0)) 1)).one=true from zhg (by rw [Ce.of_l];rfl)]
  rw [hw]
 have hcl':=hcl _ rfl;have F:=J8 @hl @hu @hd @s1 @s2 @ha @s3 @hcl';refine uT ?_;have hel:(rs.eraseIdx k).length=n':=by rw [List.length_eraseIdx_of_lt hk];omega
 have hc2:c2.l.take (n'*44)=encC rcL (nl (rs.eraseIdx k)):=by
  have hzl:(Ce.of (rep (rcL (.nilSl,Rc0)) 1)).l.length=44:=by rw [Ce.of_l];rfl
  rw [h6,qg1,qj3 (by rw [qd1,hc'l];omega),qj5,Nat.min_self,h4,qu1,hcc,hnl]
  have e1:(encC rcL (nl rs)).drop (k*44+((encC rcL (nl rs)).drop ((k+1)*44)).length)=(encC rcL (nl rs)).drop (n'*44):=by
   congr 1
   rw [qb2,c0];omega
  rw [e1,zqe zqa,zof zqa,← zui,zpn1,qj3 (by rw [znc zqa,zhc,hel];exact qn _),qx (by rw [znc zqa,zhc,hel];exact qn _)]
 have hc2l:c2.l.length=rs.length*44:=by
  have hzl:(Ce.of (rep (rcL (.nilSl,Rc0)) 1)).l.length=44:=by rw [Ce.of_l];rfl
  rw [h6,qy,qy,qd1,qb2,hzl,hc'l];omega
 refine ⟨⟨n',hn',rfl⟩,.inr ⟨j,rs.length,true,c2.l,by rw [hel],hj,⟨c2,zfa _ _,rfl⟩,by rw [hel];omega,by rw [hel,hc2l];omega,by rw [hel];exact hc2⟩,(HP.put H j _).trans (HP.put _ j _) fun i _ hi=>⟨hi,hi⟩⟩
def drp (id:Int) (x:Rc):Bool:=decide (x.ow=id) || decide (x.og=id)
theorem drp_ok {H:AH}[hn:HN H](p:AV×Rc){b:Nat}{id:Int}(hb:b<H.next) (hg:H.get b=some (bxi id)) :
  FnE lookM 157 [.agg (rcL p),.ptr b 0] H fun r H'=>r= .bool (drp id p.2)/\HX H H':=by
 refine fI Tryz.f157 ?_;have he:=hEq_f (oM:b≠H.next)
 unfold drp;cases a1:decide (p.2.ow=id) with
 |true=>have F:=J5 @zra @rc_40 @hg @he @a1;refine uT ?_;(exact fin0)
 |false=>have F:=J6 @zra @rc_40 @rc_41 @hg @he @a1;refine uT ?_;(exact fin0)
def dropO (t:Tb) (s:ByteArray):Res:=if partB s || snapB s then (if hasB s t.rs then (if t.rs.any (drp (get t.rs (fndI s t.rs)).id) then bad 17 else good ⟨t.nx,t.rs.eraseIdx (fndI s t.rs)⟩) else bad 6) else bad 2
theorem zsa1 (t:Tb) (s:ByteArray):dropT t s=if ztb t then dropO t s else bad 2:=by
 unfold dropT dropO drp;cases ztb t<;>rfl
theorem dropO_w (t:Tb) (s:ByteArray):ResW (dropO t s):=by
 unfold dropO;split
 ·split
  ·split
   ·exact .bad dC
   ·exact .good
  ·exact .bad dC
 ·exact .bad dC
theorem zrn1 {H0:AH}[hn0:HN H0]{t:Tb}{s:ByteArray}{b1:Nat}(hk:Ok t) (hlen:t.rs.length<=900) (hs:s.size<=100000)
  (h1:b1<H0.next) (g1:H0.get b1=some (bxs s)):ClOk 155 [.ptr b1 0] H0 t (dropO t s):=by
 intro H1 it v lv hx hn1 ht;refine fI Tryz.f155 ?_;have k1:=(hx.get h1).trans g1;have hnm:= @FnX.p _ _ _ _ (zaa1 s oM)
 have hN:=hx.next;have hlo:H1.lo<=H0.next:=by rw [hx.lo];exact hn0.lo
 unfold dropO;cases a1:partB s || snapB s with
 |false=>have F:=J3 @k1 @hnm @a1;refine uT ?_;exact ⟨rfl,HP.refl _ _,fun t2 h=>by cases h⟩
 |true =>
 have F:=J5 @k1 @hnm @a1 @ht.box @zda;refine uT ?_;refine cR_f (zbi ht.sl hlen) ?_;rintro r2 H2 ⟨rfl,hx2⟩;have hx02:=hx.trans hx2;have ht2:=ht.hx hx2;haveI:=hx02.hn;have hn2:=hx2.next;have hlo2:H2.lo<=H2.next:=HN.lo;cases a2:hasB s t.rs with
 |false=>refine uT0 ?_;exact ⟨rfl,hx2.hp _,fun t2 h=>by cases h⟩
 |true =>
 obtain ⟨q1,q2⟩:=zeb a2;have hit:=ht.lt;have hix:=ix44 (z:=44) (q:=fndI s t.rs) ht2.sl.is (by rw [zhc];exact q1)
 have hfa:=fa_el ht2.sl.is (show fndI s t.rs<(nl t.rs).length by rw [zhc];exact q1) 44 0
 have hld:=ht2.sl.fld (nl_at q1) (j:=0) (x:=.int .i64 (get t.rs (fndI s t.rs)).id) rfl;have e1:=hEq_f (oM:it≠H2.next)
 have hst:∀(i o:Nat) (n:Int) (H:AH),H.lo<=i->st1 lookM 3 (.ptr i o) (.int .i64 n) H=wr1 (H.get i) i o (.int .i64 n) H:=fun i o n H h=>st1_w sz3i rfl rfl h
 have F:=J7 @ht2.box @tb_1 @hix @hfa @hld @e1 @hst;refine uT ?_;refine cR_at (fun H3=>HX H2 H3/\H3.next=H2.next+1/\H3.get H2.next=some (bxi (get t.rs (fndI s t.rs)).id)) ?_ ?_
 ·exact ⟨hxt,rfl,zfa _ _⟩
 rintro H3 ⟨hx3,hn3,hg3⟩;have hx03:=hx02.trans hx3;have ht3:=ht2.hx hx3;haveI:=hx03.hn;refine cR_f (zgu (p:=drp (get t.rs (fndI s t.rs)).id) ht3.sl oM fun H hxx r=> ?_) ?_
 ·haveI:=hxx.hn
  exact drp_ok r (by have:=hxx.next;omega) ((hxx.get oM).trans hg3)
 rintro r4 H4 ⟨rfl,hx4⟩;have hx04:=hx03.trans hx4;have hx14:=(hx2.trans hx3).trans hx4;have ht4:=ht3.hx hx4;haveI:=hx04.hn;have hn4:=hx4.next;cases a3:t.rs.any (drp (get t.rs (fndI s t.rs)).id) with
 |true=>refine uT0 ?_;exact ⟨rfl,hx14.hp _,fun t2 h=>by cases h⟩
 |false =>
 have hge:=ht4.ge;have hbx4:=ht4.box;have hlv4:=ht4.lvo;have ho4:=ht4.own;obtain ⟨c0,⟨rfl,c00⟩|⟨j,op,rfl,hr,hNj,hj,hop⟩⟩:=ho4
 ·omega
 have hop:=hop oM
 subst hop;have hne:j≠it:=fun e=>by
  subst e;exact OwnS.ne ht4.own hbx4 dC _ _ _ _ rfl
 have F:=J2 @hbx4 @tb_1;refine uX ?_;refine cR_f (zpf1 hr hj (by rw [hx14.lo];omega) q1 hlen) ?_
 rintro r5 H5 ⟨⟨n',hn',rfl⟩,hrd5,hp5⟩;haveI:HN H5:=hp5.hn;have hn5:=hp5.next;have hb5:=(hp5.get (i:=it) oM (fun e=>hne e.symm)).trans hbx4
 have hlo5:H5.lo<=it:=by rw [hp5.lo,hx14.lo];omega
 have hst:=st1_w (L:=lookM) (t:=49) (i:=it) (o:=1) (v:=.sl j 0 n' t.rs.length true) (H:=H5) szR1 rfl rfl hlo5;have hwr:=wr1_l (i:=it) (o:=1) (v:=.sl j 0 n' t.rs.length true) (H:=H5) (l:=tbL t.nx (.sl j 0 t.rs.length t.rs.length true) lv) (e:=53) (z:=7) (op:=false) (by show 1<7;omega)
 have F:=J4 @hst @hb5 @hwr @zgj;refine uT ?_;have hput:HP (·≠ it) H5 (H5.put it (tbx t.nx (.sl j 0 n' t.rs.length true) lv)):=HP.put _ _ _;refine ⟨rfl,((hx14.hp (fun _=>True)).trans hp5 (r:=Fr it (.sl j 0 t.rs.length t.rs.length true)) (fun i _ hf=>⟨trivial,fun e=>by subst e;exact hf.2 _ _ _ _ rfl⟩)).trans hput (fun i _ hf=>⟨hf,hf.1⟩),fun t2 h=> ?_⟩
 cases h
 refine ⟨.sl j 0 n' t.rs.length true,zfa _ _,RdR.hq hrd5 hput fun j' o n c op' he=> ?_,OwnS.hq (OwnS.hq hlv4 hp5 fun j' o n c op' he=> ?_) hput fun j' o n c op' he=> ?_⟩
 ·cases he;exact hne
 ·intro e
  subst e;obtain ⟨cc,hg,_⟩:=hr;exact OwnS.ne hlv4 hg dC _ _ _ _ he
 ·intro e
  subst e;exact OwnS.ne hlv4 hbx4 dC _ _ _ _ he
theorem zsn1 {H:AH}[hn:HN H]{t:Tb}{v lv:AV}{s:ByteArray}(h:TbIn H t v lv) (hs:s.size<=100000) :
  FnE lookM 138 [tbA t.nx v lv,.str s] H fun r H'=>TbR H' r (dropT t s)/\HX H H':=by
 refine fI Tryz.f138 ?_;have hlo:=hn.lo;have F:=J3 @zba @zdb @zda;refine uT ?_;refine cR_at (fun H1=>HX H H1/\H1.next=H.next+3/\H1.get (H.next+1)=some (bxs s)/\H1.get (H.next+2)=some (tbx 0 .nilSl .nilSl)) ?_ ?_
 ·exact ⟨hxt,rfl,vT0,vT0⟩
 rintro H1 ⟨hx1,hn1,g1,gr⟩;haveI:=hx1.hn;refine cR_f (zfh (h.hx hx1) (fun hc=>zrn1 (checkB_ok.1 hc) h.len hs oM g1) (dropO_w t s)) ?_
 rw [← zsa1];rintro r2 H2 ⟨ht2,hx2⟩;have gr2:=(hx2.get oM).trans gr
 have hx02:=hx1.trans hx2;haveI:=hx02.hn;have hlo2:H2.lo=H.lo:=hx02.lo;rcases ht2 with ⟨e,he,h1,rfl⟩|⟨t2,v2,l2,h1,rfl,h3,h4⟩
 ·have o1:=zbb (nn:=0) (v:=.nilSl) (lv:=.nilSl) rfl rfl
  have F:=J5 @gr2 @zda @zba @zha @ld7;refine uT ?_;exact ⟨.inl ⟨e,he,h1,rfl⟩,HX.put hx02 oM _⟩
 ·have o1:=zbb (nn:=t2.nx) (v:=v2) (lv:=l2) (RdR.one h3) (OwnS.one h4).1
  have F:=J5 @gr2 @zda @zba @zha @ld7;refine uT ?_;obtain ⟨p1,p2⟩:=TbR.put h3 h4 gr2 (tbx t2.nx v2 l2);exact ⟨.inr ⟨t2,v2,l2,h1,rfl,p1,p2⟩,HX.put hx02 oM _⟩
theorem ztn1 (a b:ByteArray) (ha:a.size<=1000000) (hb:b.size<=1000000) (H:AH):FnX lookM 160 [.str a,.str b] H (.bool (zkj a b)) H:=by
 refine fI Tryz.f160 ?_;have s1:= @FnX.p _ _ _ _ (zlg a ha);have s2:= @FnX.p _ _ _ _ (zlg b hb);have v1:= @FnX.p _ _ _ _ (zzn a);have v2:= @FnX.p _ _ _ _ (zzn b);unfold zkj;have tail:∀p:Bool,(p=partB a)->(p=true->partB b=false)->FnE lookM 160 [.str a,.str b] H (fun r G=>r= .bool (snapB a && (snapB b && decide (splA a=splA b)))/\G=H)->True:=fun _ _ _ _=>trivial
 cases p1:partB a with
 |true =>
  cases p2:partB b with
  |true=>have F:=J6 @s1 @s2 @v1 @v2 @p1 @p2;refine uT ?_;rfl
  |false =>
   cases p3:snapB a with
   |false=>have F:=J7 @s1 @s2 @v1 @v2 @p1 @p2 @p3;refine uT ?_;rfl
   |true =>
    cases p4:snapB b with
    |false=>have F:=J8 @s1 @s2 @v1 @v2 @p1 @p2 @p3 @p4;refine uT ?_;rfl
    |true=>have F:=J9 @s1 @s2 @v1 @v2 @p1 @p2 @p3 @p4 @zkg;refine uT ?_;rfl
 |false =>
   cases p3:snapB a with
   |false=>have F:=J6 @s1 @s2 @v1 @v2 @p1 @p3;refine uT ?_;rfl
   |true =>
    cases p4:snapB b with
    |false=>have F:=J7 @s1 @s2 @v1 @v2 @p1 @p3 @p4;refine uT ?_;rfl
    |true=>have F:=J8 @s1 @s2 @v1 @v2 @p1 @p3 @p4 @zkg;refine uT ?_;rfl
def renO (t:Tb) (s to:ByteArray):Res:=if zkj s to then (if hasB s t.rs then (if hasB to t.rs then bad 7 else good ⟨t.nx,sortL (t.rs.map (ren s to))⟩) else bad 6) else bad 2
theorem zcj1 (t:Tb) (s to:ByteArray):renT t s to=if ztb t then renO t s to else bad 2:=by
 unfold renT renO;cases ztb t<;>rfl
theorem renO_w (t:Tb) (s to:ByteArray):ResW (renO t s to):=by
 unfold renO;split
 ·split
  ·split
   ·exact .bad dC
   ·exact .good
  ·exact .bad dC
 ·exact .bad dC
theorem zhu (l:List Rc):(sortL l).length=l.length:=by
 have key:∀(l out:List Rc),(l.foldl (fun out x=>layL x out) out).length=l.length+out.length:=by
  intro l
  induction l with
  |nil=>intro out;simp
  |cons x l ih=>intro out;rw [qs6,ih,zdm1,qi2];omega
 have:=key l []
 simpa [sortL] using this
theorem zqf1 (l:List Rc):Srt (sortL l):=ztt l [] List.Pairwise.nil
theorem zdo (a b:ByteArray):(joinB a b).size<=100:=by
 unfold joinB;split
 ·next h =>
  simp only [qm] at h;have h1:=zvj h.1;have h2:=zvj h.2;have e1:(a ++ sign).size=a.size+1:=qm4;have e2:(a ++ sign ++ b).size=(a ++ sign).size+b.size:=qm4;omega
 ·show (0:Nat)<=100;omega
theorem zta1 {s to:ByteArray}{x:Rc}(hto:to.size<=100000) (hx:x.nm.size<=100000):(ren s to x).nm.size<=100000:=by
 unfold Md.ren;split
 ·exact hto
 ·split
  ·have:=zdo to (splB x.nm);show (joinB to (splB x.nm)).size<=_;omega
  ·exact hx
theorem rc_set1 (a:AV) (x:Rc) (s:ByteArray):(rcL (a,x)).set 1 (.str s)=rcL (a,{x with nm:=s}):=rfl
theorem sz9:lookM.size 9=some 1:=kR
set_option maxHeartbeats 16000000 in
theorem ren1_ok {H0:AH}[hn0:HN H0]{t:Tb}{s to:ByteArray}{b1 b2:Nat}(hk:Ok t) (hlen:t.rs.length<=900) (hnm:∀r,r∈t.rs->r.nm.size<=100000) (hs:s.size<=100000) (hto:to.size<=100000)
  (h1:b1<H0.next) (h2:b2<H0.next) (g1:H0.get b1=some (bxs s)) (g2:H0.get b2=some (bxs to)) :
  ClOk 159 [.ptr b1 0,.ptr b2 0] H0 t (renO t s to):=by
 intro H1 it v lv hx hn1 ht;refine fI Tryz.f159 ?_;have k1:=(hx.get h1).trans g1;have k2:=(hx.get h2).trans g2;have hal:= @FnX.p _ _ _ _ (ztn1 s to oM oM)
 have hN:=hx.next;have hlo:H1.lo<=H0.next:=by rw [hx.lo];exact hn0.lo
 have hge:=ht.ge;unfold renO;cases a1:zkj s to with
 |false=>have F:=J4 @k1 @k2 @hal @a1;refine uT ?_;exact ⟨rfl,HP.refl _ _,fun t2 h=>by cases h⟩
 |true =>
 have F:=J6 @k1 @k2 @hal @a1 @ht.box @zda;refine uT ?_;refine cR_f (zbi ht.sl hlen) ?_;rintro r2 H2 ⟨rfl,hx2⟩;have hx02:=hx.trans hx2;have m2:=(hx02.get h2).trans g2;have ht2:=ht.hx hx2;haveI:=hx02.hn;have hn2:=hx2.next;cases a2:hasB s t.rs with
 |false=>refine uT0 ?_;exact ⟨rfl,hx2.hp _,fun t2 h=>by cases h⟩
 |true =>
 have F:=J3 @m2 @ht2.box @zda;refine uT ?_;refine cR_f (zbi ht2.sl hlen) ?_;rintro r3 H3 ⟨rfl,hx3⟩;have hx03:=hx02.trans hx3;have hx13:=hx2.trans hx3;have ht3:=ht2.hx hx3;haveI:=hx03.hn;have hn3:=hx3.next;cases a3:hasB to t.rs with
 |true=>refine uT0 ?_;exact ⟨rfl,hx13.hp _,fun t2 h=>by cases h⟩
 |false =>
 have hlo3:H3.lo<=it:=by rw [hx13.lo];omega
 have hst:=st1_w (L:=lookM) (t:=49) (i:=it) (o:=1) (v:=.nilSl) (H:=H3) szR1 rfl rfl hlo3;have hwr:=wr1_l (i:=it) (o:=1) (v:=.nilSl) (H:=H3) (l:=tbL t.nx v lv) (e:=53) (z:=7) (op:=false) (by show 1<7;omega)
 have hl:∀H',fstO (zea .len lookM [49] [v] H')=some (.int .i64 t.rs.length):=fun H'=>by have:=zwc (H':=H') uRs ht3.sl.is;rwa [zhc] at this
 have F:=J6 @ht3.box @tb_1 @hst @hwr @zgj @hl;refine uX ?_;have hput:HP (·≠ it) H3 (H3.put it (tbx t.nx .nilSl lv)):=HP.put _ _ _;refine rc_l (fun n T H'=> ∃q v',n+q=t.rs.length/\TbS H' it ⟨t.nx,sortL ((t.rs.take q).map (ren s to))⟩ v' lv H0.next/\HP (·≠ it) H3 H'/\(∀k,k<H3.next->blkNe v' k) /\
  gT T 0= .ptr it 0/\gT T 1= .ptr b1 0/\gT T 2= .ptr b2 0/\gT T 45=v/\gT T 46= .int .i64 t.rs.length/\gT T 47= .int .i64 q) t.rs.length ?_ ?_
 ·refine ⟨0,.nilSl,rfl,⟨ht3.lt,hge,zfa _ _,OwnS.nil _ _ _ _,OwnS.hq ht3.lvo hput fun j o n c op he=> ?_⟩,hput,fun k _=>zka _,vT0,vT0,vT0,vT0,vT0,by refine uT0 ?_;rfl⟩
  intro e;subst e;exact OwnS.ne ht3.lvo ht3.box dC _ _ _ _ he
 rintro n T H4 ⟨q,v',hnq,ht4,hp4,hne4,g0,gg1,gg2,g45,g46,g47⟩;haveI:HN H4:=hp4.hn;have hn4:=hp4.next;have hvb:blkNe v it:=OwnS.ne ht3.own ht3.box dC
 have hrd4:RdR H4 v t.rs:=RdR.hq (OwR.rd ht3.own) hp4 fun j o n c op he=>fun e=>by
  subst e;exact hvb _ _ _ _ he
 have hsl4:=hrd4.sl;have hit4:=ht4.lt;have hit3:=ht3.lt;have m1:=((hp4.get (i:=b1) oM oM).trans (hx03.get h1)).trans g1
 have m2:=((hp4.get (i:=b2) oM oM).trans (hx03.get h2)).trans g2
 have hlo4:H4.lo<=H4.next:=HN.lo;cases n with
 |zero =>
  have hq:q=t.rs.length:=oM
  subst hq;rw [qm6] at ht4;have F:=J6 @g0 @gg1 @gg2 @g45 @g46 @g47;refine uT ?_;exact ⟨rfl,(hx13.hp (fun _=>True)).trans hp4 (fun i _ hf=>⟨trivial,hf.1⟩),fun t2 h=>by cases h;exact ⟨v',ht4.o⟩⟩
 |succ n =>
  have hq:q<t.rs.length:=oM
  have hix:=ix44 (z:=44) (q:=q) hsl4.is (by rw [zhc];exact hq)
  have hld:=hsl4.agg (nl_at hq);have ho:=zbc (AV.nilSl,get t.rs q) rfl;have hsz:=hnm _ (zfm hq);have hsp:= @FnX.p _ _ _ _ (zlg (get t.rs q).nm oM)
  have e1:=hEq_f (oM:b1≠H4.next)
  have e2:=hEq_f (oM:b2≠H4.next)
  have hst9:∀(i o:Nat) (n:ByteArray) (H:AH),H.lo<=i->st1 lookM 9 (.ptr i o) (.str n) H=wr1 (H.get i) i o (.str n) H:=fun i o n H h=>st1_w sz9 rfl rfl h
  have hw9:∀(n:ByteArray) (i:Nat) (H:AH),wr1 (some (rcb (get t.rs q))) i 1 (.str n) H=some (H.put i (rcb {get t.rs q with nm:=n})):=fun n i H=>by rw [wr1_l (by rw [zqa];omega),rc_set1]
  have fin:∀(H5:AH) (x:Rc) (T':Tr AV) (Q:PostC) (ss:List Kf),x=ren s to (get t.rs q)->HX H4 H5->HN H5 ->
    (∀(r:AV) (H6:AH) (v6:AV),TbS H6 it ⟨t.nx,sortL ((t.rs.take (q+1)).map (ren s to))⟩ v6 lv H0.next->HP (·≠ it) H3 H6->(∀k,k<H3.next->blkNe v6 k)->RK lookM K2.done ss (pS 81 r T') H6 Q) ->
    cR false lookM 162 [.ptr it 0,.agg (rcL (.nilSl,x))] H5 81 K2.done ss T' Q:=by
   intro H5 x T' Q ss hxe hx5 hn5 hk5;have ht5:=ht4.hx hx5;refine cR_f (lay_ok ht5 ?_ (zqf1 _) (fun r hr=> ?_) ?_ (by rw [hx5.lo,hp4.lo,hx13.lo];exact hlo) (by have:=hx5.next;omega)) ?_
   ·show (sortL _).length<=999
    rw [zhu,qt3,qd1];omega
   ·obtain ⟨y,hy,rfl⟩:=qd3.1 (zyn hr)
    have:=zta1 (s:=s) hto (hnm y (qd5 hy));omega
   ·rw [hxe];have:=zta1 (s:=s) hto hsz;omega
   rintro r H6 ⟨⟨v6,ht6,hb6⟩,hp6⟩;have hlay:layL x (sortL ((t.rs.take q).map (ren s to)))=sortL ((t.rs.take (q+1)).map (ren s to)):=by
    rw [qi4,get_lt hq,qi3,qe3,List.map_singleton,zrj,hxe]
   have ht6':TbS H6 it ⟨t.nx,sortL ((t.rs.take (q+1)).map (ren s to))⟩ v6 lv H0.next:=by rw [← hlay];exact ht6
   refine hk5 r H6 v6 ht6' ((hp4.trans (hx5.hp (fun _=>True)) (r:=(·≠ it)) (fun i _ hi=>⟨hi,trivial⟩)).trans hp6 fun i hi3 hi=>⟨hi,hi,hne4 i hi3⟩) fun k hk3=>hb6 k (by have:=hx5.next;omega) (hne4 k hk3)
  by_cases c1:(get t.rs q).nm=s
  ·have d1:decide ((get t.rs q).nm=s)=true:=qo c1
   have F:=J16 @g0 @gg1 @gg2 @g45 @g46 @g47 @hix @hld @zra @rc_1 @zzd @hsp @m1 @m2 @e1 (J5 @e2 @zkg @d1 @hst9 @hw9);refine uT ?_;refine fin _ _ _ _ _ (by unfold Md.ren;rw [qj c1]) (hxt) inferInstance fun r H6 v6 ht6 hp6 hb6=> ?_
   have F:=J6 @g0 @gg1 @gg2 @g45 @g46 @g47;refine uT ?_;exact ⟨n,oM,q+1,v6,oM,ht6,hp6,hb6,by push_cast;rfl⟩
  ·have d1:decide ((get t.rs q).nm=s)=false:=qp c1
   cases c2:snapB (get t.rs q).nm with
   |false =>
    have F:=J16 @g0 @gg1 @gg2 @g45 @g46 @g47 @hix @hld @zra @rc_1 @zzd @hsp @m1 @m2 @e1 (J4 @e2 @zkg @d1 @c2);refine uT ?_;refine fin _ _ _ _ _ (by unfold Md.ren;rw [qg c1,c2];simp) (hxt) inferInstance fun r H6 v6 ht6 hp6 hb6=> ?_
    have F:=J6 @g0 @gg1 @gg2 @g45 @g46 @g47;refine uT ?_;exact ⟨n,oM,q+1,v6,oM,ht6,hp6,hb6,by push_cast;rfl⟩
   |true =>
    by_cases c3:splA (get t.rs q).nm=s
    ·have d3:decide (splA (get t.rs q).nm=s)=true:=qo c3
     have hj:= @FnX.p _ _ _ _ (join_ok to (splB (get t.rs q).nm));have F:=J16 @g0 @gg1 @gg2 @g45 @g46 @g47 @hix @hld @zra @rc_1 @zzd @hsp @m1 @m2 @e1 (J8 @e2 @zkg @d1 @c2 @d3 @hj @hst9 @hw9);refine uT ?_;refine fin _ _ _ _ _ (by unfold Md.ren;rw [qg c1,c2,d3];rfl) (hxt) inferInstance fun r H6 v6 ht6 hp6 hb6=> ?_
     have F:=J6 @g0 @gg1 @gg2 @g45 @g46 @g47;refine uT ?_;exact ⟨n,oM,q+1,v6,oM,ht6,hp6,hb6,by push_cast;rfl⟩
    ·have d3:decide (splA (get t.rs q).nm=s)=false:=qp c3
     have F:=J16 @g0 @gg1 @gg2 @g45 @g46 @g47 @hix @hld @zra @rc_1 @zzd @hsp @m1 @m2 @e1 (J5 @e2 @zkg @d1 @c2 @d3);refine uT ?_;refine fin _ _ _ _ _ (by unfold Md.ren;rw [qg c1,c2,d3];rfl) (hxt) inferInstance fun r H6 v6 ht6 hp6 hb6=> ?_
     have F:=J6 @g0 @gg1 @gg2 @g45 @g46 @g47;refine uT ?_;exact ⟨n,oM,q+1,v6,oM,ht6,hp6,hb6,by push_cast;rfl⟩
theorem renf_ok {H:AH}[hn:HN H]{t:Tb}{v lv:AV}{s to:ByteArray}(h:TbIn H t v lv) (hs:s.size<=100000) (hto:to.size<=100000) :
  FnE lookM 139 [tbA t.nx v lv,.str s,.str to] H fun r H'=>TbR H' r (renT t s to)/\HX H H':=by
 refine fI Tryz.f139 ?_;have hlo:=hn.lo;have F:=J3 @zba @zdb @zda;refine uT ?_;refine cR_at (fun H1=>HX H H1/\H1.next=H.next+4/\H1.get (H.next+1)=some (bxs s)/\H1.get (H.next+2)=some (bxs to)/\H1.get (H.next+3)=some (tbx 0 .nilSl .nilSl)) ?_ ?_
 ·exact ⟨hxt,rfl,vT0,vT0,vT0⟩
 rintro H1 ⟨hx1,hn1,g1,g2,gr⟩;haveI:=hx1.hn;refine cR_f (zfh (h.hx hx1) (fun hc=>ren1_ok (checkB_ok.1 hc) h.len h.nm hs hto oM oM g1 g2) (renO_w t s to)) ?_
 rw [← zcj1];rintro r2 H2 ⟨ht2,hx2⟩;have gr2:=(hx2.get oM).trans gr
 have hx02:=hx1.trans hx2;haveI:=hx02.hn;have hlo2:H2.lo=H.lo:=hx02.lo;rcases ht2 with ⟨e,he,h1,rfl⟩|⟨t2,v2,l2,h1,rfl,h3,h4⟩
 ·have o1:=zbb (nn:=0) (v:=.nilSl) (lv:=.nilSl) rfl rfl
  have F:=J5 @gr2 @zda @zba @zha @ld7;refine uT ?_;exact ⟨.inl ⟨e,he,h1,rfl⟩,HX.put hx02 oM _⟩
 ·have o1:=zbb (nn:=t2.nx) (v:=v2) (lv:=l2) (RdR.one h3) (OwnS.one h4).1
  have F:=J5 @gr2 @zda @zba @zha @ld7;refine uT ?_;obtain ⟨p1,p2⟩:=TbR.put h3 h4 gr2 (tbx t2.nx v2 l2);exact ⟨.inr ⟨t2,v2,l2,h1,rfl,p1,p2⟩,HX.put hx02 oM _⟩
def DoOk (g:Nat) (caps:List AV) (H0:AH) (f:Rc->Rc):Prop:= ∀(H1:AH) (j:Nat) (op:Bool) (rs:List Rc) (k:Nat),HX H0 H1->HN H1->Row H1 j false op 84 44 (encC rcL (nl rs))->H1.lo<=j->H0.next<=j->k<rs.length ->
 FnE lookM g (.ptr j (k*44)::caps) H1 fun r H2=>HP (·≠ j) H1 H2/\Row H2 j false op 84 44 (encC rcL (nl (rs.set k (f (get rs k)))))
def chgO (t:Tb) (s:ByteArray) (fine:Bool) (f:Rc->Rc):Res:=if fine && (partB s || snapB s) then (if hasB s t.rs then (if (get t.rs (fndI s t.rs)).kd=2 then bad 18 else good ⟨t.nx,t.rs.set (fndI s t.rs) (f (get t.rs (fndI s t.rs)))⟩) else bad 6) else bad 2
theorem zdj1 (t:Tb) (s:ByteArray) (fine:Bool) (f:Rc->Rc):zrd t s fine f=if ztb t then chgO t s fine f else bad 2:=by
 unfold zrd chgO;cases ztb t<;>rfl
theorem chgO_w (t:Tb) (s:ByteArray) (fine:Bool) (f:Rc->Rc):ResW (chgO t s fine f):=by
 unfold chgO;split
 ·split
  ·split
   ·exact .bad dC
   ·exact .good
  ·exact .bad dC
 ·exact .bad dC
abbrev bxb (b:Bool):ABlk:=.cells (.lst [.bool b]) 4 1 false false
theorem chg1_ok {H00 H0:AH}[hn0:HN H0]{t:Tb}{s:ByteArray}{fine:Bool}{f:Rc->Rc}{g:Nat}{caps:List AV}{b1 b2 b3 e3:Nat}(hx00:HX H00 H0) (hdo:DoOk g caps H00 f) (hlen:t.rs.length<=900) (hs:s.size<=100000)
  (h1:b1<H0.next) (h2:b2<H0.next) (h3:b3<H0.next) (g1:H0.get b1=some (bxb fine)) (g2:H0.get b2=some (bxs s)) (g3:H0.get b3=some (.cells (.lst [.fn (.func g) [] caps]) e3 1 false false)) :
  ClOk 176 [.ptr b1 0,.ptr b2 0,.ptr b3 0] H0 t (chgO t s fine f):=by
 intro H1 it v lv hx hn1 ht;refine fI Tryz.f176 ?_;have k1:=(hx.get h1).trans g1;have k2:=(hx.get h2).trans g2;have hnm:= @FnX.p _ _ _ _ (zaa1 s oM)
 have hN:=hx.next;have hlo:H1.lo<=H0.next:=by rw [hx.lo];exact hn0.lo
 unfold chgO;cases a0:fine with
 |false=>rw [a0] at k1;have F:=@k1;refine uT ?_;exact ⟨rfl,HP.refl _ _,fun t2 h=>by cases h⟩
 |true =>
 rw [a0] at k1;cases a1:partB s || snapB s with
 |false=>have F:=J4 @k1 @k2 @hnm @a1;refine uT ?_;exact ⟨rfl,HP.refl _ _,fun t2 h=>by cases h⟩
 |true =>
 have F:=J6 @k1 @k2 @hnm @a1 @ht.box @zda;refine uT ?_;refine cR_f (zbi ht.sl hlen) ?_;rintro r2 H2 ⟨rfl,hx2⟩;have hx02:=hx.trans hx2;have ht2:=ht.hx hx2;have m3:=(hx02.get h3).trans g3;haveI:=hx02.hn;have hn2:=hx2.next;cases a2:hasB s t.rs with
 |false=>refine uT0 ?_;exact ⟨rfl,hx2.hp _,fun t2 h=>by cases h⟩
 |true =>
 obtain ⟨q1,q2⟩:=zeb a2;have hix:=ix44 (z:=44) (q:=fndI s t.rs) ht2.sl.is (by rw [zhc];exact q1)
 have hfa:=fa_el ht2.sl.is (show fndI s t.rs<(nl t.rs).length by rw [zhc];exact q1) 44 2
 have hld:=ht2.sl.fld (nl_at q1) (j:=2) (x:=.int .i64 (get t.rs (fndI s t.rs)).kd) rfl;by_cases c2:(get t.rs (fndI s t.rs)).kd=2
 ·have d2:decide ((get t.rs (fndI s t.rs)).kd=2)=true:=qo c2
  simp only [qj c2,reduceIte,qx3,qp2,qo2];have F:=J6 @ht2.box @tb_1 @hix @hfa @hld @d2;refine uT ?_;exact ⟨rfl,hx2.hp _,fun t2 h=>by cases h⟩
 ·have d2:decide ((get t.rs (fndI s t.rs)).kd=2)=false:=qp c2
  simp only [qg c2,reduceIte,qx3,qp2,qo2];have hge:=ht2.ge;have hbx2:=ht2.box;have hlv2:=ht2.lvo;have ho2:=ht2.own;obtain ⟨c0,⟨rfl,c00⟩|⟨j,op,rfl,hr,hNj,hj,hop⟩⟩:=ho2
  ·omega
  have hne:j≠it:=fun e=>by
   subst e;exact OwnS.ne ht2.own hbx2 dC _ _ _ _ rfl
  have hrd:=hr.rd (k:=fndI s t.rs*44+2) (v:=.int .i64 (get t.rs (fndI s t.rs)).kd) (by rw [zvi zqa (nl_at q1) oM];rfl)
  rw [ld1_q] at hrd;have F:=J6 @hbx2 @tb_1 @hix @hrd @d2 @m3;refine uX ?_;refine cR_f (hdo H2 j op t.rs (fndI s t.rs) (hx00.trans hx02) inferInstance hr (by rw [hx2.lo];omega) (by have:=hx00.next;omega) q1) ?_
  rintro r3 H3 ⟨hp3,hr3⟩;refine uT0 ?_;have hn3:=hp3.next;have hsl:(t.rs.set (fndI s t.rs) (f (get t.rs (fndI s t.rs)))).length=t.rs.length:=qm2;refine ⟨rfl,(hx2.hp (fun _=>True)).trans hp3 (fun i _ hf=>⟨trivial,fun e=>by subst e;exact hf.2 _ _ _ _ rfl⟩),fun t2 h=> ?_⟩
  cases h
  refine ⟨.sl j 0 t.rs.length t.rs.length op,(hp3.get (by have:=ht2.lt;omega) (fun e=>hne e.symm)).trans hbx2,?_,OwnS.hq hlv2 hp3 fun j' o n c op' he=> ?_⟩
  ·refine .inr ⟨j,t.rs.length,op,_,by rw [hsl],oM,hr3,by rw [hsl];exact qn _,by rw [znc zqa,zhc];exact qn _,qx (by rw [znc zqa,zhc];exact qn _)⟩
  ·intro e
   subst e;obtain ⟨cc,hg,_⟩:=hr;exact OwnS.ne hlv2 hg dC _ _ _ _ he
theorem chg_ok {H:AH}[hn:HN H]{t:Tb}{v lv:AV}{s:ByteArray}{fine:Bool}{f:Rc->Rc}{g:Nat}{caps:List AV}(h:TbIn H t v lv) (hs:s.size<=100000) (hdo:DoOk g caps H f) :
  FnE lookM 163 [tbA t.nx v lv,.str s,.bool fine,.fn (.func g) [] caps] H fun r H'=>TbR H' r (zrd t s fine f)/\HX H H':=by
 refine fI Tryz.f163 ?_;have hlo:=hn.lo;have F:=J3 @zba @zdb @zda;refine uT ?_;refine cR_at (fun H1=>HX H H1/\H1.next=H.next+5/\H1.get (H.next+1)=some (bxs s)/\H1.get (H.next+2)=some (bxb fine)/\(∃e3,H1.get (H.next+3)=some (.cells (.lst [.fn (.func g) [] caps]) e3 1 false false))/\H1.get (H.next+4)=some (tbx 0 .nilSl .nilSl)) ?_ ?_
 ·refine ⟨hxt,rfl,vT0,vT0,⟨190,vT0⟩,vT0⟩
 rintro H1 ⟨hx1,hn1,g1,g2,⟨e3,g3⟩,gr⟩;haveI:=hx1.hn;refine cR_f (zfh (h.hx hx1) (fun hc=>chg1_ok hx1 hdo h.len hs oM oM oM g2 g1 g3) (chgO_w t s fine f)) ?_
 rw [← zdj1];rintro r2 H2 ⟨ht2,hx2⟩;have gr2:=(hx2.get oM).trans gr
 have hx02:=hx1.trans hx2;haveI:=hx02.hn;have hlo2:H2.lo=H.lo:=hx02.lo;rcases ht2 with ⟨e,he,h1,rfl⟩|⟨t2,v2,l2,h1,rfl,h3,h4⟩
 ·have o1:=zbb (nn:=0) (v:=.nilSl) (lv:=.nilSl) rfl rfl
  have F:=J5 @gr2 @zda @zba @zha @ld7;refine uT ?_;exact ⟨.inl ⟨e,he,h1,rfl⟩,HX.put hx02 oM _⟩
 ·have o1:=zbb (nn:=t2.nx) (v:=v2) (lv:=l2) (RdR.one h3) (OwnS.one h4).1
  have F:=J5 @gr2 @zda @zba @zha @ld7;refine uT ?_;obtain ⟨p1,p2⟩:=TbR.put h3 h4 gr2 (tbx t2.nx v2 l2);exact ⟨.inr ⟨t2,v2,l2,h1,rfl,p1,p2⟩,HX.put hx02 oM _⟩
theorem zrf1 {rs:List Rc}{k:Nat}(hk:k<rs.length){i:Nat}(hi:i<44):k*44+i<(encC rcL (nl rs)).length:=by
 rw [znc zqa,zhc];have:(k+1)*44<=rs.length*44:=qd2 44 hk;omega
theorem resz_do {H0:AH}{b:Nat}{n:Int}(hb:b<H0.next) (g:H0.get b=some (bxi n)):DoOk 164 [.ptr b 0] H0 fun x=> {x with sz:=n}:=by
 intro H1 j op rs k hx hn1 hr hlo hj hk;refine fI Tryz.f164 ?_;have k1:=(hx.get hb).trans g;obtain ⟨H7,w1,w2,w3,w4⟩:=Row.st1 (L:=lookM) (t:=3) (k:=k*44+3) (v:=.int .i64 n) hr hn1.hide hlo sz3i rfl (zrf1 hk oM)
 rw [zai zqa (nl_at hk) oM (b:=(AV.nilSl,{get rs k with sz:=n})) rfl,zof1] at w2
 have F:=J2 @k1 @w1;refine uT ?_;exact ⟨w3,w2⟩
theorem lim_do {H0:AH}{b1 b2:Nat}{q r:Int}(hb1:b1<H0.next) (hb2:b2<H0.next) (g1:H0.get b1=some (bxi q)) (g2:H0.get b2=some (bxi r)):DoOk 166 [.ptr b1 0,.ptr b2 0] H0 fun x=> {x with qu:=q,rs:=r}:=by
 intro H1 j op rs k hx hn1 hr hlo hj hk;refine zud f166_eq rfl rfl ?_;have k1:=(hx.get hb1).trans g1;have k2:=(hx.get hb2).trans g2;obtain ⟨H7,w1,w2,w3,w4⟩:=Row.st (L:=lookM) (t:=3) (s:=1) (k:=k*44+42) (v:=.int .i64 q) hr hn1.hide hlo sz3i rfl rfl (by have:=zrf1 (rs:=rs) hk (i:=42) oM;omega)
 have hset:(encC rcL (nl rs)).take (k*44+42) ++ (AV.int .i64 q).cells ++ (encC rcL (nl rs)).drop (k*44+42+1)=(encC rcL (nl rs)).set (k*44+42) (.int .i64 q):=by
  rw [qq4,qj (zrf1 hk oM)]
  show _ ++ [AV.int .i64 q] ++ _=_
  simp
 rw [hset,zai zqa (nl_at hk) oM (b:=(AV.nilSl,{get rs k with qu:=q})) rfl,zof1] at w2
 have hlen:(rs.set k {get rs k with qu:=q}).length=rs.length:=qm2
 have hk':k<(rs.set k {get rs k with qu:=q}).length:=by rw [hlen];exact hk
 have hgk:get (rs.set k {get rs k with qu:=q}) k= {get rs k with qu:=q}:=zeh (by rw [qg4 hk])
 haveI:HN H7:=w3.hn;obtain ⟨H8,x1,x2,x3,x4⟩:=Row.st1 (L:=lookM) (t:=3) (k:=k*44+43) (v:=.int .i64 r) w2 HN.hide (by rw [w3.lo];exact hlo) sz3i rfl (zrf1 hk' oM)
 rw [zai zqa (nl_at hk') oM (b:=(AV.nilSl,{get rs k with qu:=q,rs:=r})) (by rw [hgk];rfl),zof1,List.set_set] at x2
 have F:=J3 f166c.eq_1 @k1 @k2;refine uT ?_;refine rk_gst (t:=3) (a:=9) (b:=6) (i:=j) (o:=k*44+42) (u:=.int .i64 q) (ks:= [sOf 2]) (js:= [b2]) kR kR ?_ ?_ ?_ (by intro h;cases h) ?_ w1 ?_
 ·refine zga (o:=0) ?_ zza
  exact vT0
 ·exact vT0
 ·exact vT0
 ·intro i hi
  simp only [qn1] at hi;omega
 ·show RK lookM _ _ (putS none _ _) _ _
  have hn:∀(v:AV) (T:Tr AV),putS none v T=T:=fun _ _=>rfl
  have F:=J2 @hn @x1;refine uT ?_;exact ⟨w3.trans x3 fun i _ hi=>⟨hi,hi⟩,x2⟩
theorem resz_ok {H:AH}[hn:HN H]{t:Tb}{v lv:AV}{s:ByteArray}{n:Int}(h:TbIn H t v lv) (hs:s.size<=100000) :
  FnE lookM 140 [tbA t.nx v lv,.str s,.int .i64 n] H fun r H'=>TbR H' r (sizeT t s n)/\HX H H':=by
 refine fJ Tryz.f140 o140 ?_;have hlo:=hn.lo;have F:=J3 @zba @zdb @zda;refine uT ?_;refine rk_at (fun H1=>HX H H1/\H1.next=H.next+3/\H1.get H.next=some (tbx t.nx v lv)/\H1.get (H.next+1)=some (bxi n)/\H1.get (H.next+2)=some (tbx 0 .nilSl .nilSl)) ?_ ?_
 ·exact ⟨hxt,rfl,vT0,vT0,vT0⟩
 rintro H1 ⟨hx1,hn1,g0,g1,gr⟩;haveI:=hx1.hn;refine rk_cw (js:= [H.next]) (R:=fun r H'=>r= .bool (wi n 1 64)/\H'=H1) ?_ ?_ ?_
 ·rw [zsc]
  refine zga (o:=0) ?_ zza<;>(exact vT0)
 ·refine uT0 ?_;exact zyz n H1
 rintro r2 H2 ⟨rfl,rfl⟩;refine ⟨zcb (HX.refl _) _ fun i hi=> ?_,?_⟩
 ·simp only [qn1] at hi
  subst hi;exact ⟨oM,_,_,_,_,_,g0⟩
 have F:=@zhd;refine uT ?_;refine cR_f (chg_ok (h.hx hx1) hs (resz_do oM g1)) ?_
 rintro r2 H2 ⟨ht2,hx2⟩;have gr2:=(hx2.get oM).trans gr
 have hx02:=hx1.trans hx2;haveI:=hx02.hn;have hlo2:H2.lo=H.lo:=hx02.lo;rcases ht2 with ⟨e,he,h1,rfl⟩|⟨t2,v2,l2,h1,rfl,h3,h4⟩
 ·have o1:=zbb (nn:=0) (v:=.nilSl) (lv:=.nilSl) rfl rfl
  have F:=J5 @gr2 @zda @zba @zha @ld7;refine uT ?_;exact ⟨.inl ⟨e,he,h1,rfl⟩,HX.put hx02 oM _⟩
 ·have o1:=zbb (nn:=t2.nx) (v:=v2) (lv:=l2) (RdR.one h3) (OwnS.one h4).1
  have F:=J5 @gr2 @zda @zba @zha @ld7;refine uT ?_;obtain ⟨p1,p2⟩:=TbR.put h3 h4 gr2 (tbx t2.nx v2 l2);exact ⟨.inr ⟨t2,v2,l2,h1,rfl,p1,p2⟩,HX.put hx02 oM _⟩
theorem lim_ok {H:AH}[hn:HN H]{t:Tb}{v lv:AV}{s:ByteArray}{q r:Int}(h:TbIn H t v lv) (hs:s.size<=100000) :
  FnE lookM 141 [tbA t.nx v lv,.str s,.int .i64 q,.int .i64 r] H fun r' H'=>TbR H' r' (limT t s q r)/\HX H H':=by
 refine fJ Tryz.f141 o141 ?_;have hlo:=hn.lo;have F:=J3 @zba @zdb @zda;refine uT ?_;refine rk_at (fun H1=>HX H H1/\H1.next=H.next+4/\H1.get H.next=some (tbx t.nx v lv)/\H1.get (H.next+1)=some (bxi q)/\H1.get (H.next+2)=some (bxi r)/\H1.get (H.next+3)=some (tbx 0 .nilSl .nilSl)) ?_ ?_
 ·exact ⟨hxt,rfl,vT0,vT0,vT0,vT0⟩
 rintro H1 ⟨hx1,hn1,g0,g1,g2,gr⟩;haveI:=hx1.hn;have cont:∀(T:Tr AV) (ss:List Kf) (Q:PostC),(∀v2 H2,TbR H2 v2 (limT t s q r)->HX H1 H2->RK lookM (ex_ 0 (tO 19) 20<|ex_ 1 (tO 19) 21<|sN_ false 7 (tO 8) (tO 20)<|m_ (tO 21) 9<| .done) ss (pS 19 v2 T) H2 Q) ->
   cR false lookM 163 [tbA t.nx v lv,.str s,.bool (wi q 0 64 && wi r 0 64),.fn (.func 166) [] [.ptr (H.next+1) 0,.ptr (H.next+2) 0]] H1 19 (ex_ 0 (tO 19) 20<|ex_ 1 (tO 19) 21<|sN_ false 7 (tO 8) (tO 20)<|m_ (tO 21) 9<| .done) ss T Q:=by
  intro T ss Q hk;refine cR_f (chg_ok (h.hx hx1) hs (lim_do oM oM g1 g2)) ?_
  rintro v2 H2 ⟨ht2,hx2⟩;exact hk v2 H2 ht2 hx2
 refine rk_cw (js:= [H.next]) (R:=fun r H'=>r= .bool (wi q 0 64)/\H1=H') ?_ ?_ ?_
 ·rw [zsc]
  refine zga (o:=0) ?_ zza<;>(exact vT0)
 ·refine uT0 ?_;exact (zzz q H1).mono fun _ _ h=>⟨h.1,h.2.symm⟩
 rintro r2 H2 ⟨rfl,rfl⟩;refine ⟨zcb (HX.refl _) _ fun i hi=> ?_,?_⟩
 ·simp only [qn1] at hi
  subst hi;exact ⟨oM,_,_,_,_,_,g0⟩
 have tail:∀(T:Tr AV) (v2:AV) (H2:AH),TbR H2 v2 (limT t s q r)->HX H2 H2->True:=fun _ _ _ _ _=>trivial
 cases a1:wi q 0 64 with
 |false =>
  rw [a1] at cont;have F:=@zhd;refine uX ?_;refine cont _ _ _ ?_;intro r2 H2 ht2 hx2;have gr2:=(hx2.get oM).trans gr
  have hx02:=hx1.trans hx2;haveI:=hx02.hn;have hlo2:H2.lo=H.lo:=hx02.lo;rcases ht2 with ⟨e,he,h1,rfl⟩|⟨t2,v2,l2,h1,rfl,h3,h4⟩
  ·have o1:=zbb (nn:=0) (v:=.nilSl) (lv:=.nilSl) rfl rfl
   have F:=J5 @gr2 @zda @zba @zha @ld7;refine uT ?_;exact ⟨.inl ⟨e,he,h1,rfl⟩,HX.put hx02 oM _⟩
  ·have o1:=zbb (nn:=t2.nx) (v:=v2) (lv:=l2) (RdR.one h3) (OwnS.one h4).1
   have F:=J5 @gr2 @zda @zba @zha @ld7;refine uT ?_;obtain ⟨p1,p2⟩:=TbR.put h3 h4 gr2 (tbx t2.nx v2 l2);exact ⟨.inr ⟨t2,v2,l2,h1,rfl,p1,p2⟩,HX.put hx02 oM _⟩
 |true =>
  rw [a1] at cont;have F:=J2 @zhd @g2;refine uT ?_;refine rk_cw (js:= [H.next]) (R:=fun r' H'=>r'= .bool (wi r 0 64)/\H1=H') ?_ ?_ ?_
  ·rw [zsc]
   refine zga (o:=0) ?_ zza<;>(exact vT0)
  ·refine uT0 ?_;exact (zzz r H1).mono fun _ _ h=>⟨h.1,h.2.symm⟩
  rintro r2 H2 ⟨rfl,rfl⟩;refine ⟨zcb (HX.refl _) _ fun i hi=> ?_,?_⟩
  ·simp only [qn1] at hi
   subst hi;exact ⟨oM,_,_,_,_,_,g0⟩
  have F:=@zhd;refine uT ?_;refine cont _ _ _ ?_;intro r2 H2 ht2 hx2;have gr2:=(hx2.get oM).trans gr
  have hx02:=hx1.trans hx2;haveI:=hx02.hn;have hlo2:H2.lo=H.lo:=hx02.lo;rcases ht2 with ⟨e,he,h1,rfl⟩|⟨t2,v2,l2,h1,rfl,h3,h4⟩
  ·have o1:=zbb (nn:=0) (v:=.nilSl) (lv:=.nilSl) rfl rfl
   have F:=J5 @gr2 @zda @zba @zha @ld7;refine uT ?_;exact ⟨.inl ⟨e,he,h1,rfl⟩,HX.put hx02 oM _⟩
  ·have o1:=zbb (nn:=t2.nx) (v:=v2) (lv:=l2) (RdR.one h3) (OwnS.one h4).1
   have F:=J5 @gr2 @zda @zba @zha @ld7;refine uT ?_;obtain ⟨p1,p2⟩:=TbR.put h3 h4 gr2 (tbx t2.nx v2 l2);exact ⟨.inr ⟨t2,v2,l2,h1,rfl,p1,p2⟩,HX.put hx02 oM _⟩
def zua1:Code:=bodyN lookM 94
def f94l0:C2:=(.seq (.seq (.reg (m_ (tO 4) 15<|fa_ 1 (tO 1) 16<|l_ (tO 16) 17<|le_ lookM 49 (tO 17) 18<|b_ lookM .lss 3 (.tmp 15) (.tmp 18) 19<| .done))
 (.cond (tO 19) .skip (.exit 0)))
 (.seq (.block 1 (.seq (.reg (fa_ 1 (tO 1) 22<|l_ (tO 22) 23<|m_ (tO 4) 24<|ix_ 44 (tO 23) (tO 24) 25<|lN_ 44 (tO 25) 26<|al_ false (AV.toC (.agg [(.int .i64 (0)),(.str ⟨#[]⟩),(.int .i64 (0)),(.int .i64 (0)),.nilSl,(.int .i64 (0)),(.int .i64 (0)),(.int .u8 (0)),(.int .u8 (0)),(.int .u8 (0)),(.int .u8 (0)),(.int .u8 (0)),(.int .u8 (0)),(.int .u8 (0)),(.int .u8 (0)),(.int .u8 (0)),(.int .u8 (0)),(.int .u8 (0)),(.int .u8 (0)),(.int .u8 (0)),(.int .u8 (0)),(.int .u8 (0)),(.int .u8 (0)),(.int .u8 (0)),(.int .u8 (0)),(.int .u8 (0)),(.int .u8 (0)),(.int .u8 (0)),(.int .u8 (0)),(.int .u8 (0)),(.int .u8 (0)),(.int .u8 (0)),(.int .u8 (0)),(.int .u8 (0)),(.int .u8 (0)),(.int .u8 (0)),(.int .u8 (0)),(.int .u8 (0)),(.int .u8 (0)),(.int .i64 (0)),(.int .i64 (0)),(.int .i64 (0)),(.int .i64 (0)),(.int .i64 (0))])) 84 44 5<|sN_ false 44 (tO 5) (tO 26)<| .done))
 (.seq (.reg (hn_ false (fun xs H=>bsF 2 0 (.agg [(.int .i64 (0)),(.int .i64 (0))]) 161 (zipF [] xs) H) [] 27<|fa_ 4 (tO 5) 28<|fa_ 0 (tO 28) 29<|l_ (tO 29) 30<|hn_ false (appX 161 2 16) [(tO 27),(tO 30)] 31<|fa_ 4 (tO 5) 32<|fa_ 0 (tO 32) 33<|s1_ false lookM 78 (tO 33) (tO 31)<| .done))
 (.reg (fa_ 1 (tO 3) 34<|l_ (tO 34) 35<|lN_ 44 (tO 5) 36<|hn_ false (fun xs H=>bsF 44 1 (.agg [(.int .i64 (0)),(.str ⟨#[]⟩),(.int .i64 (0)),(.int .i64 (0)),.nilSl,(.int .i64 (0)),(.int .i64 (0)),(.int .u8 (0)),(.int .u8 (0)),(.int .u8 (0)),(.int .u8 (0)),(.int .u8 (0)),(.int .u8 (0)),(.int .u8 (0)),(.int .u8 (0)),(.int .u8 (0)),(.int .u8 (0)),(.int .u8 (0)),(.int .u8 (0)),(.int .u8 (0)),(.int .u8 (0)),(.int .u8 (0)),(.int .u8 (0)),(.int .u8 (0)),(.int .u8 (0)),(.int .u8 (0)),(.int .u8 (0)),(.int .u8 (0)),(.int .u8 (0)),(.int .u8 (0)),(.int .u8 (0)),(.int .u8 (0)),(.int .u8 (0)),(.int .u8 (0)),(.int .u8 (0)),(.int .u8 (0)),(.int .u8 (0)),(.int .u8 (0)),(.int .u8 (0)),(.int .i64 (0)),(.int .i64 (0)),(.int .i64 (0)),(.int .i64 (0)),(.int .i64 (0))]) 84 (zipF [0] xs) H) [(tO 36)] 37<|hn_ false (appX 84 44 152) [(tO 35),(tO 37)] 38<|fa_ 1 (tO 3) 39<|s1_ false lookM 49 (tO 39) (tO 38)<| .done)))))
 (.reg (m_ (tO 4) 20<|b_ lookM .add 3 (.tmp 20) (.const (.int .i64 (1))) 21<|m_ (tO 21) 4<| .done))))
def f94b0:Code:=lpN zua1 0
theorem zun1:comp lookM f94b0=f94l0:=kR
def f94c:C2:=(.seq (.reg (bx_ false 53 7 (tO 0) 1<|al_ false (AV.toC (.agg [(.int .i64 (0)),.nilSl,(.int .i64 (0)),(.int .i64 (0)),(.int .i64 (0)),(.int .i64 (0)),.nilSl])) 53 7 2<| .done))
 (.seq (.reg (fa_ 0 (tO 1) 6<|l_ (tO 6) 7<|fa_ 2 (tO 1) 8<|lN_ 4 (tO 8) 9<|fa_ 6 (tO 1) 11<|l_ (tO 11) 12<|hn_ true (fun xs H=>bsF 1 0 (.int .i64 (0)) 3 (zipF [] xs) H) [] 10<|K2.gw (gwX lookM zua1 1 7) (gwP lookM zua1 1 7) (some (sOf 13))<|bu_ lookM 53 [0,2,3] [(tO 7),(tO 9),(tO 13)] 14<|al_ true (AV.toC (.agg [(.int .i64 (0)),.nilSl,(.int .i64 (0)),(.int .i64 (0)),(.int .i64 (0)),(.int .i64 (0)),.nilSl])) 53 7 3<|sN_ false 7 (tO 3) (tO 14)<| .done))
 (.seq (.seq (.reg (m_ (.con (.int .i64 (0))) 4<| .done))
 (.block 0 (.loop f94b0)))
 (.seq (.reg (lN_ 7 (tO 3) 40<|sN_ false 7 (tO 2) (tO 40)<| .done))
 .ret))))
theorem f94_eq:fnF lookM 94=some ⟨41,f94c, [.cell 2 53]⟩:=kR
def f81body:Code:=bodyN lookM 81
def f81l0:C2:=(.seq (.seq (.reg (m_ (tO 21) 95<|fa_ 1 (tO 19) 96<|l_ (tO 96) 97<|le_ lookM 49 (tO 97) 98<|b_ lookM .lss 3 (.tmp 95) (.tmp 98) 99<| .done))
 (.cond (tO 99) .skip (.exit 0)))
 (.seq (.block 1 (.seq (.reg (fa_ 1 (tO 19) 103<|l_ (tO 103) 104<|m_ (tO 21) 105<|ix_ 44 (tO 104) (tO 105) 106<|fa_ 1 (tO 106) 107<|l_ (tO 107) 108<|cl_ false 62 [(tO 108)] 109<|m_ (tO 109) 102<|ex_ 0 (tO 102) 110<|ex_ 1 (tO 102) 111<|ex_ 2 (tO 102) 112<|m_ (tO 110) 22<|m_ (tO 111) 23<|m_ (tO 112) 24<| .done))
 (.seq (.reg (m_ (tO 14) 113<|m_ (tO 113) 114<|o_ 114 true 115 (m_ (tO 24) 115)<|pk_ (tO 114) (tO 115) (.con (.bool false)) 116<|m_ (tO 116) 117<|o_ 117 true 118 (fa_ 1 (tO 19) 118)<|o_ 117 true 119 (l_ (tO 118) 119)<|o_ 117 true 120 (m_ (tO 21) 120)<|o_ 117 true 121 (ix_ 44 (tO 119) (tO 120) 121)<|o_ 117 true 122 (fa_ 40 (tO 121) 122)<|o_ 117 true 123 (l_ (tO 122) 123)<|o_ 117 true 124 (m_ (tO 20) 124)<|o_ 117 true 125 (b_ lookM .eql 3 (.tmp 123) (.tmp 124) 125)<|pk_ (tO 117) (tO 125) (.con (.bool false)) 126<| .done))
 (.cond (tO 126) (.reg (fa_ 1 (tO 19) 127<|l_ (tO 127) 128<|m_ (tO 21) 129<|m_ (tO 2) 130<|b_ lookM .add 9 (.tmp 130) (.const (.string ⟨#[64]⟩)) 131<|m_ (tO 23) 132<|b_ lookM .add 9 (.tmp 131) (.tmp 132) 133<|ix_ 44 (tO 128) (tO 129) 134<|fa_ 1 (tO 134) 135<|s1_ false lookM 9 (tO 135) (tO 133)<| .done)) .skip))))
 (.reg (m_ (tO 21) 100<|b_ lookM .add 3 (.tmp 100) (.const (.int .i64 (1))) 101<|m_ (tO 101) 21<| .done))))
def f81b0:Code:=lpN f81body 0
theorem zvn1:comp lookM f81b0=f81l0:=kR
def f81c:C2:=(.seq (.reg (bx_ false 53 7 (tO 0) 3<|al_ false (AV.toC (.agg [(.int .i64 (0)),.nilSl,(.int .i64 (0)),(.int .i64 (0)),(.int .i64 (0)),(.int .i64 (0)),.nilSl])) 53 7 6<|m_ (.con (.int .i64 (0))) 7<| .done))
 (.seq (.reg (m_ (tO 1) 26<|cl_ false 62 [(tO 26)] 27<|m_ (tO 27) 25<|ex_ 0 (tO 25) 28<|ex_ 1 (tO 25) 29<|ex_ 2 (tO 25) 30<|m_ (tO 28) 8<|m_ (tO 29) 9<|m_ (tO 30) 10<| .done))
 (.seq (.reg (m_ (tO 2) 32<|cl_ false 62 [(tO 32)] 33<|m_ (tO 33) 31<|ex_ 0 (tO 31) 34<|ex_ 1 (tO 31) 35<|ex_ 2 (tO 31) 36<|m_ (tO 34) 11<|m_ (tO 35) 12<|m_ (tO 36) 13<| .done))
 (.seq (.reg (m_ (tO 1) 37<|cl_ false 34 [(tO 37)] 38<|m_ (tO 38) 39<|o_ 39 true 40 (m_ (tO 2) 40)<|o_ 39 true 41 (cl_ false 34 [(tO 40)] 41)<|pk_ (tO 39) (tO 41) (.con (.bool false)) 42<|m_ (tO 42) 14<| .done))
 (.seq (.seq (.reg (lN_ 7 (tO 3) 43<|cl_ false 90 [(tO 43)] 44<|b_ lookM .neq 34 (.tmp 44) (.const (.int .i64 (0))) 45<|m_ (tO 45) 46<|o_ 46 false 47 (m_ (tO 14) 47)<|o_ 46 false 48 (nt_ (tO 47) 48)<|o_ 46 false 49 (m_ (tO 48) 49)<|o_ 49 true 50 (m_ (tO 10) 50)<|o_ 49 true 51 (nt_ (tO 50) 51)<|o_ 49 true 52 (m_ (tO 51) 52)<|o_ 52 false 53 (m_ (tO 13) 53)<|o_ 52 false 54 (nt_ (tO 53) 54)<|o_ 49 true 55 (pk_ (tO 52) (.con (.bool true)) (tO 54) 55)<|o_ 49 true 56 (m_ (tO 55) 56)<|o_ 56 false 57 (m_ (tO 8) 57)<|o_ 56 false 58 (m_ (tO 11) 58)<|o_ 56 false 59 (b_ lookM .neq 9 (.tmp 57) (.tmp 58) 59)<|o_ 49 true 60 (pk_ (tO 56) (.con (.bool true)) (tO 59) 60)<|o_ 46 false 61 (pk_ (tO 49) (tO 60) (.con (.bool false)) 61)<|pk_ (tO 46) (.con (.bool true)) (tO 61) 62<| .done))
 (.cond (tO 62) (.seq (.reg (bu_ lookM 53 [] [] 63<|sN_ false 7 (tO 6) (tO 63)<|m_ (.con (.int .i64 (2))) 7<| .done))
 .ret) .skip))
 (.seq (.reg (lN_ 7 (tO 3) 65<|m_ (tO 1) 66<|cl_ false 66 [(tO 65),(tO 66)] 67<|m_ (tO 67) 64<|ex_ 0 (tO 64) 68<|ex_ 1 (tO 64) 69<|m_ (tO 68) 15<|m_ (tO 69) 16<| .done))
 (.seq (.seq (.reg (m_ (tO 16) 70<|nt_ (tO 70) 71<| .done))
 (.cond (tO 71) (.seq (.reg (bu_ lookM 53 [] [] 72<|sN_ false 7 (tO 6) (tO 72)<|m_ (.con (.int .i64 (6))) 7<| .done))
 .ret) .skip))
 (.seq (.reg (lN_ 7 (tO 3) 74<|m_ (tO 2) 75<|cl_ false 66 [(tO 74),(tO 75)] 76<|m_ (tO 76) 73<|ex_ 0 (tO 73) 77<|ex_ 1 (tO 73) 78<|m_ (tO 77) 17<|m_ (tO 78) 18<| .done))
 (.seq (.seq (.reg (m_ (tO 18) 79<| .done))
 (.cond (tO 79) (.seq (.reg (bu_ lookM 53 [] [] 80<|sN_ false 7 (tO 6) (tO 80)<|m_ (.con (.int .i64 (7))) 7<| .done))
 .ret) .skip))
 (.seq (.reg (lN_ 7 (tO 3) 81<|cl_ false 94 [(tO 81)] 82<|al_ false (AV.toC (.agg [(.int .i64 (0)),.nilSl,(.int .i64 (0)),(.int .i64 (0)),(.int .i64 (0)),(.int .i64 (0)),.nilSl])) 53 7 19<|sN_ false 7 (tO 19) (tO 82)<| .done))
 (.seq (.reg (fa_ 1 (tO 19) 83<|l_ (tO 83) 84<|m_ (tO 15) 85<|ix_ 44 (tO 84) (tO 85) 86<|fa_ 0 (tO 86) 87<|l_ (tO 87) 88<|m_ (tO 88) 20<| .done))
 (.seq (.reg (fa_ 1 (tO 19) 89<|l_ (tO 89) 90<|m_ (tO 15) 91<|m_ (tO 2) 92<|ix_ 44 (tO 90) (tO 91) 93<|fa_ 1 (tO 93) 94<|s1_ false lookM 9 (tO 94) (tO 92)<| .done))
 (.seq (.seq (.reg (m_ (.con (.int .i64 (0))) 21<| .done))
 (.block 0 (.loop f81b0)))
 (.seq (.reg (fa_ 1 (tO 19) 136<|l_ (tO 136) 137<|cl_ false 97 [(tO 137)] 138<|fa_ 1 (tO 19) 139<|s1_ false lookM 49 (tO 139) (tO 138)<| .done))
 (.seq (.reg (lN_ 7 (tO 19) 140<|sN_ false 7 (tO 6) (tO 140)<|m_ (.con (.int .i64 (0))) 7<| .done))
 .ret)))))))))))))))
theorem f81_eq:fnF lookM 81=some ⟨141,f81c, [.cell 6 53,.tmp 7]⟩:=kR
def HoD (H:AH) (a:AV):Prop:=a= .nilSl\/ ∃i op cc op',a= .sl i 0 0 0 op/\i<H.next/\H.get i=some (.cells cc 161 2 op' false)
theorem HoD.is {H:AH}{a:AV}(h:HoD H a):IsSl H a 0:=by
 rcases h with rfl|⟨i,op,cc,op',rfl,hi,hg⟩
 ·exact .inl ⟨rfl,rfl⟩
 ·exact .inr ⟨i,0,0,op,rfl,hi,cc,_,_,_,_,hg,qh2 _⟩
theorem HoD.z {H:AH}{a:AV}(h:HoD H a):SlZ H a 0 2 []:=by
 rcases h with rfl|⟨i,op,cc,op',rfl,hi,hg⟩
 ·exact ⟨by simp,.inl ⟨rfl,rfl⟩⟩
 ·exact ⟨by simp,.inr ⟨i,0,0,op,false,op',_,_,cc.l,rfl,hi,⟨cc,hg,rfl⟩,oM,by simp⟩⟩
theorem HoD.hx {H H':AH}{a:AV}(h:HoD H a) (hx:HX H H'):HoD H' a:=by
 rcases h with h|⟨i,op,cc,op',rfl,hi,hg⟩
 ·exact .inl h
 ·exact .inr ⟨i,op,cc,op',rfl,qa1 hi hx.next,(hx.get hi).trans hg⟩
theorem HoD.put {H H':AH}{a:AV}(h:HoD H a){b:Nat}(hp:HP (·≠ b) H H') (hb:∀cc op ro,H.get b≠some (.cells cc 161 2 op ro)):HoD H' a:=by
 rcases h with h|⟨i,op,cc,op',rfl,hi,hg⟩
 ·exact .inl h
 ·exact .inr ⟨i,op,cc,op',rfl,qa1 hi hp.next,(hp.get hi (fun e=>by subst e;exact hb _ _ _ hg)).trans hg⟩
theorem OwnS.hod {H:AH}{a:AV}{N:Nat}{cs:List AV}(h:OwnS H a 0 161 2 cs N):HoD H a:=by
 rcases h.2 with ⟨rfl,_⟩|⟨j,op,rfl,⟨cc,hg,_⟩,_,hj,_⟩
 ·exact .inl rfl
 ·exact .inr ⟨j,op,cc,op,rfl,hj,hg⟩
structure OwD (H:AH) (v:AV) (l:List (AV×Rc)) (N:Nat):Prop where
 own:OwnS H v l.length 84 44 (encC rcL l) N
 ho:∀p,p∈l->HoD H p.1
theorem OwD.hx {H H':AH}{v:AV}{l:List (AV×Rc)}{N:Nat}(h:OwD H v l N) (hx:HX H H'):OwD H' v l N:=⟨OwnS.hx h.own hx,fun p hp=>(h.ho p hp).hx hx⟩
structure RdD (H:AH) (v:AV) (l:List (AV×Rc)):Prop where
 rd:(v= .nilSl/\l= [])\/ ∃j c op op' cs,v= .sl j 0 l.length c op/\j<H.next/\Row H j false op' 84 44 cs/\l.length<=c/\l.length*44<=cs.length/\cs.take (l.length*44)=encC rcL l
 ho:∀p,p∈l->HoD H p.1
theorem OwD.rd {H:AH}{v:AV}{l:List (AV×Rc)}{N:Nat}(h:OwD H v l N):RdD H v l:=by
 refine ⟨?_,h.ho⟩;rcases h.own.2 with ⟨rfl,h0⟩|⟨j,op,rfl,hr,_,hj,_⟩
 ·exact .inl ⟨rfl,ql1 h0⟩
 ·exact .inr ⟨j,_,op,op,_,rfl,hj,hr,qn _,by rw [h.own.1];exact qn _,qx (by rw [h.own.1];exact qn _)⟩
theorem RdD.sl {H:AH}{v:AV}{l:List (AV×Rc)}(h:RdD H v l):SlRc H v l:=by
 refine ⟨⟨by rw [znc zqa],?_⟩,fun p hp=>(h.ho p hp).is,fun i o n c op hv=> ?_⟩
 ·rcases h.rd with ⟨rfl,rfl⟩|⟨j,c,op,op',cs,rfl,hj,hr,hc,hl,ht⟩
  ·exact .inl ⟨rfl,rfl⟩
  ·exact .inr ⟨j,0,c,op,false,op',_,44,cs,rfl,hj,hr,oM,by rw [qt2];exact ht⟩
 ·rcases h.rd with ⟨rfl,rfl⟩|⟨j,c',op',op2,cs,rfl,hj,hr,hc,_⟩
  ·cases hv
  ·cases hv;exact hc
theorem RdD.hx {H H':AH}{v:AV}{l:List (AV×Rc)}(h:RdD H v l) (hx:HX H H'):RdD H' v l:=by
 refine ⟨?_,fun p hp=>(h.ho p hp).hx hx⟩
 rcases h.rd with h|⟨j,c,op,op',cs,rfl,hj,hr,hc⟩
 ·exact .inl h
 ·exact .inr ⟨j,c,op,op',cs,rfl,qa1 hj hx.next,hr.hx hx hj,hc⟩
theorem RdD.put {H H':AH}{v:AV}{l:List (AV×Rc)}(h:RdD H v l){b:Nat}(hp:HP (·≠ b) H H'){cb:Ce}{eb zb:Nat}{opb rob:Bool}(hb:H.get b=some (.cells cb eb zb opb rob)) (hz:zb≠44) (hz2:zb≠2):RdD H' v l:=by
 refine ⟨?_,fun p hp'=>(h.ho p hp').put hp fun cc op ro e=>by rw [hb] at e;cases e;exact hz2 rfl⟩
 rcases h.rd with h|⟨j,c,op,op',cs,rfl,hj,hr,hc⟩
 ·exact .inl h
 ·refine .inr ⟨j,c,op,op',cs,rfl,qa1 hj hp.next,hr.hp hp hj fun e=> ?_,hc⟩
  subst e;obtain ⟨cc,hg,_⟩:=hr;rw [hb] at hg;cases hg;exact hz rfl
theorem RdD.one {H:AH}{v:AV}{l:List (AV×Rc)}(h:RdD H v l):v.oneCell=true:=zwi h.sl.is
def LvD (H:AH) (lv:AV):Prop:= ∃j op,lv= .sl j 0 2 2 op/\Row H j false op 3 1 lvL/\j<H.next
theorem OwL.lvd {H:AH}{lv:AV}{N:Nat}(h:OwL H lv N):LvD H lv:=by
 rcases h.2 with ⟨_,h⟩|⟨j,op,rfl,hr,_,hj,_⟩
 ·cases h
 ·exact ⟨j,op,rfl,hr,hj⟩
theorem LvD.hx {H H':AH}{lv:AV}(h:LvD H lv) (hx:HX H H'):LvD H' lv:=by
 obtain ⟨j,op,rfl,hr,hj⟩:=h;exact ⟨j,op,rfl,hr.hx hx hj,qa1 hj hx.next⟩
theorem LvD.put {H H':AH}{lv:AV}(h:LvD H lv){b:Nat}(hp:HP (·≠ b) H H'){cb:Ce}{eb zb:Nat}{opb rob:Bool}(hb:H.get b=some (.cells cb eb zb opb rob)) (hz1:zb≠1):LvD H' lv:=by
 obtain ⟨j,op,rfl,hr,hj⟩:=h;refine ⟨j,op,rfl,hr.hp hp hj ?_,qa1 hj hp.next⟩;intro e;subst e;obtain ⟨cc,hg,_⟩:=hr;rw [hb] at hg;cases hg;exact hz1 rfl
theorem LvD.one {H:AH}{lv:AV}(h:LvD H lv):lv.oneCell=true/\lv.toC= .lst [lv]:=by
 obtain ⟨j,op,rfl,_⟩:=h;exact ⟨rfl,rfl⟩
theorem LvD.z {H:AH}{lv:AV}(h:LvD H lv):SlZ H lv 2 1 lvL:=by
 obtain ⟨j,op,rfl,hr,hj⟩:=h;exact hr.slZ hj rfl
theorem LvD.lv {H:AH}{lv:AV}(h:LvD H lv):Lv H lv:=by
 obtain ⟨j,op,rfl,hr,hj⟩:=h;refine hr.slR hj (qh2 _) fun k hk=> ?_
 have hk:k<2:=hk;rcases k with _|_|k
 ·rfl
 ·rfl
 ·omega
structure TbD (H:AH) (t:Tb) (v lv:AV) (l:List (AV×Rc)):Prop where
 rd:RdD H v l
 eq:rcs l=t.rs
 lv:LvD H lv
theorem TbD.hx {H H':AH}{t:Tb}{v lv:AV}{l:List (AV×Rc)}(h:TbD H t v lv l) (hx:HX H H'):TbD H' t v lv l:=⟨h.rd.hx hx,h.eq,h.lv.hx hx⟩
theorem TbD.put {H H':AH}{t:Tb}{v lv:AV}{l:List (AV×Rc)}(h:TbD H t v lv l){b:Nat}(hp:HP (·≠ b) H H'){cb:Ce}{eb zb:Nat}{opb rob:Bool}(hb:H.get b=some (.cells cb eb zb opb rob)) (hz:zb≠44) (hz2:zb≠2) (hz1:zb≠1):TbD H' t v lv l:=⟨h.rd.put hp hb hz hz2,h.eq,h.lv.put hp hb hz1⟩
theorem TbD.len {H:AH}{t:Tb}{v lv:AV}{l:List (AV×Rc)}(h:TbD H t v lv l):l.length=t.rs.length:=by rw [← h.eq,zkb]
theorem ziu {H H':AH}:∀js:List Nat,(∀i,i∈js->H'.get i=H.get i/\ ∃c e z op ro,H.get i=some (.cells c e z op ro))->zwg H H' js=true
 | [],_=>rfl
 |i::js,h=>by
  obtain ⟨h1,c,e,z,op,ro,h2⟩:=h i qt1;exact zem (show Row H i ro op e z c.l from ⟨c,h2,rfl⟩) h1 (ziu js fun k hk=>h k (qh1 _ hk))
theorem OwL.z {H:AH}{lv:AV}{N:Nat}(h:OwL H lv N):SlZ H lv 2 1 lvL:=OwnS.slZ h
theorem appI_eq (s x:AV) (H:AH):zzc lookM 35 s x H=appX 3 1 8 [s,x] H:=(zdh1 (L:=lookM) (t:=35) (e:=3) (z:=1) (b:=8) (zv:=.int .i64 0) kR kR kR kR kR s x H).symm
theorem rc_set4 (a a':AV) (x:Rc):(rcL (a,x)).set 4 a'=rcL (a',x):=rfl
theorem tb_bu3 (nn:Int) (i o n c:Nat) (op:Bool):zua lookM 53 (zipF [0,2,3] [.int .i64 nn,.agg cu0,.sl i o n c op])=some (tbA nn .nilSl (.sl i o n c op)):=kR
theorem app1 {H:AH}[hn:HN H]{v:AV}{l:List (AV×Rc)}{N j:Nat}{op:Bool}{p:AV×Rc}(h:OwD H v l N) (hr:Row H j false op 84 44 (rcL p)) (hj:j<H.next) (hone:p.1.oneCell=true) (hlen:l.length<=1000) (hlo:H.lo<=N) (hN:N<=H.next) :
  ∃s' H',appX 84 44 152 [v,.sl j 0 1 1 false] H=some (s',H')/\OwnS H' s' (l ++ [p]).length 84 44 (encC rcL (l ++ [p])) N/\HP (blkNe v) H H'/\H'.next<=H.next+1/\(∀k,k<H.next->blkNe v k->blkNe s' k):=by
 obtain ⟨s',H',a1,a2,a3,a4,a5⟩:=OwnS.app (b:=152) h.own (hr.slZ hj (n:=1) (c:=1) (op':=false) rfl) (zbc _ hone) oM oM hlo hN
 refine ⟨s',H',a1,?_,a3,a4,a5⟩;have:encC rcL (l ++ [p])=encC rcL l ++ rcL p:=by rw [zui,show encC rcL [p]=rcL p from by unfold encC;simp]
 rw [this,qy];exact a2
abbrev rcb2 (p:AV×Rc):ABlk:=.cells (.lst (rcL p)) 84 44 false false
theorem zva1 {L:Lk}{H:AH}{d:Nat}{k:K2}{s:List Kf}{T:Tr AV}{Q:PostC}{e z b:Nat}{xs:List AV}(P:AH->Prop) (hp:P H) (hk:∀H,P H->oH false (appX e z b xs H) L d k s T H Q):oH false (appX e z b xs H) L d k s T H Q:=hk H hp
set_option maxHeartbeats 16000000 in
theorem zal {H:AH}[hn:HN H]{t:Tb}{v lv:AV}{l:List (AV×Rc)}(h:TbD H t v lv l) (hlen:l.length<=900) :
  FnE lookM 94 [tbA t.nx v lv] H fun r H'=>(∃v' lv' l',r=tbA t.nx v' lv'/\rcs l'=rcs l/\l'.length=l.length/\OwD H' v' l' H.next/\OwL H' lv' H.next)/\HX H H':=by
 refine zud f94_eq rfl rfl ?_;have hlo:=hn.lo;have hl:∀H',fstO (zea .len lookM [49] [v] H')=some (.int .i64 l.length):=fun H'=>zwc (H':=H') uRs h.rd.sl.is
 have e01:=hEq_f (oM:H.next≠H.next+1)
 have hb0:∀H2:AH,bsF 1 0 (.int .i64 0) 3 (zipF [] []) H2=some (.sl H2.next 0 0 0 false,H2.new (.cells (Ce.of []) 3 1 false false)):=fun H2=>bs0_q
 have F:=J10 f94c.eq_1 @zba @zdb @tb_0 @tb_cu @tb_6 @e01 @hb0 @zyi @zzi;refine uT ?_;refine rk_at (fun H1=>HX H H1/\H1.next=H.next+3/\H1.get H.next=some (tbx t.nx v lv)/\H1.get (H.next+1)=some (tbx 0 .nilSl .nilSl)/\OwnS H1 (.sl (H.next+2) 0 0 0 false) 0 3 1 [] (H.next+2)) ?_ ?_
 ·refine ⟨hxt,rfl,vT0,vT0,?_⟩
  exact OwnS.bs0 (H:=(H.new (tbx t.nx v lv)).new (tbx 0 .nilSl .nilSl))
 rintro H1 ⟨hx1,hn1,g0,g1,ho1⟩;haveI:=hx1.hn;have hlo1:H1.lo=H.lo:=hx1.lo;obtain ⟨lv2,H2,a1,ho2,hp2,hn2,hne2⟩:=OwnS.app (b:=8) ho1 (SlZ.hx h.lv.z hx1) rfl dC dC oM oM
 rw [qu1,qk1] at ho2;have hlv1:lv≠ .undef:=by
  obtain ⟨j,op,rfl,_⟩:=h.lv;intro h;cases h
 have p0:=(hp2.get (i:=H.next) oM (zla oM)).trans g0
 have p1:=(hp2.get (i:=H.next+1) oM (zla oM)).trans g1
 refine rk_gap (c:=⟨.builtin .append,#[.tmp 10,.tmp 12],#[35,35]⟩) (t:=35) (t':=35) (a:=10) (b:=12) (ts:= []) (ks:= [sOf 8,sOf 6]) (js:= [H.next,H.next]) (sv:=.sl (H.next+2) 0 0 0 false) (xv:=lv) (v:=lv2) (H':=H2) kR rfl rfl rfl uIs kR ?_ ?_ ?_ (by intro h;cases h) hlv1 ((appI_eq _ _ _).trans a1) ?_ ?_
 ·refine zga (o:=2) ?_ (zga (o:=0) ?_ zza)<;>(exact vT0)
 ·exact vT0
 ·exact vT0
 ·refine ziu _ fun i hi=> ?_
  simp only [qe1,qv4,qk6] at hi;rcases hi with rfl|rfl<;>exact ⟨p0.trans g0.symm,_,_,_,_,_,g0⟩
 have hx2:HX H H2:=HX.hp2 hx1 hp2 fun i hi=>zla oM
 haveI:=hx2.hn;have hlo2:H2.lo=H.lo:=hx2.lo;have hbu:zua lookM 53 (zipF [0,2,3] [.int .i64 t.nx,.agg cu0,lv2])=some (tbA t.nx .nilSl lv2):=by
  rcases ho2.2 with ⟨_,h⟩|⟨j,op,rfl,_⟩
  ·cases h
  ·exact tb_bu3 _ _ _ _ _ _
 have o1:=zbb (nn:=t.nx) (v:=.nilSl) (lv:=lv2) rfl (OwnS.one ho2).1;have hn2':H1.next<=H2.next:=hp2.next;have hlo22:H2.lo<=H2.next:=HN.lo;have F:=J5 @zhd @hbu @zdb @zba @zha;refine uT ?_;refine rc_lp zun1 (fun n T H'=> ∃q v' l',n+q=l.length/\HX H H'/\H2.next<H'.next/\H'.get H.next=some (tbx t.nx v lv)/\H'.get (H.next+1)=some (tbx 0 .nilSl .nilSl)/\H'.get H2.next=some (tbx t.nx v' lv2)/\OwD H' v' l' H.next/\rcs l'=(rcs l).take q/\l'.length=q/\OwL H' lv2 H.next /\
  gT T 1= .ptr H.next 0/\gT T 2= .ptr (H.next+1) 0/\gT T 3= .ptr H2.next 0/\gT T 4= .int .i64 q) l.length ?_ ?_
 ·have hxp:HX H2 ((H2.new (tbx 0 .nilSl .nilSl)).put H2.next (tbx t.nx .nilSl lv2)):=hxt
  exact ⟨0,.nilSl, [],rfl,hx2.trans hxp,qc1 _,(hxp.get oM).trans p0,(hxp.get oM).trans p1,zfa _ _,⟨OwnS.nil _ _ _ _,fun p hp=>by cases hp⟩,by simp,rfl,OwnS.le (OwnS.hx ho2 hxp) oM,vT0,vT0,vT0,by refine uT0 ?_;rfl⟩
 rintro n T H3 ⟨q,v',l',hnq,hx3,hb3,g0,g1,g3,hod,hrq,hlq,hol,t1,t2,t3,t4⟩;haveI:=hx3.hn;have hlo3:H3.lo=H.lo:=hx3.lo;have hn3:=hx3.next;unfold f94l0;cases n with
 |zero =>
  have hq:q=l.length:=oM
  subst hq;have o2:=zbb (nn:=t.nx) (v:=v') (lv:=lv2) (OwnS.one hod.own).1 (OwnS.one hol).1;have F:=J13 @t1 @t2 @t3 @t4 @g0 @g1 @g3 @tb_1 @hl @zda @zba @zha @ld7;refine uT ?_;have hpp:HP (·≠ (H.next+1)) H3 (H3.put (H.next+1) (tbx t.nx v' lv2)):=HP.put _ _ _;refine ⟨⟨v',lv2,l',rfl,by rw [hrq,qx (by rw [zkb];exact qn _)],hlq,⟨OwnS.hq hod.own hpp fun j o n c op he=> ?_,fun p hp=>(hod.ho p hp).put hpp fun cc op ro e=>by rw [g1] at e;cases e⟩,OwnS.hq hol hpp fun j o n c op he=> ?_⟩,HX.put hx3 oM _⟩
  ·intro e
   subst e;exact OwnS.ne hod.own g1 dC _ _ _ _ he
  ·intro e
   subst e;exact OwnS.ne hol g1 dC _ _ _ _ he
 |succ n =>
  have hq:q<l.length:=oM
  obtain ⟨p,hk⟩:∃p,l[q]? =some p:=⟨_,qr hq⟩
  have hmem:p∈l:=qz.2 ⟨q,hk⟩;have hsl3:=(h.rd.hx hx3).sl;have hix:=ix44 (z:=44) (q:=q) hsl3.is hq;have hld:=hsl3.agg hk;have hp1:=zjr (hsl3.holeAt hk);have hbA:∀H2:AH,bsF 2 0 (.agg [(.int .i64 (0)),(.int .i64 (0))]) 161 (zipF [] []) H2=some (.sl H2.next 0 0 0 false,H2.new (.cells (Ce.of []) 161 2 false false)):=fun H2=>bs0_q
  have e0:=hEq_f (oM:H3.next≠H3.next+1)
  have F:=J13 @t1 @t2 @t3 @t4 @g0 @tb_1 @hl @hix @hld @zra @rc_4 @hbA @e0;refine uT ?_;refine zva1 (fun H4=>HX H3 H4/\H4.next=H3.next+2/\H4.get H3.next=some (rcb2 p)/\OwnS H4 (.sl (H3.next+1) 0 0 0 false) 0 161 2 [] (H3.next+1)) ?_ ?_
  ·refine ⟨hxt,rfl,?_,OwnS.bs0⟩
   rw [zmf _ (oM:H3.next≠H3.next+1),zfa]
  rintro H4 ⟨hx4,hn4,gx4,ho4⟩;have hx04:=hx3.trans hx4;haveI:=hx04.hn;have hlo4:H4.lo=H.lo:=hx04.lo;have hpd:=(h.rd.hx hx04).ho p hmem;obtain ⟨a5,H5,b1,b2,b3,b4,b5⟩:=OwnS.app (b:=16) ho4 hpd.z rfl dC dC oM oM
  refine ⟨(a5,H5),b1,?_⟩;have hx35:HX H3 H5:=HX.hp2 hx4 b3 fun i hi=>zla oM
  have hx05:=hx3.trans hx35;haveI:=hx05.hn;have hlo5:H5.lo=H.lo:=hx05.lo;have hn5:H4.next<=H5.next:=b3.next;have gx5:=(b3.get (i:=H3.next) oM (zla oM)).trans gx4
  have g15:=(hx35.get (i:=H.next+1) oM).trans g1
  have g05:=(hx35.get (i:=H.next) oM).trans g0
  have g35:=(hx35.get (i:=H2.next) oM).trans g3
  have hod5:=hod.hx hx35;have ho1:=OwnS.one b2;have hst:=st1_w (L:=lookM) (t:=78) (i:=H3.next) (o:=4) (H:=H5) szA ho1.1 ho1.2 oM
  have hwr:=wr1_l (i:=H3.next) (o:=4) (v:=a5) (H:=H5) (l:=rcL p) (e:=84) (z:=44) (op:=false) (by rw [zqa];omega)
  have hs4:(rcL p).set 4 a5=rcL (a5,p.2):=rc_set4 p.1 a5 p.2;have e3:=hEq_f (oM:H2.next≠H3.next)
  have hbs:∀H2:AH,bsF 44 1 (.agg [(.int .i64 (0)),(.str ⟨#[]⟩),(.int .i64 (0)),(.int .i64 (0)),.nilSl,(.int .i64 (0)),(.int .i64 (0)),(.int .u8 (0)),(.int .u8 (0)),(.int .u8 (0)),(.int .u8 (0)),(.int .u8 (0)),(.int .u8 (0)),(.int .u8 (0)),(.int .u8 (0)),(.int .u8 (0)),(.int .u8 (0)),(.int .u8 (0)),(.int .u8 (0)),(.int .u8 (0)),(.int .u8 (0)),(.int .u8 (0)),(.int .u8 (0)),(.int .u8 (0)),(.int .u8 (0)),(.int .u8 (0)),(.int .u8 (0)),(.int .u8 (0)),(.int .u8 (0)),(.int .u8 (0)),(.int .u8 (0)),(.int .u8 (0)),(.int .u8 (0)),(.int .u8 (0)),(.int .u8 (0)),(.int .u8 (0)),(.int .u8 (0)),(.int .u8 (0)),(.int .u8 (0)),(.int .i64 (0)),(.int .i64 (0)),(.int .i64 (0)),(.int .i64 (0)),(.int .i64 (0))]) 84 (zipF [0] [.agg (rcL (a5,p.2))]) H2=some (.sl H2.next 0 1 1 false,H2.new (rcb2 (a5,p.2))):=fun H2=>bs1_q rfl rfl rfl
  have F:=J13 @t1 @t2 @t3 @t4 @gx5 @hst @hwr @hs4 @g35 @e3 @tb_1 @zzd @hbs;refine uT ?_;refine zva1 (fun H6=>HX H3 H6/\H6.next=H5.next+1/\H6.get H5.next=some (rcb2 (a5,p.2))/\(∀b,HoD H5 b->HoD H6 b)) ?_ ?_
  ·have hpp:HP (·≠ H3.next) H5 (H5.put H3.next (rcb2 (a5,p.2))):=HP.put _ _ _
   refine ⟨by have K:=hx35;exact hxk,rfl,zaa _,fun b hb=>(HoD.put hb hpp fun cc op ro e=>by rw [gx5] at e;cases e).hx (HX.new _ _)⟩
  rintro H6 ⟨hx36,hn6,gx6,hho6⟩;have hx06:=hx3.trans hx36;haveI:=hx06.hn;have hlo6:H6.lo=H.lo:=hx06.lo;have hod6:=hod.hx hx36;have g16:=(hx36.get (i:=H.next+1) oM).trans g1
  have g06:=(hx36.get (i:=H.next) oM).trans g0
  have g36:=(hx36.get (i:=H2.next) oM).trans g3
  obtain ⟨v7,H7,c1,c2,c3,c4,c5⟩:=app1 (p:=(a5,p.2)) hod6 ⟨_,gx6,rfl⟩ oM ho1.1 oM oM oM
  refine ⟨(v7,H7),c1,?_⟩;have hvb:∀i,i<H.next->blkNe v' i:=fun i hi=>by
   rcases hod.own.2 with ⟨rfl,_⟩|⟨j,op,rfl,_,hj,_⟩
   ·exact zka _
   ·exact zla oM
  have hx07:HX H H7:=HX.hp2 hx06 c3 hvb;haveI:=hx07.hn;have hlo7:H7.lo=H.lo:=hx07.lo;have hn7:H6.next<=H7.next:=c3.next;have vb0:blkNe v' H.next:=OwnS.ne hod.own g0 dC
  have vb1:blkNe v' (H.next+1):=OwnS.ne hod.own g1 dC
  have vb3:blkNe v' H2.next:=OwnS.ne hod.own g3 dC
  have g17:=(c3.get (i:=H.next+1) oM vb1).trans g16
  have g07:=(c3.get (i:=H.next) oM vb0).trans g06
  have g37:=(c3.get (i:=H2.next) oM vb3).trans g36
  have ho7:=OwnS.one c2;have hst:=st1_w (L:=lookM) (t:=49) (i:=H2.next) (o:=1) (H:=H7) szR1 ho7.1 ho7.2 oM
  have hwr:=wr1_l (i:=H2.next) (o:=1) (v:=v7) (H:=H7) (l:=tbL t.nx v' lv2) (e:=53) (z:=7) (op:=false) (by show 1<7;omega)
  have F:=J8 @t1 @t2 @t3 @t4 @hst @g37 @hwr @zgj;refine uT ?_;have hpp:HP (·≠ H2.next) H7 (H7.put H2.next (tbx t.nx v7 lv2)):=HP.put _ _ _;have hho7:∀b,HoD H6 b->HoD (H7.put H2.next (tbx t.nx v7 lv2)) b:=fun b hb=>by
   rcases hb with hb|⟨i,op,cc,op',rfl,hi,hg⟩
   ·exact .inl hb
   ·have hne:blkNe v' i:=OwnS.ne hod6.own hg dC
    have hg7:=(c3.get hi hne).trans hg;refine .inr ⟨i,op,cc,op',rfl,by show i<H7.next;omega,(hpp.get oM fun e=> ?_).trans hg7⟩
    subst e;rw [g37] at hg7;cases hg7
  refine ⟨n,oM,q+1,v7,l' ++ [(a5,p.2)],oM,HX.put hx07 oM _,by show H2.next<H7.next;omega,?_,?_,rfl,⟨?_,fun y hy=> ?_⟩,?_,by rw [qy,hlq];rfl,?_,by push_cast;rfl⟩
  ·exact g07
  ·exact g17
  ·refine OwnS.hq c2 hpp fun j o n c op he=> ?_
   intro e;subst e;exact c5 _ oM vb3 _ _ _ _ he
  ·rcases qs2.1 hy with hy|hy
   ·exact hho7 _ (hod6.ho y hy)
   ·rw [qn1] at hy
    subst hy;exact hho7 _ (hho6 _ (OwnS.hod b2))
  ·have hk2:(rcs l)[q]? =some p.2:=by rw [qi1,hk];rfl
   show (l' ++ [(a5,p.2)]).map _=_
   rw [qe3,qi4,hk2];have:l'.map (·.2)=(rcs l).take q:=hrq;rw [this];rfl
  ·have a7:OwL H7 lv2 H.next:=OwnS.hq (OwnS.hx hol hx36) c3 fun j o n c op he=>by
    rcases (OwnS.hx hol hx36).2 with ⟨_,hc⟩|⟨j',op',rfl,⟨cc,hg,_⟩,_⟩
    ·cases hc
    ·cases he
     exact OwnS.ne hod6.own hg dC
   refine OwnS.hq a7 hpp fun j o n c op he=> ?_
   intro e;subst e;exact OwnS.ne a7 g37 dC _ _ _ _ he
theorem zwa1 (lo:List (AV×Rc)) (p:AV×Rc) (k:Nat):(encC rcL lo).take (k*44) ++ (rcL p ++ (encC rcL lo).drop (k*44))=encC rcL (lo.take k ++ p::lo.drop k):=by
 rw [zqe zqa,zof zqa,zui,zod]
theorem app_c {H:AH}[hn:HN H]{e z b i n m:Nat}{cs:List AV}{x:AV}{new:Ce}(hr:Row H i false false e z cs) (hi:i<H.next) (hcs:cs.length=n*z) (hlo:H.lo<=i) (hx:lenOf x=some m) (hsrc:zhb z x m H=some new) (h1:new.one=true) (hnl:new.l.length=m*z) (hb:(n+m)*b<=140737488355328) (hm:n+m<=9223372036854775807) :
  ∃s' H',appX e z b [.sl i 0 n n false,x] H=some (s',H')/\SlZ H' s' (n+m) z (cs ++ new.l)/\HP (·≠ i) H H'/\H'.next<=H.next+1/\s'≠ .undef:=by
 rcases qp3 m with h0|h0
 ·subst h0
  have hn0:new.l= []:=ql1 (by rw [hnl,ql4])
  obtain ⟨cc,hg,rfl⟩:=hr;obtain ⟨c',h3,h4⟩:=Ce.over_ex (x:=new) (c:=cc) (o:=0+n*z) (by rw [hn0];show 0+n*z+0<=_;omega)
  rw [hn0] at h4;have h5:c'.l=cc.l:=by rw [h4,qy1];exact qn4 _ _
  refine ⟨.sl i 0 n n false,H.put i (.cells c' e z false false),?_,?_,HP.put H i _,qv3 _,by intro h;cases h⟩
  ·rw [zbo hx hsrc h1]
   show brec _ (orec none (fun H'=>some (AV.sl i 0 (Nat.add n 0) n false,H')) (zne H i (Nat.add 0 (Nat.mul n z)) new)) (Nat.ble (Nat.add n 0) n)=_
   rw [show Nat.ble (Nat.add n 0) n=true from qh (qn n),zcd]
   unfold AH.writeC;rw [show Nat.ble H.lo i=true from qh hlo,hg]
   have h3':Ce.over new cc (Nat.add 0 (Nat.mul n z))=some c':=h3;simp only [h1,h3'];rfl
  ·rw [hn0,qy1]
   have hrow:Row (H.put i (.cells c' e z false false)) i false false e z cc.l:=⟨c',zfa _ _,h5⟩;exact hrow.slZ hi hcs
 ·obtain ⟨H',a1,a2,a3,a4⟩:=zlt (b:=b) (e:=e) (z:=z) (i:=i) (o:=0) (l:=n) (c:=n) hx hsrc h1 hr oM oM hb hm hn.hide
  refine ⟨_,H',a1,?_,a2.hp _,oM,by intro h;cases h⟩
  rw [qt2,qx oM] at a4
  exact a4.slZ oM (by rw [qy,hcs,hnl,qy4])
theorem ins_d {H:AH}[hn:HN H]{v:AV}{lo:List (AV×Rc)}{N k:Nat}{p:AV×Rc}(h:OwD H v lo N) (hk:k<=lo.length) (hlen:lo.length<=1000) (hp:p.1.oneCell=true) (hh:HoD H p.1) (hN:N<=H.next) (hloN:H.lo<=N) :
  ∃hd tl s1 H2 s2 H3,zxa lookM 49 false true true [v,.int .i64 (k:Int),.int .i64 (k:Int)]=some hd/\zxa lookM 49 true false false [v,.int .i64 (k:Int)]=some tl /\
   appX 84 44 152 [.sl H.next 0 1 1 false,tl] (H.new (rcb2 p))=some (s1,H2)/\appX 84 44 152 [hd,s1] H2=some (s2,H3)/\OwD H3 s2 (lo.take k ++ p::lo.drop k) N/\HX H H3:=by
 have hx1:HX H (H.new (rcb2 p)):=HX.new _ _;have hr1:Row (H.new (rcb2 p)) H.next false false 84 44 (rcL p):=⟨_,zaa _,rfl⟩;have hlo:=hn.lo;have hll:(lo.take k ++ p::lo.drop k).length=lo.length+1:=by simp;omega
 obtain ⟨c0,hv⟩:=h.own;have hall:(encC rcL lo).all AV.oneCell=true:=by
  refine qb1.2 fun y hy=> ?_
  have key:∀l:List (AV×Rc),(∀q,q∈l->q.1.oneCell=true)-> ∀y,y∈encC rcL l->y.oneCell=true:=by
   intro l
   induction l with
   |nil=>intro _ y hy;cases hy
   |cons a l ih =>
    intro hq y hy;rw [zod] at hy;rcases qs2.1 hy with hy|hy
    ·exact qb1.1 (zbc a (hq a qt1)) y hy
    ·exact ih (fun q hq'=>hq q (qh1 _ hq')) y hy
  exact key lo (fun q hq=>zwi (h.ho q hq).is) y hy
 obtain ⟨hd,tl,m,hs1,hs2,hm,htl,htn,hhd⟩:∃hd tl m,zxa lookM 49 false true true [v,.int .i64 (k:Int),.int .i64 (k:Int)]=some hd/\zxa lookM 49 true false false [v,.int .i64 (k:Int)]=some tl/\k+m=lo.length/\lenOf tl=some m /\
   (∃new,zhb 44 tl m (H.new (rcb2 p))=some new/\new.l=(encC rcL lo).drop (k*44))/\((hd= .nilSl/\k=0)\/ ∃j op,hd= .sl j 0 k k false/\j<H.next/\Row H j false op 84 44 (encC rcL lo)):=by
  rcases hv with ⟨rfl,h0⟩|⟨j,op,rfl,hr,hNj,hj,hop⟩
  ·have hk0:k=0:=oM
   subst hk0;have:lo= []:=ql1 h0;subst this;exact ⟨.nilSl,.nilSl,0,kR,kR,rfl,rfl,⟨.lst [],rfl,by simp [encC];rfl⟩,.inl ⟨rfl,rfl⟩⟩
  ·have e1:zxa lookM 49 false true true [.sl j 0 lo.length lo.length op,.int .i64 (k:Int),.int .i64 (k:Int)]=some (.sl j 0 k k false):=by
    show zfb lookM 49 (.sl j 0 lo.length lo.length op) none (some (.int .i64 (k:Int))) (some (.int .i64 (k:Int)))=_
    unfold zfb;simp only [maxOk,bndOf,uRs,sz3,natOf];rw [show Nat.ble 0 k=true from qh (qh2 _),show Nat.ble k k=true from qh (qn _),show Nat.ble k lo.length=true from qh hk]
    show some (AV.sl j (offOf k 0 0 44) (k - 0) (k - 0) false)=_
    have:offOf k 0 0 44=0:=by unfold offOf;split<;>rfl
    rw [this];rfl
   cases op with
   |true =>
    have e2:=zqn1 (L:=lookM) uRs sz3 j lo.length k hk;refine ⟨_,_,lo.length - k,e1,e2,oM,?_,?_,.inr ⟨j,true,rfl,hj,hr⟩⟩
    ·by_cases hc:k=lo.length
     ·rw [qj hc,hc,qo7]
      show (match Nat.beq 1 1 && Nat.ble 1 (lo.length*44+1) with|true=>some 0|false=>none)=some 0
      rw [show Nat.ble 1 (lo.length*44+1)=true from qh oM];rfl
     ·rw [qg hc];rfl
    ·by_cases hc:k=lo.length
     ·rw [qj hc]
      refine ⟨.lst [],?_,?_⟩
      ·rw [hc,qo7]
       show (match Nat.beq 1 1 && (Nat.ble 1 (lo.length*44+1) && Nat.beq 0 0) with|true=>some (Ce.lst [])|false=>none)=_
       rw [show Nat.ble 1 (lo.length*44+1)=true from qh oM];rfl
      ·rw [qw3 (by rw [c0];rw [hc];exact qn _)];rfl
     ·rw [qg hc]
      obtain ⟨new,n1,n2⟩:=znp (z:=44) (m:=lo.length - k) (c:=lo.length - k) (op:=true) (hr.hx hx1 hj) (o:=k*44) (n:=lo.length - k) (by rw [c0,← qy4];exact qd2 44 oM)
      refine ⟨new,n1,?_⟩;rw [n2,qx];rw [qb2,c0,Nat.sub_mul];omega
   |false =>
    have hl0:lo.length=0:=by
     rcases qp3 lo.length with h|h
     ·exact h
     ·exact absurd (hop oM) dC
    have hk0:k=0:=oM
    subst hk0;have:lo= []:=ql1 hl0;subst this;refine ⟨_,.sl j 0 0 0 false,0,e1,kR,rfl,rfl,?_,.inr ⟨j,false,rfl,hj,hr⟩⟩
    obtain ⟨new,n1,n2⟩:=znp (z:=44) (m:=0) (c:=0) (op:=false) (hr.hx hx1 hj) (o:=0) (n:=0) oM
    exact ⟨new,n1,by rw [n2];simp [encC]⟩
 obtain ⟨new,hsrc,hnl⟩:=htn;have hone:new.one=true:=zhg (by rw [hnl];exact qb1.2 fun y hy=>qb1.1 hall y (qn3 hy))
 have hnll:new.l.length=m*44:=by rw [hnl,qb2,c0,← Nat.sub_mul,show lo.length - k=m from oM]
 obtain ⟨s1,H2,a1,a2,a3,a4,a5⟩:=app_c (b:=152) (n:=1) hr1 (qc1 _) (by rw [zqa]) (show H.lo<=H.next from hlo) htl hsrc hone hnll oM oM
 have hx2:HX H H2:=HX.hp2 hx1 a3 fun i hi=>oM
 haveI:HN H2:=hx2.hn;have hlo2:H2.lo=H.lo:=hx2.lo;have hn2:=hx2.next;rw [hnl] at a2;have h2one:(rcL p ++ (encC rcL lo).drop (k*44)).all AV.oneCell=true:=by
  rw [qd6,zbc _ hp,qo2];exact qb1.2 fun y hy=>qb1.1 hall y (qn3 hy)
 obtain ⟨new2,hsrc2,hnl2⟩:=a2.src;have hone2:new2.one=true:=zhg (by rw [hnl2];exact h2one)
 have hx2l:=a2.is.lenOf;have hl2:=a2.len;have hho:∀{H3:AH},HX H H3-> ∀q,q∈lo.take k ++ p::lo.drop k->HoD H3 q.1:=fun {H3} hx3 q hq=>by
  rcases qs2.1 hq with hq|hq
  ·exact (h.ho q (qd5 hq)).hx hx3
  ·rcases qe1.1 hq with rfl|hq
   ·exact hh.hx hx3
   ·exact (h.ho q (qn3 hq)).hx hx3
 rcases hhd with ⟨rfl,rfl⟩|⟨j,op,rfl,hj,hr⟩
 ·obtain ⟨s2,H3,b1,b2,b3,b4,b5⟩:=OwnS.app (b:=152) (OwnS.nil H2 84 44 N) a2 h2one oM oM (by rw [hlo2];exact hloN) oM
  have hx3:HX H H3:=HX.hp2 hx2 b3 fun i _=>zka _
  refine ⟨_,tl,s1,H2,s2,H3,hs1,hs2,a1,b1,⟨?_,hho hx3⟩,hx3⟩;have e1:=zwa1 lo p 0;rw [ql4,qp5,qk1] at e1;rw [qk1,ql4,e1] at b2;rw [hll,show lo.length+1=0+(1+m) from oM]
  exact b2
 ·obtain ⟨H3,b1,b2,b3,b4⟩:=zlt (b:=152) (e:=84) (z:=44) (i:=j) (o:=0) (l:=k) (c:=k) hx2l hsrc2 hone2 (hr.hx hx2 hj) (by rw [c0,qu1];exact qd2 44 hk) oM oM oM HN.hide
  refine ⟨_,tl,s1,H2,_,H3,hs1,hs2,a1,b1,⟨⟨by rw [znc zqa],.inr ⟨H2.next,true,?_,?_,oM,oM,fun _=>rfl⟩⟩,hho (hx2.trans b2)⟩,hx2.trans b2⟩
  ·rw [hll,show k+(1+m)=lo.length+1 from oM]
  ·rw [qt2,hnl2,zwa1] at b4
   exact b4
theorem zju {H:AH}[hn:HN H]{v:AV}{l:List (AV×Rc)}(h:RdD H v l) (hlen:l.length<=900) (hs:∀p,p∈l->p.2.nm.size<=1000000) :
  FnE lookM 97 [v] H fun r H'=>(∃lo,rcs lo=sortL (rcs l)/\lo.length=l.length/\OwD H' r lo H.next)/\HX H H':=by
 refine fJ Tryz.f97 o97 ?_;have hlo:=hn.lo;have hl:∀H',fstO (zea .len lookM [49] [v] H')=some (.int .i64 l.length):=fun H'=>zwc (H':=H') uRs h.sl.is
 refine uT0 ?_;refine rc_j o97 (fun n T H'=> ∃q v' lo,n+q=l.length/\HX H H'/\OwD H' v' lo H.next/\rcs lo=sortL ((rcs l).take q)/\lo.length=q/\(∀p,p∈lo->p.2.nm.size<=1000000)/\gT T 0=v/\gT T 3=v'/\gT T 4= .int .i64 q) l.length ?_ ?_
 ·exact ⟨0,.nilSl, [],rfl,HX.refl _,⟨OwnS.nil _ _ _ _,fun p hp=>by cases hp⟩,by simp [sortL],rfl,(fun p hp=>by cases hp),vT0,vT0,by refine uT0 ?_;rfl⟩
 rintro n T H2 ⟨q,v',lo,hnq,hx2,hod,hrq,hlq,hszl,g0,g3,g4⟩;haveI:=hx2.hn;have hlo2:H2.lo=H.lo:=hx2.lo;have hn2:=hx2.next;cases n with
 |zero =>
  have hq:q=l.length:=oM
  subst hq;have F:=J4 @g0 @g3 @g4 @hl;refine uT ?_;clear F;exact ⟨⟨lo,by rw [hrq,qx (by rw [zkb];exact qn _)],hlq,hod⟩,hx2⟩
 |succ n =>
  have hq:q<l.length:=oM
  obtain ⟨p,hk⟩:∃p,l[q]? =some p:=⟨_,qr hq⟩
  have hmem:p∈l:=qz.2 ⟨q,hk⟩;have hsl2:=(h.hx hx2).sl;have hix:=ix44 (z:=44) (q:=q) hsl2.is hq;have hld:=hsl2.agg hk;have hf1:=fa_el hsl2.is hq 44 1;have hl1:=hsl2.fld hk (j:=1) (x:=.str p.2.nm) rfl;have hpd:=(h.hx hx2).ho p hmem;have hol:=hod.rd.sl;have hll:∀H',fstO (zea .len lookM [49] [v'] H')=some (.int .i64 q):=fun H'=>by have:=zwc (H':=H') uRs hol.is;rwa [hlq] at this
  have hbs:∀H2:AH,bsF 44 1 (.agg [(.int .i64 (0)),(.str ⟨#[]⟩),(.int .i64 (0)),(.int .i64 (0)),.nilSl,(.int .i64 (0)),(.int .i64 (0)),(.int .u8 (0)),(.int .u8 (0)),(.int .u8 (0)),(.int .u8 (0)),(.int .u8 (0)),(.int .u8 (0)),(.int .u8 (0)),(.int .u8 (0)),(.int .u8 (0)),(.int .u8 (0)),(.int .u8 (0)),(.int .u8 (0)),(.int .u8 (0)),(.int .u8 (0)),(.int .u8 (0)),(.int .u8 (0)),(.int .u8 (0)),(.int .u8 (0)),(.int .u8 (0)),(.int .u8 (0)),(.int .u8 (0)),(.int .u8 (0)),(.int .u8 (0)),(.int .u8 (0)),(.int .u8 (0)),(.int .u8 (0)),(.int .u8 (0)),(.int .u8 (0)),(.int .u8 (0)),(.int .u8 (0)),(.int .u8 (0)),(.int .u8 (0)),(.int .i64 (0)),(.int .i64 (0)),(.int .i64 (0)),(.int .i64 (0)),(.int .i64 (0))]) 84 (zipF [0] [.agg (rcL p)]) H2=some (.sl H2.next 0 1 1 false,H2.new (rcb2 p)):=fun H2=>bs1_q rfl rfl rfl
  obtain ⟨hd,tl,s1,H3,s2,H4,i1,i2,i3,i4,i5,i6⟩:=ins_d (k:=plc p.2 (rcs lo)) (p:=p) hod (by have:=zrt (fun r=>lessB r.nm p.2.nm) (rcs lo);rw [zkb] at this;exact this) oM (zwi hpd.is) hpd oM oM
  have hnew:rcs (lo.take (plc p.2 (rcs lo)) ++ p::lo.drop (plc p.2 (rcs lo)))=sortL ((rcs l).take (q+1)):=by
   have hk2:(rcs l)[q]? =some p.2:=by rw [qi1,hk];rfl
   rw [qi4,hk2,qi3,zrj,← hrq];unfold layL;show (lo.take _ ++ p::lo.drop _).map _=(lo.map _).take _ ++ p.2::(lo.map _).drop _
   rw [qe3,qp1,qm5,qn5]
  have fin:∃n',n'<n+1/\ ∃q' v2 lo',n'+q'=l.length/\HX H H4/\OwD H4 v2 lo' H.next/\rcs lo'=sortL ((rcs l).take q')/\lo'.length=q'/\(∀p,p∈lo'->p.2.nm.size<=1000000)/\s2=v2/\AV.int .i64 ((q:Int)+1)= .int .i64 (q':Int):=by
   refine ⟨n,oM,q+1,s2,_,oM,hx2.trans i6,i5,hnew,by rw [← zkb,hnew,zhu,qd1,zkb];omega,fun y hy=> ?_,rfl,by push_cast;rfl⟩
   rcases qs2.1 hy with hy|hy
   ·exact hszl y (qd5 hy)
   ·rcases qe1.1 hy with rfl|hy
    ·exact hs _ hmem
    ·exact hszl y (qn3 hy)
  clear hnew;have F:=J4 @g0 @g3 @g4 @hl;refine uT ?_;clear F;refine rc_j o97 (fun n T H'=> ∃k,n+k=q/\H'=H2/\gT T 0=v/\gT T 3=v'/\gT T 4= .int .i64 q/\gT T 5= .int .i64 k/\(∀(j:Nat) (r:Rc),j<k->(rcs lo)[j]? =some r->lessB r.nm p.2.nm=true)) q ?_ ?_
  ·exact ⟨0,rfl,rfl,by have F:=@g0;exact vT,by have F:=@g3;exact vT,by have F:=@g4;exact vT,by refine uT0 ?_;rfl,fun j r h=>absurd h (qb4 _)⟩
  rintro n2 T2 H' ⟨k,hnk,rfl,t0,t3,t4,t5,hall⟩;cases n2 with
  |zero =>
   have hkq:k=q:=oM
   have hp:plc p.2 (rcs lo)=k:=zxd _ (by rw [zkb];omega) (fun i r hi hr=>hall i r hi hr) (fun r hr=>by
    have:=(qq.1 hr).1;rw [zkb] at this;omega)
   rw [hp] at i1 i2;have d0:decide ((k:Int)<(q:Int))=false:=qp oM
   have F:=J13 @t0 @t3 @t4 @t5 @hll @d0 @i1 @i2 @hix @hld @hbs @i3 @i4;refine uT ?_;clear F;exact fin
  |succ n2 =>
   have hkq:k<q:=oM
   have hkl:k<lo.length:=oM
   obtain ⟨y,hy⟩:∃p,lo[k]? =some p:=⟨_,qr hkl⟩
   have hy2:(rcs lo)[k]? =some y.2:=by rw [qi1,hy];rfl
   have hymem:y∈lo:=qz.2 ⟨k,hy⟩;have hixo:=ix44 (z:=44) (q:=k) hol.is hkl;have hfo:=fa_el hol.is hkl 44 1;have hlo1:=hol.fld hy (j:=1) (x:=.str y.2.nm) rfl;have d0:decide ((k:Int)<(q:Int))=true:=qo oM
   have hle:= @FnX.p _ _ _ _ (zha1 y.2.nm p.2.nm (hszl y hymem) (hs p hmem));cases c:lessB y.2.nm p.2.nm with
   |true =>
    have F:=J14 @t0 @t3 @t4 @t5 @hll @d0 @hixo @hfo @hlo1 @hix @hf1 @hl1 @hle @c;refine uT ?_;clear F;refine ⟨n2,oM,k+1,oM,by push_cast;rfl,fun j r hj hr=> ?_⟩
    rcases qf2 j k with h3|h3
    ·exact hall j r h3 hr
    ·have:j=k:=oM
     subst this;rw [hy2] at hr;cases hr;exact c
   |false =>
    have hp:plc p.2 (rcs lo)=k:=zxd _ (by rw [zkb];omega) (fun i r hi hr=>hall i r hi hr) (fun r hr=>by rw [hy2] at hr;cases hr;exact c)
    rw [hp] at i1 i2;have F:=J16 @t0 @t3 @t4 @t5 @hll @d0 @hixo @hfo @hlo1 @hix @hf1 @hl1 @hle @c @i1 (J5 @i2 @hld @hbs @i3 @i4);refine uT ?_;clear F;exact fin
theorem OwD.put {H H':AH}{v:AV}{l:List (AV×Rc)}{N:Nat}(h:OwD H v l N){b:Nat}(hp:HP (·≠ b) H H'){cb:Ce}{eb zb:Nat}{opb rob:Bool}(hb:H.get b=some (.cells cb eb zb opb rob)) (hz:zb≠44\/(∀o n c op,v≠ .sl b o n c op)) (hz2:zb≠2):OwD H' v l N:=by
 refine ⟨OwnS.hq h.own hp fun j o n c op he=> ?_,fun p hp'=>(h.ho p hp').put hp fun cc op ro e=>by rw [hb] at e;cases e;exact hz2 rfl⟩
 intro e;subst e;rcases hz with hz|hz
 ·exact OwnS.ne h.own hb (fun e=>hz e.symm) _ _ _ _ he
 ·exact hz _ _ _ _ he
theorem OwL.put {H H':AH}{lv:AV}{N:Nat}(h:OwL H lv N){b:Nat}(hp:HP (·≠ b) H H'){cb:Ce}{eb zb:Nat}{opb rob:Bool}(hb:H.get b=some (.cells cb eb zb opb rob)) (hz1:zb≠1):OwL H' lv N:=OwnS.hq h hp fun j o n c op he=>by
 intro e;subst e;exact OwnS.ne h hb (fun e=>hz1 e.symm) _ _ _ _ he
theorem hbA (H2:AH):bsF 2 0 (.agg [(.int .i64 (0)),(.int .i64 (0))]) 161 (zipF [] []) H2=some (.sl H2.next 0 0 0 false,H2.new (.cells (Ce.of []) 161 2 false false)):=bs0_q
theorem hbR (p:AV×Rc) (H2:AH):bsF 44 1 (.agg [(.int .i64 (0)),(.str ⟨#[]⟩),(.int .i64 (0)),(.int .i64 (0)),.nilSl,(.int .i64 (0)),(.int .i64 (0)),(.int .u8 (0)),(.int .u8 (0)),(.int .u8 (0)),(.int .u8 (0)),(.int .u8 (0)),(.int .u8 (0)),(.int .u8 (0)),(.int .u8 (0)),(.int .u8 (0)),(.int .u8 (0)),(.int .u8 (0)),(.int .u8 (0)),(.int .u8 (0)),(.int .u8 (0)),(.int .u8 (0)),(.int .u8 (0)),(.int .u8 (0)),(.int .u8 (0)),(.int .u8 (0)),(.int .u8 (0)),(.int .u8 (0)),(.int .u8 (0)),(.int .u8 (0)),(.int .u8 (0)),(.int .u8 (0)),(.int .u8 (0)),(.int .u8 (0)),(.int .u8 (0)),(.int .u8 (0)),(.int .u8 (0)),(.int .u8 (0)),(.int .u8 (0)),(.int .i64 (0)),(.int .i64 (0)),(.int .i64 (0)),(.int .i64 (0)),(.int .i64 (0))]) 84 (zipF [0] [.agg (rcL p)]) H2=some (.sl H2.next 0 1 1 false,H2.new (rcb2 p)):=bs1_q rfl rfl rfl
theorem zgm {H:AH}[hn:HN H]{i:Nat}{b:ABlk}(h:H.get i=some b) (b':ABlk):HP (·≠ i) H (H.put i b'):=HP.put _ _ _
theorem bs_at {L:Lk}{H:AH}{d:Nat}{k:K2}{s:List Kf}{T:Tr AV}{Q:PostC}{m n:Nat}{z:AV}{e:Nat}{xs:List (Nat×AV)}(P:AH->Prop) (hp:P H) (hk:∀H,P H->oH false (bsF m n z e xs H) L d k s T H Q):oH false (bsF m n z e xs H) L d k s T H Q:=hk H hp
theorem zwn1 {H:AH}[hn:HN H]{a:AV}(ha:HoD H a):∃a5 H5,appX 161 2 16 [.sl H.next 0 0 0 false,a] (H.new (.cells (Ce.of []) 161 2 false false))=some (a5,H5)/\HX H H5/\HoD H5 a5/\a5.oneCell=true/\a5.toC= .lst [a5]:=by
 have hx1:HX H (H.new (.cells (Ce.of []) 161 2 false false)):=HX.new _ _;obtain ⟨a5,H5,b1,b2,b3,b4,b5⟩:=OwnS.app (b:=16) (OwnS.bs0 (H:=H) (e:=161) (z:=2)) (ha.hx hx1).z rfl dC dC hn.lo (qv3 _)
 exact ⟨a5,H5,b1,HX.hp2 hx1 b3 fun i hi=>zla oM,OwnS.hod b2,(OwnS.one b2).1,(OwnS.one b2).2⟩
theorem rec_new {H:AH}[hn:HN H]{v:AV}{l:List (AV×Rc)}{N:Nat}{p:AV×Rc}(h:OwD H v l N) (hp:HoD H p.1) (hlen:l.length<=1000) (hlo:H.lo<=N) (hN:N<=H.next) :
  ∃s' H',appX 84 44 152 [v,.sl H.next 0 1 1 false] (H.new (rcb2 p))=some (s',H')/\OwD H' s' (l ++ [p]) N/\HP (blkNe v) H H'/\(∀k,k<H.next->blkNe v k->blkNe s' k):=by
 have hx1:HX H (H.new (rcb2 p)):=HX.new _ _;obtain ⟨s',H',a1,a2,a3,a4,a5⟩:=app1 (p:=p) (h.hx hx1) ⟨_,zaa _,rfl⟩ (qc1 _) (zwi hp.is) hlen hlo (by show N<=H.next+1;omega)
 have hh:∀q,HoD H q->HoD H' q:=fun q hq=>by
  rcases hq with hb|⟨i,op,cc,op',hb,hi,hg⟩
  ·exact .inl hb
  ·refine .inr ⟨i,op,cc,op',hb,by have:=a3.next;have:H.next+1<=H'.next:=this;omega,(a3.get (by show i<H.next+1;omega) (OwnS.ne h.own hg dC)).trans ((hx1.get hi).trans hg)⟩
 refine ⟨s',H',a1,⟨a2,fun q hq=> ?_⟩,(hx1.hp (fun _=>True)).trans a3 fun i _ hi=>⟨trivial,hi⟩,fun k hk hb=>a5 k (by show k<H.next+1;omega) hb⟩
 rcases qs2.1 hq with hq|hq
 ·exact hh _ (h.ho q hq)
 ·rw [qn1] at hq
  subst hq;exact hh _ hp
set_option maxHeartbeats 16000000 in
theorem zxa1 {H:AH}[hn:HN H]{t:Tb}{v lv a:AV}{x:Rc}{l:List (AV×Rc)}(h:TbD H t v lv l) (hk:Ok t) (hlen:t.rs.length<=900) (hnm:∀r,r∈t.rs->r.nm.size<=100000) (hx:x.nm.size<=100000) (ha:HoD H a) :
  FnE lookM 92 [tbA t.nx v lv,.agg (rcL (a,x))] H fun r H'=>(∃v2 lv2 l2,r=tbA (t.nx+1) v2 lv2/\TbD H' (putT t x) v2 lv2 l2)/\HX H H':=by
 refine fI Tryz.f92 ?_;have hlo:=hn.lo;have hnx:=hk.nx;have hnx1:=hnx.1;have hnx2:=hnx.2;have hll:=h.len;have e01:=hEq_f (oM:H.next≠H.next+1)
 have e02:=hEq_f (oM:H.next≠H.next+2)
 have e10:=hEq_f (oM:H.next+1≠H.next)
 have e12:=hEq_f (oM:H.next+1≠H.next+2)
 have e21:=hEq_f (oM:H.next+2≠H.next+1)
 have e20:=hEq_f (oM:H.next+2≠H.next)
 have hst:∀(i o:Nat) (n:Int) (H:AH),H.lo<=i->st1 lookM 3 (.ptr i o) (.int .i64 n) H=wr1 (H.get i) i o (.int .i64 n) H:=fun i o n H h=>st1_w sz3i rfl rfl h
 have hw0:∀(n:Int) (i:Nat) (H:AH),wr1 (some (rcb2 (a,x))) i 0 (.int .i64 n) H=some (H.put i (rcb2 (a,{x with id:=n}))):=fun n i H=>by rw [wr1_l (by rw [zqa];omega),zaj1]
 have F:=J13 @zba @zdb @zra @tb_0 @zda @e01 @e02 @e10 @e12 @e21 @e20 @hst @hw0;refine uT ?_;refine cR_at (fun H1=>HX H H1/\H1.next=H.next+3/\H1.get H.next=some (tbx t.nx v lv)/\H1.get (H.next+1)=some (rcb2 (a,{x with id:=t.nx}))/\H1.get (H.next+2)=some (tbx 0 .nilSl .nilSl)) ?_ ?_
 ·exact ⟨hxt,rfl,by have F:=@e01;exact vT,zfa _ _,by have F:=@e21;exact vT⟩
 rintro H1 ⟨hx1,hn1,g0,g1,g2⟩;haveI:=hx1.hn;refine cR_f (zal (h.hx hx1) oM) ?_
 rintro r2 H2 ⟨⟨v1,lv1,l1,rfl,hr1,hl1,hod1,hol1⟩,hx2⟩;have hx02:=hx1.trans hx2;have hn2:=hx2.next;have g0:=(hx2.get (i:=H.next) oM).trans g0
 have g1:=(hx2.get (i:=H.next+1) oM).trans g1
 have g2:=(hx2.get (i:=H.next+2) oM).trans g2
 haveI:=hx02.hn;have hlo2:H2.lo=H.lo:=hx02.lo;have o1:=zbb (nn:=t.nx) (v:=v1) (lv:=lv1) (OwnS.one hod1.own).1 (OwnS.one hol1).1;have hw1:∀(n:Int) (i:Nat) (H:AH),wr1 (some (.cells (.lst (tbL t.nx v1 lv1)) 53 7 false false)) i 0 (.int .i64 n) H=some (H.put i (.cells (.lst (tbL n v1 lv1)) 53 7 false false)):=fun n i H=>by rw [wr1_l (by show 0<7;omega),zzi1]
 have F:=J7 @g0 @zba @zda @zha @tb_0 @hst @hw1;refine uT ?_;refine bs_at (fun H3=>HX H H3/\H2.next<=H3.next/\H3.get H.next=some (tbx (t.nx+1) v1 lv1)/\H3.get (H.next+1)=some (rcb2 (a,{x with id:=t.nx}))/\H3.get (H.next+2)=some (tbx 0 .nilSl .nilSl)/\OwD H3 v1 l1 H1.next/\OwL H3 lv1 H1.next) ?_ ?_
 ·have q1:=zgm g0 (tbx t.nx v1 lv1)
  have q2:HP (·≠ H.next) (H2.put H.next (tbx t.nx v1 lv1)) ((H2.put H.next (tbx t.nx v1 lv1)).put H.next (tbx (t.nx+1) v1 lv1)):=HP.put _ _ _;have q3:=q1.trans q2 (r:=(·≠ H.next)) fun i _ hi=>⟨hi,hi⟩
  exact ⟨by have K:=hx02;exact hxk,qn _,zfa _ _,by have F:=J2 @e10 @g1;exact vT,by have F:=J2 @e20 @g2;exact vT,hod1.put q3 g0 (.inl dC) dC,OwL.put hol1 q3 g0 dC⟩
 rintro H3 ⟨hx03,hn3,g0,g1,g2,hod3,hol3⟩;haveI:=hx03.hn;have hlo3:H3.lo=H.lo:=hx03.lo;obtain ⟨a5,H5,b1,hx5,hha,ho1,ho2⟩:=zwn1 (ha.hx hx03);have e1n:=hEq_f (oM:H.next+1≠H3.next)
 have hx05:=hx03.trans hx5;have hn5:=hx5.next;haveI:=hx05.hn;have hlo5:H5.lo=H.lo:=hx05.lo;have g0:=(hx5.get (i:=H.next) oM).trans g0
 have g1':=g1;have g1:=(hx5.get (i:=H.next+1) oM).trans g1
 have g2:=(hx5.get (i:=H.next+2) oM).trans g2
 have hod5:=hod3.hx hx5;have hol5:=OwnS.hx hol3 hx5;have hstA:=st1_w (L:=lookM) (t:=78) (i:=H.next+1) (o:=4) (H:=H5) szA ho1 ho2 oM
 have hwrA:=wr1_l (i:=H.next+1) (o:=4) (v:=a5) (H:=H5) (l:=rcL (a,{x with id:=t.nx})) (e:=84) (z:=44) (op:=false) (by rw [zqa];omega)
 have hs4:(rcL (a,{x with id:=t.nx})).set 4 a5=rcL (a5,{x with id:=t.nx}):=rfl
 have F:=J13 @hbA @g1' @e1n @rc_4 @b1 @g1 @hstA @hwrA @hs4 @e01 @g0 @tb_1 @zzd;refine uT ?_;refine bs_at (fun H6=>HX H H6/\H5.next<=H6.next/\H6.get H.next=some (tbx (t.nx+1) v1 lv1)/\H6.get (H.next+2)=some (tbx 0 .nilSl .nilSl)/\OwD H6 v1 l1 H1.next/\OwL H6 lv1 H1.next/\HoD H6 a5) ?_ ?_
 ·have q1:=zgm g1 (rcb2 (a5,{x with id:=t.nx}))
  refine ⟨by have K:=hx05;exact hxk,qn _,by have F:=J2 @e01 @g0;exact vT,by have F:=J2 @e21 @g2;exact vT,hod5.put q1 g1 (.inr fun o n c op he=> ?_) dC,OwL.put hol5 q1 g1 dC,HoD.put hha q1 fun cc op ro e=>by rw [g1] at e;cases e⟩
  rcases hod5.own.2 with ⟨rfl,_⟩|⟨j,op',rfl,_,hj,_⟩
  ·cases he
  ·cases he;omega
 rintro H6 ⟨hx06,hn6,g0,g2,hod6,hol6,hha6⟩;haveI:=hx06.hn;have hlo6:H6.lo=H.lo:=hx06.lo;obtain ⟨s7,H7,c1,hod7,c3,c5⟩:=rec_new (p:=(a5,{x with id:=t.nx})) hod6 hha6 oM oM oM
 have hvb:∀i,i<H1.next->blkNe v1 i:=fun i hi=>by
  rcases hod6.own.2 with ⟨rfl,_⟩|⟨j,op,rfl,_,hj,_⟩
  ·exact zka _
  ·exact zla oM
 have hx07:HX H H7:=HX.hp2 hx06 c3 fun i hi=>hvb i oM
 haveI:=hx07.hn;have hlo7:H7.lo=H.lo:=hx07.lo;have hn7:=c3.next;have g0:=(c3.get (i:=H.next) oM (hvb _ oM)).trans g0
 have g2:=(c3.get (i:=H.next+2) oM (hvb _ oM)).trans g2
 have hol7:OwL H7 lv1 H1.next:=OwnS.hq hol6 c3 fun j o n c op he=>by
  rcases hol6.2 with ⟨_,hc⟩|⟨j',op',rfl,⟨cc,hg,_⟩,_⟩
  ·cases hc
  ·cases he
   exact OwnS.ne hod6.own hg dC
 have F:=J2 @hbR @c1;refine uT ?_;refine cR_f (zju hod7.rd (by rw [qy];show l1.length+1<=900;have:=hk.len;omega) (fun p hp=> ?_)) ?_
 ·rcases qs2.1 hp with hp|hp
  ·have hm:p.2∈t.rs:=by
    rw [← h.eq,← hr1];exact qd3.2 ⟨p,hp,rfl⟩
   have:=hnm _ hm;omega
  ·rw [qn1] at hp
   subst hp;show x.nm.size<=_;omega
 rintro r8 H8 ⟨⟨lo,hrl,hll8,hod8⟩,hx8⟩;have hx08:=hx07.trans hx8;have hn8:=hx8.next;haveI:=hx08.hn;have hlo8:H8.lo=H.lo:=hx08.lo;have g0:=(hx8.get (i:=H.next) oM).trans g0
 have g2:=(hx8.get (i:=H.next+2) oM).trans g2
 have hol8:=OwnS.hx hol7 hx8;have ho8:=OwnS.one hod8.own;have hstR:=st1_w (L:=lookM) (t:=49) (i:=H.next) (o:=1) (H:=H8) szR1 ho8.1 ho8.2 oM
 have hwrR:=wr1_l (i:=H.next) (o:=1) (v:=r8) (H:=H8) (l:=tbL (t.nx+1) v1 lv1) (e:=53) (z:=7) (op:=false) (by show 1<7;omega)
 have o2:=zbb (nn:=t.nx+1) (v:=r8) (lv:=lv1) ho8.1 (OwnS.one hol8).1;have F:=J10 @hstR @g0 @hwrR @zgj @zda @g2 @e20 @zba @zha @ld7;refine uT ?_;have q1:=zgm g0 (tbx (t.nx+1) r8 lv1);have g2':(H8.put H.next (tbx (t.nx+1) r8 lv1)).get (H.next+2)=some (tbx 0 .nilSl .nilSl):=(zgc _ oM).trans g2
 have q2:=zgm g2' (tbx (t.nx+1) r8 lv1);refine ⟨⟨r8,lv1,lo,rfl,⟨((hod8.put q1 g0 (.inl dC) dC).put q2 g2' (.inl dC) dC).rd,?_,OwL.lvd (OwL.put (OwL.put hol8 q1 g0 dC) q2 g2' dC)⟩⟩,by have K:=hx08;exact hxk⟩
 show rcs lo=layL {x with id:=t.nx} t.rs
 rw [hrl,zim1 hk];congr 1;show (l1 ++ [(a5,{x with id:=t.nx})]).map _=_
 rw [qe3,← h.eq,← hr1];rfl
end HS
end
