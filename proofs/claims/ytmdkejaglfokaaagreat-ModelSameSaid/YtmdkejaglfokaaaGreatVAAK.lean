import Derived.Test.YtmdkejaglfokaaaGreatVAAH
import Derived.Test.YtmdkejaglfokaaaGreatVAAJ
import Derived.Test.YtmdkejaglfokaaaGreatVAAG
set_option maxHeartbeats 8000000
set_option linter.unusedSimpArgs false
set_option linter.unusedVariables false
open Go Go.Ev Go.Proofs Go.RowKit
namespace HS
set_option maxRecDepth 100000
open HS.Md
def DbR (H:AH) (r:AV) (out:Res):Prop:=(∃e,e≠0/\out=bad e/\r= .tup [tb0,.int .i64 e])\/(∃t2 v lv l,out=good t2/\r= .tup [tbA t2.nx v lv,.int .i64 0]/\TbD H t2 v lv l)
structure DbIn (H:AH) (t:Tb) (v lv:AV) (l:List (AV×Rc)):Prop where
 d:TbD H t v lv l
 len:t.rs.length<=900
 nm:∀r,r∈t.rs->r.nm.size<=100000
 nx:0<=t.nx/\t.nx<=4294967296
theorem DbIn.hx {H H':AH}{t:Tb}{v lv:AV}{l:List (AV×Rc)}(h:DbIn H t v lv l) (hx:HX H H'):DbIn H' t v lv l:=⟨h.d.hx hx,h.len,h.nm,h.nx⟩
theorem DbIn.ll {H:AH}{t:Tb}{v lv:AV}{l:List (AV×Rc)}(h:DbIn H t v lv l):l.length<=900:=by have:=h.d.len;have:=h.len;omega
theorem DbIn.lnm {H:AH}{t:Tb}{v lv:AV}{l:List (AV×Rc)}(h:DbIn H t v lv l):∀p,p∈l->p.2.nm.size<=1000000:=fun p hp=>by
 have:p.2∈t.rs:=by rw [← h.d.eq];exact qd3.2 ⟨p,hp,rfl⟩
 have:=h.nm _ this;omega
theorem DbIn.lvv {H:AH}{t:Tb}{v lv:AV}{l:List (AV×Rc)}(h:DbIn H t v lv l):Lv H lv:=h.d.lv.lv
theorem DbIn.at {H:AH}{t:Tb}{v lv:AV}{l:List (AV×Rc)}(h:DbIn H t v lv l){k:Nat}(hk:k<t.rs.length):∃p,l[k]? =some p/\p.2=get t.rs k/\HoD H p.1:=by
 have hl:=h.d.len;obtain ⟨p,hp⟩:∃p,l[k]? =some p:=⟨_,qr oM⟩
 refine ⟨p,hp,?_,h.d.rd.ho p (qz.2 ⟨k,hp⟩)⟩;rw [← h.d.eq,zxi hp]
theorem dchk {H:AH}[hn:HN H]{t:Tb}{v lv:AV}{l:List (AV×Rc)}(h:DbIn H t v lv l):FnE lookM 90 [tbA t.nx v lv] H fun r H'=>r= .int .i64 (chkI t)/\HX H H':=by
 have:=zkf1 (nn:=t.nx) h.d.rd.sl h.lvv (by have:=h.ll;omega) h.lnm
 rw [h.d.eq] at this;exact this
theorem dfnd {H:AH}[hn:HN H]{t:Tb}{v lv:AV}{l:List (AV×Rc)}(h:DbIn H t v lv l) (s:ByteArray):FnE lookM 66 [tbA t.nx v lv,.str s] H fun r H'=>r= .tup [.int .i64 (fndI s t.rs:Nat),.bool (hasB s t.rs)]/\HX H H':=by
 have:=zka1 (nn:=t.nx) (lv:=lv) (s:=s) h.d.rd.sl (by have:=h.ll;omega)
 rw [h.d.eq] at this;exact this
theorem d13_ok (n a b:Int) (H:AH):FnX lookM 49 [.int .i64 n,.int .i64 a,.int .i64 b] H (.bool (wi n a b)) H:=by
 refine fI Tryz.f49 ?_;rw [wi_d];cases h1:decide (a<=n) with
 |false=>have F:=@h1;refine uT ?_;rfl
 |true=>have F:=@h1;refine uT ?_;rfl
theorem d13 (n a b:Int){H:AH}{d:Nat}{k:K2}{s:List Kf}{T:Tr AV}{Q:PostC}:cR false lookM 49 [.int .i64 n,.int .i64 a,.int .i64 b] H d k s T Q=RK lookM k s (pS d (.bool (wi n a b)) T) H Q:=FnX.p (d13_ok n a b)
theorem zku (s:ByteArray) (hs:s.size<=1000000) (H:AH):FnX lookM 95 [.str s] H (.bool (partB s || snapB s)) H:=by
 refine fI Tryz.f95 ?_;have h1:= @FnX.p _ _ _ _ (zzk s hs);have h2:= @FnX.p _ _ _ _ (zco s hs);cases ha:partB s with
 |true=>rw [ha] at h1;have F:=J2 @h1 @h2;refine uT ?_;rfl
 |false=>rw [ha] at h1;have F:=J2 @h1 @h2;refine uT ?_;rfl
theorem zmr {H:AH}[hn:HN H]{t:Tb}{v lv:AV}{l:List (AV×Rc)}(h:DbIn H t v lv l) (s:ByteArray):FnE lookM 91 [tbA t.nx v lv,.str s] H fun r H'=>r= .int .i64 (roomE t s)/\HX H H':=by
 refine fI Tryz.f91 ?_;have hx1:HX H (H.new (tbx t.nx v lv)):=HX.new _ _;have F:=J2 @zba @zda;refine uT ?_;refine cR_f (dfnd (h.hx hx1) s) ?_;rintro r H2 ⟨rfl,hx2⟩;have hx:=hx1.trans hx2;have hg2:=(hx2.get (i:=H.next) (qc1 _)).trans (zaa _);have hl:∀H',fstO (zea .len lookM [49] [v] H')=some (.int .i64 t.rs.length):=fun H'=>by have:=zwc (H':=H') uRs h.d.rd.sl.is;rwa [h.d.len] at this
 cases hh:hasB s t.rs with
 |true =>
  refine uT0 ?_;refine ⟨?_,hx⟩;unfold roomE;rw [qj hh]
 |false =>
  by_cases h1:(16:Int)<=(t.rs.length:Int)
  ·have d1:decide ((16:Int)<=(t.rs.length:Int))=true:=qo h1
   have F:=J4 @hg2 @tb_1 @hl @d1;refine uT ?_;refine ⟨?_,hx⟩;unfold roomE;rw [hh,qg dC,qj (.inl oM)]
  ·have d1:decide ((16:Int)<=(t.rs.length:Int))=false:=qp h1
   by_cases h2:(2147483648:Int)<=t.nx
   ·have d2:decide ((2147483648:Int)<=t.nx)=true:=qo h2
    have F:=J6 @hg2 @tb_1 @tb_0 @hl @d1 @d2;refine uT ?_;refine ⟨?_,hx⟩;unfold roomE;rw [hh,qg dC,qj (.inr h2)]
   ·have d2:decide ((2147483648:Int)<=t.nx)=false:=qp h2
    have F:=J6 @hg2 @tb_1 @tb_0 @hl @d1 @d2;refine uT ?_;refine ⟨?_,hx⟩;unfold roomE;rw [hh,qg dC,qg (by rintro (h|h);omega;exact h2 h)]
theorem dbad {H H2:AH}[hn:HN H2]{e:Int}{out:Res}{b:Nat}(hx:HX H H2) (hb:H.next<=b) (he:e≠0) (ho:out=bad e):DbR (H2.put b (tbx 0 .nilSl .nilSl)) (.tup [tb0,.int .i64 e]) out/\HX H (H2.put b (tbx 0 .nilSl .nilSl)):=⟨.inl ⟨e,he,ho,rfl⟩,HX.put hx hb _⟩
theorem o0:(tbL 0 .nilSl .nilSl).all AV.oneCell=true:=rfl
theorem znr {t:Tb}(h:ztb t=true):chkI t=0:=by unfold chkI;rw [h];rfl
theorem zor {t:Tb}(h:ztb t=false):chkI t=2:=by unfold chkI;rw [h];rfl
theorem zxn1 {H:AH}[hn:HN H]{t:Tb}{v lv:AV}{l:List (AV×Rc)}{s:ByteArray}{n:Int}(h:DbIn H t v lv l) (hs:s.size<=100000) :
  FnE lookM 76 [tbA t.nx v lv,.str s,.int .i64 n,.int .i64 1] H fun r H'=>DbR H' r (makeT t s n)/\HX H H':=by
 refine fI Tryz.f76 ?_;have hlo:=hn.lo;have e01:=hEq_f (oM:H.next≠H.next+1)
 have o1:=o0;have hv:= @FnX.p _ _ _ _ (zzk s oM)
 have hw1:wi 1 1 2147483648=true:=dC
 have F:=J4 @zba @zdb @zda @e01;refine uT ?_;refine cR_at (fun H1=>HX H H1/\H1.next=H.next+2/\H1.get H.next=some (tbx t.nx v lv)/\H1.get (H.next+1)=some (tbx 0 .nilSl .nilSl)) ?_ ?_
 ·exact ⟨hxt,rfl,by have F:=@e01;exact vT,zaa _⟩
 rintro H1 ⟨hx1,hn1,g0,g1⟩;haveI:=hx1.hn;refine cR_f (dchk (h.hx hx1)) ?_;rintro r2 H2 ⟨rfl,hx2⟩;have hx02:=hx1.trans hx2;have hn2:=hx2.next;have g0:=(hx2.get (i:=H.next) oM).trans g0
 have g1:=(hx2.get (i:=H.next+1) oM).trans g1
 haveI:=hx02.hn;have hlo2:H2.lo=H.lo:=hx02.lo;rw [zna1];cases hc:ztb t with
 |false =>
  rw [zor hc];have F:=J6 @tb_bu @g1 @zba @zda @zha @ld7;refine uX ?_;exact dbad hx02 oM dC rfl
 |true =>
 rw [znr hc];unfold makeO;cases a1:partB s with
 |false =>
  have F:=J8 @tb_bu @g1 @zba @zda @zha @ld7 @hv @a1;refine uX ?_;exact dbad hx02 oM dC rfl
 |true =>
 cases a2:wi n 1 64 with
 |false =>
  have F:=J10 @tb_bu @g1 @zba @zda @zha @ld7 @hv @a1 @d13 @a2;refine uX ?_;exact dbad hx02 oM dC rfl
 |true =>
 have F:=J7 @hv @a1 @d13 @a2 @hw1 @g0 @zda;refine uT ?_;refine cR_f (zmr (h.hx hx02) s) ?_;rintro r3 H3 ⟨rfl,hx3⟩;have hx03:=hx02.trans hx3;have hn3:=hx3.next;have g0:=(hx3.get (i:=H.next) oM).trans g0
 have g1:=(hx3.get (i:=H.next+1) oM).trans g1
 haveI:=hx03.hn;have hlo3:H3.lo=H.lo:=hx03.lo;by_cases hr:roomE t s=0
 ·simp only [hr,reduceIte,qx3,qp2]
  have F:=J3 @g0 @zda @mk_bu;refine uT ?_;refine cR_f (zxa1 (h.hx hx03).d (checkB_ok.1 hc) h.len h.nm (show s.size<=_ from hs) (.inl rfl)) ?_
  rintro r4 H4 ⟨⟨v2,l2,ll,rfl,hd⟩,hx4⟩;have hx04:=hx03.trans hx4;have g1:=(hx4.get (i:=H.next+1) oM).trans g1
  haveI:=hx04.hn;have hlo4:H4.lo=H.lo:=hx04.lo;have o2:=zbb (nn:=t.nx+1) (RdD.one hd.rd) hd.lv.one.1;have F:=J5 @g1 @zba @zda @zha @ld7;refine uT ?_;exact ⟨.inr ⟨_,v2,l2,ll,rfl,rfl,hd.put (HP.put _ _ _) g1 dC dC dC⟩,HX.put hx04 oM _⟩
 ·simp only [qg hr,reduceIte,qx3,qp2]
  have d1:decide (roomE t s≠0)=true:=qo hr;have F:=J7 @d1 @tb_bu @g1 @zba @zda @zha @ld7;refine uT ?_;exact dbad hx03 oM hr rfl
theorem sn_bu2 (s:ByteArray) (n m o:Int) (i:Nat) (op:Bool):zua lookM 84 (zipF [1,2,3,4,5,6] [.str s,.int .i64 2,.int .i64 n,roA (.sl i 0 0 0 op),.int .i64 m,.int .i64 o])=some (.agg (rcL (.sl i 0 0 0 op,⟨0,s,2,n,m,o,0,0,0⟩))):=kR
theorem cl_bu2 (s:ByteArray) (n m o:Int) (i:Nat) (op:Bool):zua lookM 84 (zipF [1,2,3,4,5,7] [.str s,.int .i64 1,.int .i64 n,roA (.sl i 0 0 0 op),.int .i64 m,.int .i64 o])=some (.agg (rcL (.sl i 0 0 0 op,⟨0,s,1,n,m,0,o,0,0⟩))):=kR
theorem sn_bu3 {H:AH}{a:AV}(ha:HoD H a) (s:ByteArray) (n m o:Int):zua lookM 84 (zipF [1,2,3,4,5,6] [.str s,.int .i64 2,.int .i64 n,roA a,.int .i64 m,.int .i64 o])=some (.agg (rcL (a,⟨0,s,2,n,m,o,0,0,0⟩))):=by
 rcases ha with rfl|⟨i,op,cc,op',rfl,_⟩
 ·exact sn_bu _ _ _ _
 ·exact sn_bu2 _ _ _ _ _ _
theorem cl_bu3 {H:AH}{a:AV}(ha:HoD H a) (s:ByteArray) (n m o:Int):zua lookM 84 (zipF [1,2,3,4,5,7] [.str s,.int .i64 1,.int .i64 n,roA a,.int .i64 m,.int .i64 o])=some (.agg (rcL (a,⟨0,s,1,n,m,0,o,0,0⟩))):=by
 rcases ha with rfl|⟨i,op,cc,op',rfl,_⟩
 ·exact cl_bu _ _ _ _
 ·exact cl_bu2 _ _ _ _ _ _
theorem zsf1 {H:AH}[hn:HN H]{t:Tb}{v lv:AV}{l:List (AV×Rc)}{s:ByteArray}(h:DbIn H t v lv l) (hs:s.size<=100000) :
  FnE lookM 77 [tbA t.nx v lv,.str s,.int .i64 1] H fun r H'=>DbR H' r (snapT t s)/\HX H H':=by
 refine fI Tryz.f77 ?_;have hlo:=hn.lo;have e01:=hEq_f (oM:H.next≠H.next+1)
 have o1:=o0;have hsp:= @FnX.p _ _ _ _ (zre s oM)
 have hw1:wi 1 1 2147483648=true:=dC
 have F:=J5 @zba @zdb @zda @e01 @hsp;refine uT ?_;refine cR_at (fun H1=>HX H H1/\H1.next=H.next+2/\H1.get H.next=some (tbx t.nx v lv)/\H1.get (H.next+1)=some (tbx 0 .nilSl .nilSl)) ?_ ?_
 ·exact ⟨hxt,rfl,by have F:=@e01;exact vT,zaa _⟩
 rintro H1 ⟨hx1,hn1,g0,g1⟩;haveI:=hx1.hn;refine cR_f (dchk (h.hx hx1)) ?_;rintro r2 H2 ⟨rfl,hx2⟩;have hx02:=hx1.trans hx2;have hn2:=hx2.next;have g0:=(hx2.get (i:=H.next) oM).trans g0
 have g1:=(hx2.get (i:=H.next+1) oM).trans g1
 haveI:=hx02.hn;have hlo2:H2.lo=H.lo:=hx02.lo;rw [zpa1];cases hc:ztb t with
 |false =>
  rw [zor hc];have F:=J6 @tb_bu @g1 @zba @zda @zha @ld7;refine uX ?_;exact dbad hx02 oM dC rfl
 |true =>
 rw [znr hc];unfold snapO;cases a1:snapB s with
 |false =>
  have F:=J7 @tb_bu @g1 @zba @zda @zha @ld7 @a1;refine uX ?_;exact dbad hx02 oM dC rfl
 |true =>
 have F:=J5 @a1 @d13 @hw1 @g0 @zda;refine uT ?_;refine cR_f (dfnd (h.hx hx02) (splA s)) ?_;rintro r3 H3 ⟨rfl,hx3⟩;have hx03:=hx02.trans hx3;have hn3:=hx3.next;have g0:=(hx3.get (i:=H.next) oM).trans g0
 have g1:=(hx3.get (i:=H.next+1) oM).trans g1
 haveI:=hx03.hn;have hlo3:H3.lo=H.lo:=hx03.lo;cases a2:hasB (splA s) t.rs with
 |false =>
  have F:=J6 @tb_bu @g1 @zba @zda @zha @ld7;refine uX ?_;exact dbad hx03 oM dC rfl
 |true =>
 obtain ⟨q1,q2⟩:=zeb a2;have F:=J2 @g0 @zda;refine uT ?_;refine cR_f (zmr (h.hx hx03) s) ?_;rintro r4 H4 ⟨rfl,hx4⟩;have hx04:=hx03.trans hx4;have hn4:=hx4.next;have g0:=(hx4.get (i:=H.next) oM).trans g0
 have g1:=(hx4.get (i:=H.next+1) oM).trans g1
 haveI:=hx04.hn;have hlo4:H4.lo=H.lo:=hx04.lo;by_cases hr:roomE t s=0
 ·have h4:=h.hx hx04
  obtain ⟨p,hp,hp2,hph⟩:=h4.at q1;have hix:=ix44 (z:=44) (q:=fndI (splA s) t.rs) h4.d.rd.sl.is (by have:=h4.d.len;omega)
  have hld:=h4.d.rd.sl.agg hp;have hone:=zjr hph.is;have e0n:=hEq_f (oM:H.next≠H4.next)
  have hbu:=sn_bu3 hph s (get t.rs (fndI (splA s) t.rs)).sz 1 (get t.rs (fndI (splA s) t.rs)).id;rw [← hp2] at hbu ⊢
  simp only [hr,reduceIte,qx3,qp2];have F:=J12 @g0 @tb_1 @zda @hix @hld @zra @rc_0 @rc_3 @rc_5 @rc_ro @e0n @hbu;refine uT ?_;refine cR_at (fun H5=>HX H4 H5/\H5.next=H4.next+1) ?_ ?_
  ·exact ⟨hxt,rfl⟩
  rintro H5 ⟨hx5,hn5⟩;have hx05:=hx04.trans hx5;have g1:=(hx5.get (i:=H.next+1) oM).trans g1
  haveI:=hx05.hn;refine cR_f (zxa1 (h.hx hx05).d (checkB_ok.1 hc) h.len h.nm (show s.size<=_ from hs) (hph.hx hx5)) ?_
  rintro r6 H6 ⟨⟨v2,l2,ll,rfl,hd⟩,hx6⟩;have hx06:=hx05.trans hx6;have g1:=(hx6.get (i:=H.next+1) oM).trans g1
  haveI:=hx06.hn;have hlo6:H6.lo=H.lo:=hx06.lo;have o2:=zbb (nn:=t.nx+1) (RdD.one hd.rd) hd.lv.one.1;have F:=J5 @g1 @zba @zda @zha @ld7;refine uT ?_;exact ⟨.inr ⟨_,v2,l2,ll,rfl,rfl,hd.put (HP.put _ _ _) g1 dC dC dC⟩,HX.put hx06 oM _⟩
 ·simp only [qg hr,reduceIte,qx3,qp2]
  have d1:decide (roomE t s≠0)=true:=qo hr;have F:=J7 @d1 @tb_bu @g1 @zba @zda @zha @ld7;refine uT ?_;exact dbad hx04 oM hr rfl
theorem zya1 {H:AH}[hn:HN H]{t:Tb}{v lv:AV}{l:List (AV×Rc)}{s to:ByteArray}(h:DbIn H t v lv l) (hs:s.size<=100000) (hto:to.size<=100000) :
  FnE lookM 78 [tbA t.nx v lv,.str s,.str to,.int .i64 1] H fun r H'=>DbR H' r (zxn t s to)/\HX H H':=by
 refine fI Tryz.f78 ?_;have hlo:=hn.lo;have e01:=hEq_f (oM:H.next≠H.next+1)
 have o1:=o0;have hsn:= @FnX.p _ _ _ _ (zco s oM)
 have hv:= @FnX.p _ _ _ _ (zzk to oM)
 have hw1:wi 1 1 2147483648=true:=dC
 have F:=J4 @zba @zdb @zda @e01;refine uT ?_;refine cR_at (fun H1=>HX H H1/\H1.next=H.next+2/\H1.get H.next=some (tbx t.nx v lv)/\H1.get (H.next+1)=some (tbx 0 .nilSl .nilSl)) ?_ ?_
 ·exact ⟨hxt,rfl,by have F:=@e01;exact vT,zaa _⟩
 rintro H1 ⟨hx1,hn1,g0,g1⟩;haveI:=hx1.hn;refine cR_f (dchk (h.hx hx1)) ?_;rintro r2 H2 ⟨rfl,hx2⟩;have hx02:=hx1.trans hx2;have hn2:=hx2.next;have g0:=(hx2.get (i:=H.next) oM).trans g0
 have g1:=(hx2.get (i:=H.next+1) oM).trans g1
 haveI:=hx02.hn;have hlo2:H2.lo=H.lo:=hx02.lo;rw [zfu];cases hc:ztb t with
 |false =>
  rw [zor hc];have F:=J6 @tb_bu @g1 @zba @zda @zha @ld7;refine uX ?_;exact dbad hx02 oM dC rfl
 |true =>
 rw [znr hc];unfold zlr;cases a1:snapB s with
 |false =>
  have F:=J8 @tb_bu @g1 @zba @zda @zha @ld7 @hsn @a1;refine uX ?_;exact dbad hx02 oM dC rfl
 |true =>
 cases a0:partB to with
 |false =>
  have F:=J10 @tb_bu @g1 @zba @zda @zha @ld7 @hsn @a1 @hv @a0;refine uX ?_;exact dbad hx02 oM dC rfl
 |true =>
 have F:=J8 @hsn @a1 @hv @a0 @d13 @hw1 @g0 @zda;refine uT ?_;refine cR_f (dfnd (h.hx hx02) s) ?_;rintro r3 H3 ⟨rfl,hx3⟩;have hx03:=hx02.trans hx3;have hn3:=hx3.next;have g0:=(hx3.get (i:=H.next) oM).trans g0
 have g1:=(hx3.get (i:=H.next+1) oM).trans g1
 haveI:=hx03.hn;have hlo3:H3.lo=H.lo:=hx03.lo;cases a2:hasB s t.rs with
 |false =>
  have F:=J6 @tb_bu @g1 @zba @zda @zha @ld7;refine uX ?_;exact dbad hx03 oM dC rfl
 |true =>
 obtain ⟨q1,q2⟩:=zeb a2;have F:=J2 @g0 @zda;refine uT ?_;refine cR_f (zmr (h.hx hx03) to) ?_;rintro r4 H4 ⟨rfl,hx4⟩;have hx04:=hx03.trans hx4;have hn4:=hx4.next;have g0:=(hx4.get (i:=H.next) oM).trans g0
 have g1:=(hx4.get (i:=H.next+1) oM).trans g1
 haveI:=hx04.hn;have hlo4:H4.lo=H.lo:=hx04.lo;by_cases hr:roomE t to=0
 ·have h4:=h.hx hx04
  obtain ⟨p,hp,hp2,hph⟩:=h4.at q1;have hix:=ix44 (z:=44) (q:=fndI s t.rs) h4.d.rd.sl.is (by have:=h4.d.len;omega)
  have hld:=h4.d.rd.sl.agg hp;have hone:=zjr hph.is;have e0n:=hEq_f (oM:H.next≠H4.next)
  have hbu:=cl_bu3 hph to (get t.rs (fndI s t.rs)).sz 1 (get t.rs (fndI s t.rs)).id;rw [← hp2] at hbu ⊢
  simp only [hr,reduceIte,qx3,qp2];have F:=J12 @g0 @tb_1 @zda @hix @hld @zra @rc_0 @rc_3 @rc_5 @rc_ro @e0n @hbu;refine uT ?_;refine cR_at (fun H5=>HX H4 H5/\H5.next=H4.next+1) ?_ ?_
  ·exact ⟨hxt,rfl⟩
  rintro H5 ⟨hx5,hn5⟩;have hx05:=hx04.trans hx5;have g1:=(hx5.get (i:=H.next+1) oM).trans g1
  haveI:=hx05.hn;refine cR_f (zxa1 (h.hx hx05).d (checkB_ok.1 hc) h.len h.nm (show to.size<=_ from hto) (hph.hx hx5)) ?_
  rintro r6 H6 ⟨⟨v2,l2,ll,rfl,hd⟩,hx6⟩;have hx06:=hx05.trans hx6;have g1:=(hx6.get (i:=H.next+1) oM).trans g1
  haveI:=hx06.hn;have hlo6:H6.lo=H.lo:=hx06.lo;have o2:=zbb (nn:=t.nx+1) (RdD.one hd.rd) hd.lv.one.1;have F:=J5 @g1 @zba @zda @zha @ld7;refine uT ?_;exact ⟨.inr ⟨_,v2,l2,ll,rfl,rfl,hd.put (HP.put _ _ _) g1 dC dC dC⟩,HX.put hx06 oM _⟩
 ·simp only [qg hr,reduceIte,qx3,qp2]
  have d1:decide (roomE t to≠0)=true:=qo hr;have F:=J7 @d1 @tb_bu @g1 @zba @zda @zha @ld7;refine uT ?_;exact dbad hx04 oM hr rfl
def nwB (s x:Rc):Bool:=decide (x.kd=2) && (decide (x.ow=s.ow) && zrp x s)
theorem zza1 {f:Rc->Bool}{l:List Rc}{q:Nat}{r:Rc}(h:l[q]? =some r):(l.take (q+1)).any f=((l.take q).any f || f r):=by
 rw [qi4,h,qi3,List.any_append];simp
theorem any_at {f:Rc->Bool}{l:List Rc}{q:Nat}{r:Rc}(h:l[q]? =some r) (hf:f r=true):l.any f=true:=qf4.2 ⟨r,qz.2 ⟨q,h⟩,hf⟩
theorem ztf1 {H:AH}[hn:HN H]{nn:Int}{v lv:AV}{l:List (AV×Rc)}{s:AV×Rc}(hsl:SlRc H v l) (hlen:l.length<=1000000) (hs:IsSl H s.1 0) :
  FnE lookM 93 [tbA nn v lv,.agg (rcL s)] H fun r H'=>r= .bool (!(rcs l).any (nwB s.2))/\HX H H':=by
 refine fI Tryz.f93 ?_;have hlo:=hn.lo;have hl:=fun H'=>zwc (H':=H') uRs hsl.is
 have F:=J2 @zba @zra;refine uT ?_;refine rc_at (fun H1=>HX H H1/\H1.next=H.next+2/\H1.get H.next=some (tbx nn v lv)/\H1.get (H.next+1)=some (rcb2 s)) ?_ ?_
 ·exact ⟨hxt,rfl,by rw [zmf _ (oM:H.next≠H.next+1),zaa],zaa _⟩
 rintro H1 ⟨hx1,hn1,g0,g1⟩;haveI:=hx1.hn;refine rc_l (fun n T H'=> ∃q,n+q=l.length/\HX H1 H'/\((rcs l).take q).any (nwB s.2)=false/\gT T 2= .ptr H.next 0/\gT T 3= .ptr (H.next+1) 0/\gT T 5= .int .i64 q) l.length ?_ ?_
 ·exact ⟨0,rfl,HX.refl _,by simp,vT0,vT0,by refine uT0 ?_;rfl⟩
 rintro n T H2 ⟨q,hnq,hx2,hall,t2,t3,t5⟩;have hx02:=hx1.trans hx2;have g0:=(hx2.get oM).trans g0
 have g1:=(hx2.get oM).trans g1
 haveI:=hx02.hn;have hn2:=hx2.next;have hlo2:H2.lo<=H2.next:=HN.lo;cases n with
 |zero =>
  rw [qx (by rw [zkb];omega)] at hall
  rw [hall];have F:=J6 @t2 @t3 @t5 @g0 @tb_1 @hl;refine uT ?_;exact hx02
 |succ n =>
  have hq:q<l.length:=oM
  obtain ⟨p,hk⟩:∃p,l[q]? =some p:=⟨_,qr hq⟩
  have hk2:(rcs l)[q]? =some p.2:=by rw [qi1,hk];rfl
  have hix:=ix44 (z:=44) (q:=q) hsl.is hq;have hld:=(hsl.hx hx02).agg hk;have hp1:=zjr (hsl.holeAt hk);have e1:=hEq_f (oM:H.next+1≠H2.next)
  have e0:=hEq_f (oM:H.next≠H2.next)
  have yes:nwB s.2 p.2=true-> ∀H',HX H H'->AV.bool false= .bool (!(rcs l).any (nwB s.2))/\HX H H':=fun h H' hx'=>⟨by rw [any_at hk2 h];rfl,hx'⟩
  have no:nwB s.2 p.2=false-> ∀H',HX H1 H'-> ∃n',n'<n+1/\ ∃q',n'+q'=l.length/\HX H1 H'/\((rcs l).take q').any (nwB s.2)=false/\AV.int .i64 ((q:Int)+1)= .int .i64 (q':Int):=fun h H' hx'=>⟨n,oM,q+1,oM,hx',by rw [zza1 hk2,hall,h];rfl,by push_cast;rfl⟩
  have en:zrp p.2 s.2=(decide (s.2.md<p.2.md) || (decide (p.2.md=s.2.md) && decide (s.2.id<p.2.id))):=rfl;unfold nwB at yes no;rw [en] at yes no;cases a1:decide (p.2.kd=2) with
  |false=>rw [a1] at no;have F:=J14 @t2 @t3 @t5 @g0 @g1 @e0 @e1 @tb_1 @hl @hix @hld @zra @rc_2 @a1;refine uT ?_;exact no rfl _ (by have K:=hx2;exact hxk)
  |true =>
  cases a2:decide (p.2.ow=s.2.ow) with
  |false=>rw [a1,a2] at no;have F:=J16 @t2 @t3 @t5 @g0 @g1 @e0 @e1 @tb_1 @hl @hix @hld @zra @rc_2 @rc_40 @a1 @a2;refine uT ?_;exact no rfl _ (by have K:=hx2;exact hxk)
  |true =>
  cases a3:decide (s.2.md<p.2.md) with
  |true=>rw [a1,a2,a3] at yes;have F:=J16 @t2 @t3 @t5 @g0 @g1 @e0 @e1 @tb_1 @hl @hix @hld @zra @rc_2 @rc_40 @rc_39 (J3 @a1 @a2 @a3);refine uT ?_;exact yes rfl _ (by have K:=hx02;exact hxk)
  |false =>
  cases a4:decide (p.2.md=s.2.md) with
  |false=>rw [a1,a2,a3,a4] at no;have F:=J16 @t2 @t3 @t5 @g0 @g1 @e0 @e1 @tb_1 @hl @hix @hld @zra @rc_2 @rc_40 @rc_39 (J4 @a1 @a2 @a3 @a4);refine uT ?_;exact no rfl _ (by have K:=hx2;exact hxk)
  |true =>
  cases a5:decide (s.2.id<p.2.id) with
  |false=>rw [a1,a2,a3,a4,a5] at no;have F:=J16 @t2 @t3 @t5 @g0 @g1 @e0 @e1 @tb_1 @hl @hix @hld @zra @rc_0 @rc_2 @rc_40 (J6 @rc_39 @a1 @a2 @a3 @a4 @a5);refine uT ?_;exact no rfl _ (by have K:=hx2;exact hxk)
  |true=>rw [a1,a2,a3,a4,a5] at yes;have F:=J16 @t2 @t3 @t5 @g0 @g1 @e0 @e1 @tb_1 @hl @hix @hld @zra @rc_0 @rc_2 @rc_40 (J6 @rc_39 @a1 @a2 @a3 @a4 @a5);refine uT ?_;exact yes rfl _ (by have K:=hx02;exact hxk)
theorem busy_ok {H:AH}[hn:HN H]{nn id:Int}{v lv:AV}{l:List (AV×Rc)}(hsl:SlRc H v l) (hlen:l.length<=1000000) :
  FnE lookM 96 [tbA nn v lv,.int .i64 id] H fun r H'=>r= .bool ((rcs l).any (drp id))/\HX H H':=by
 refine fI Tryz.f96 ?_;have hl:=fun H'=>zwc (H':=H') uRs hsl.is
 have hx1:HX H (H.new (tbx nn v lv)):=HX.new _ _;have F:=@zba;refine uT ?_;refine rc_l (fun n T H'=> ∃q,n+q=l.length/\H'=H.new (tbx nn v lv)/\((rcs l).take q).any (drp id)=false/\gT T 1= .int .i64 id/\gT T 2= .ptr H.next 0/\gT T 5= .int .i64 q) l.length ?_ ?_
 ·exact ⟨0,rfl,rfl,by simp,vT0,vT0,by refine uT0 ?_;rfl⟩
 rintro n T H' ⟨q,hnq,rfl,hall,t1,t2,t5⟩;cases n with
 |zero =>
  rw [qx (by rw [zkb];omega)] at hall
  rw [hall];have F:=J5 @t1 @t2 @t5 @tb_1 @hl;refine uT ?_;exact hx1
 |succ n =>
  have hq:q<l.length:=oM
  obtain ⟨p,hk⟩:∃p,l[q]? =some p:=⟨_,qr hq⟩
  have hk2:(rcs l)[q]? =some p.2:=by rw [qi1,hk];rfl
  have hix:=ix44 (z:=44) (q:=q) hsl.is hq;have hf0:=fa_el hsl.is hq 44 40;have hf1:=fa_el hsl.is hq 44 41;have hl0:=(hsl.hx hx1).fld hk (j:=40) (x:=.int .i64 p.2.ow) rfl;have hl1:=(hsl.hx hx1).fld hk (j:=41) (x:=.int .i64 p.2.og) rfl;have yes:drp id p.2=true->AV.bool true= .bool ((rcs l).any (drp id)):=fun h=>by rw [any_at hk2 h]
  have no:drp id p.2=false-> ∃n',n'<n+1/\ ∃q',n'+q'=l.length/\((rcs l).take q').any (drp id)=false/\AV.int .i64 ((q:Int)+1)= .int .i64 (q':Int):=fun h=>⟨n,oM,q+1,oM,by rw [zza1 hk2,hall,h];rfl,by push_cast;rfl⟩
  unfold drp at yes no;cases a1:decide (p.2.ow=id) with
  |true =>
   rw [a1] at yes;have F:=J9 @t1 @t2 @t5 @tb_1 @hl @hix @hf0 @hl0 @a1;refine uT ?_;exact ⟨yes rfl,hx1⟩
  |false =>
   cases a2:decide (p.2.og=id) with
   |true =>
    rw [a1,a2] at yes;have F:=J12 @t1 @t2 @t5 @tb_1 @hl @hix @hf0 @hl0 @hf1 @hl1 @a1 @a2;refine uT ?_;exact ⟨yes rfl,hx1⟩
   |false =>
    rw [a1,a2] at no;have F:=J12 @t1 @t2 @t5 @tb_1 @hl @hix @hf0 @hl0 @hf1 @hl1 @a1 @a2;refine uT ?_;exact no rfl
theorem OwD.st {H:AH}[hn:HN H]{j N k f t:Nat}{op:Bool}{l:List (AV×Rc)}{p p':AV×Rc}{x:AV}(h:OwD H (.sl j 0 l.length l.length op) l N) (hk:l[k]? =some p) (hf:f<44) (hset:(rcL p).set f x=rcL p') (hp:p'.1=p.1) (hs:lookM.size t=some 1) (hx:x.oneCell=true) (hlo:H.lo<=j) :
  ∃H',st1 lookM t (.ptr j (k*44+f)) x H=some H'/\OwD H' (.sl j 0 l.length l.length op) (l.set k p') N/\HP (·≠ j) H H':=by
 have hlt:=(qq.1 hk).1;obtain ⟨c0,⟨h1,_⟩|⟨j',op',h1,hr,hN,hj,hop⟩⟩:=h.own
 ·cases h1
 cases h1
 have hl:k*44+f<(encC rcL l).length:=by rw [c0];have:(k+1)*44<=l.length*44:=qd2 44 hlt;omega
 obtain ⟨H',w1,w2,w3,w4⟩:=Row.st1 (L:=lookM) (t:=t) (k:=k*44+f) (v:=x) hr hn.hide hlo hs hx hl;rw [zai zqa hk hf hset] at w2;have hll:(l.set k p').length=l.length:=qm2;refine ⟨H',w1,⟨⟨by rw [znc zqa],.inr ⟨j,op,by rw [hll],w2,hN,oM,by rw [hll];exact hop⟩⟩,fun y hy=> ?_⟩,w3⟩
 have hy':HoD H y.1:=by
  rcases qv6 hy with hy|hy
  ·exact h.ho y hy
  ·subst hy
   rw [hp];exact h.ho p (qz.2 ⟨k,hk⟩)
 obtain ⟨cc,hg,_⟩:=hr;exact hy'.put w3 fun cc' op' ro e=>by rw [hg] at e;cases e
theorem zuf1 {l:List (AV×Rc)}{k:Nat}{p:AV×Rc}(hk:l[k]? =some p) (a:AV):(encC rcL l).take (k*44+4) ++ roL a ++ (encC rcL l).drop (k*44+4+35)=encC rcL (l.set k (a,p.2)):=by
 have hlt:=(qq.1 hk).1;rw [← zpz zqa (a,p.2) hlt];have h1:=zpf zqa hk;have e1:(encC rcL l).take (k*44+4)=(encC rcL l).take (k*44) ++ (rcL p).take 4:=by
  rw [qt7,← h1,qj5];rfl
 have e2:(encC rcL l).drop (k*44+4+35)=(rcL p).drop 39 ++ (encC rcL l).drop (k*44+44):=by
  have h2:(encC rcL l).drop (k*44)=rcL p ++ (encC rcL l).drop (k*44+44):=by
   rw [← h1,← qk3,qn4]
  have h3:(encC rcL l).drop (k*44+4+35)=((encC rcL l).drop (k*44)).drop 39:=by rw [qk3]
  rw [h3,h2,qf6 (by rw [zqa];omega)]
 rw [e1,e2];have e3:rcL (a,p.2)=(rcL p).take 4 ++ roL a ++ (rcL p).drop 39:=rfl;rw [e3];simp only [qg1]
theorem OwD.str {H:AH}[hn:HN H]{j N k:Nat}{op:Bool}{l:List (AV×Rc)}{p:AV×Rc}{a:AV}(h:OwD H (.sl j 0 l.length l.length op) l N) (hk:l[k]? =some p) (ha:HoD H a) (hlo:H.lo<=j) :
  ∃H',stN 35 (.ptr j (k*44+4)) (roA a) H=some H'/\OwD H' (.sl j 0 l.length l.length op) (l.set k (a,p.2)) N/\HP (·≠ j) H H':=by
 have hlt:=(qq.1 hk).1;obtain ⟨c0,⟨h1,_⟩|⟨j',op',h1,hr,hN,hj,hop⟩⟩:=h.own
 ·cases h1
 cases h1
 have hcl:(roA a).cells=roL a:=by rcases ha.is with ⟨rfl,_⟩|⟨i,o,c,op,rfl,_⟩<;>rfl
 have hon:(roA a).toC.one=true:=by rw [znw ha.is];show (roL a).all AV.oneCell=true;rcases ha.is with ⟨rfl,_⟩|⟨i,o,c,op,rfl,_⟩<;>rfl
 obtain ⟨H',w1,w2,w3,w4⟩:=Row.stN (L:=lookM) (t:=0) (s:=35) (k:=k*44+4) (v:=roA a) hr hn.hide hlo (by rw [hcl,zqz]) hon (by rw [c0];have:(k+1)*44<=l.length*44:=qd2 44 hlt;omega)
 rw [hcl,zuf1 hk] at w2;have hll:(l.set k (a,p.2)).length=l.length:=qm2;refine ⟨H',w1,⟨⟨by rw [znc zqa],.inr ⟨j,op,by rw [hll],w2,hN,oM,by rw [hll];exact hop⟩⟩,fun y hy=> ?_⟩,w3⟩
 have hy':HoD H y.1:=by
  rcases qv6 hy with hy|hy
  ·exact h.ho y hy
  ·subst hy;exact ha
 obtain ⟨cc,hg,_⟩:=hr;exact hy'.put w3 fun cc' op' ro e=>by rw [hg] at e;cases e
theorem OwD.ldr {H:AH}{j N k:Nat}{op:Bool}{l:List (AV×Rc)}{p:AV×Rc}(h:OwD H (.sl j 0 l.length l.length op) l N) (hk:l[k]? =some p):sbB (H.get j) (k*44+4) 35=some (roA p.1):=by
 have hlt:=(qq.1 hk).1;obtain ⟨c0,⟨h1,_⟩|⟨j',op',h1,hr,hN,hj,hop⟩⟩:=h.own
 ·cases h1
 cases h1
 obtain ⟨c,e1,e2⟩:=hr.rdN (o:=k*44+4) (s:=35) (by rw [c0];have:(k+1)*44<=l.length*44:=qd2 44 hlt;omega)
 rw [ldN_q] at e1;rw [e1];have h2:((encC rcL l).drop (k*44+4)).take 35=roL p.1:=by
  have h1:=zpf zqa hk;have:((((encC rcL l).drop (k*44)).take 44).drop 4).take 35=roL p.1:=by rw [h1];rfl
  rw [qf7,qj5,qk3] at this;exact this
 rw [h2] at e2;have hh:=(h.ho p (qz.2 ⟨k,hk⟩)).is;rw [zot (x:=p.1) (l:=(roL p.1).tail) (by rw [e2];rfl) (fun n hn=>by rcases hh with ⟨h,_⟩|⟨i,o,c,op,h,_⟩<;>(rw [h] at hn;cases hn))]
 rfl
theorem OwD.ld {H:AH}{j N k f:Nat}{op:Bool}{l:List (AV×Rc)}{p:AV×Rc}{x:AV}(h:OwD H (.sl j 0 l.length l.length op) l N) (hk:l[k]? =some p) (hx:(rcL p)[f]? =some x):rdB (H.get j) (k*44+f)=some x:=by
 have hf:f<44:=by have:=(qq.1 hx).1;rwa [zqa] at this
 obtain ⟨c0,⟨h1,_⟩|⟨j',op',h1,hr,hN,hj,hop⟩⟩:=h.own
 ·cases h1
 cases h1
 have:=hr.rd (k:=k*44+f) (v:=x) (by rw [zvi zqa hk hf];exact hx)
 rwa [ld1_q] at this
theorem OwD.sl_of {H:AH}{v:AV}{l:List (AV×Rc)}{N:Nat}(h:OwD H v l N) (hl:0<l.length):∃j op,v= .sl j 0 l.length l.length op/\N<=j/\j<H.next/\ ∃cc,H.get j=some (.cells cc 84 44 op false):=by
 rcases h.own.2 with ⟨_,h0⟩|⟨j,op,rfl,⟨cc,hg,_⟩,hN,hj,_⟩
 ·omega
 ·exact ⟨j,op,rfl,hN,hj,cc,hg⟩
theorem OwD.tbd {H:AH}{t:Tb}{v lv:AV}{l:List (AV×Rc)}{N M:Nat}(h:OwD H v l N) (he:rcs l=t.rs) (hl:OwL H lv M):TbD H t v lv l:=⟨h.rd,he,OwL.lvd hl⟩
theorem zbl (l:List (AV×Rc)) (k:Nat) (p:AV×Rc):rcs (l.set k p)=(rcs l).set k p.2:=by
 show (l.set k p).map _=(l.map _).set k _
 rw [List.map_set]
set_option maxHeartbeats 16000000 in
theorem zvf1 {H:AH}[hn:HN H]{t:Tb}{v lv:AV}{l:List (AV×Rc)}{s:ByteArray}(h:DbIn H t v lv l) (hs:s.size<=100000) :
  FnE lookM 79 [tbA t.nx v lv,.str s] H fun r H'=>DbR H' r (rollT t s)/\HX H H':=by
 refine fI Tryz.f79 ?_;have hlo:=hn.lo;have e01:=hEq_f (oM:H.next≠H.next+1)
 have o1:=o0;have hsp:= @FnX.p _ _ _ _ (zre s oM)
 have F:=J5 @zba @zdb @zda @e01 @hsp;refine uT ?_;refine cR_at (fun H1=>HX H H1/\H1.next=H.next+2/\H1.get H.next=some (tbx t.nx v lv)/\H1.get (H.next+1)=some (tbx 0 .nilSl .nilSl)) ?_ ?_
 ·exact ⟨hxt,rfl,by have F:=@e01;exact vT,zaa _⟩
 rintro H1 ⟨hx1,hn1,g0,g1⟩;haveI:=hx1.hn;refine cR_f (dchk (h.hx hx1)) ?_;rintro r2 H2 ⟨rfl,hx2⟩;have hx02:=hx1.trans hx2;have hn2:=hx2.next;have g0:=(hx2.get (i:=H.next) oM).trans g0
 have g1:=(hx2.get (i:=H.next+1) oM).trans g1
 haveI:=hx02.hn;have hlo2:H2.lo=H.lo:=hx02.lo;rw [zra1];cases hc:ztb t with
 |false =>
  rw [zor hc];have F:=J6 @tb_bu @g1 @zba @zda @zha @ld7;refine uX ?_;exact dbad hx02 oM dC rfl
 |true =>
 have hk:=checkB_ok.1 hc;rw [znr hc];unfold rollO;cases a1:snapB s with
 |false =>
  have F:=J7 @tb_bu @g1 @zba @zda @zha @ld7 @a1;refine uX ?_;exact dbad hx02 oM dC rfl
 |true =>
 have F:=J3 @a1 @g0 @zda;refine uT ?_;refine cR_f (dfnd (h.hx hx02) s) ?_;rintro r3 H3 ⟨rfl,hx3⟩;have hx03:=hx02.trans hx3;have hn3:=hx3.next;have g0:=(hx3.get (i:=H.next) oM).trans g0
 have g1:=(hx3.get (i:=H.next+1) oM).trans g1
 haveI:=hx03.hn;have hlo3:H3.lo=H.lo:=hx03.lo;cases a2:hasB s t.rs with
 |false =>
  have F:=J6 @tb_bu @g1 @zba @zda @zha @ld7;refine uX ?_;exact dbad hx03 oM dC rfl
 |true =>
 obtain ⟨q1,q2⟩:=zeb a2;have h3:=h.hx hx03;obtain ⟨p,hp,hp2,hph⟩:=h3.at q1;have hix:=ix44 (z:=44) (q:=fndI s t.rs) h3.d.rd.sl.is (by have:=h3.d.len;omega)
 have hld:=h3.d.rd.sl.agg hp;have F:=J5 @g0 @zda @tb_1 @hix @hld;refine uT ?_;refine cR_f (ztf1 h3.d.rd.sl (by have:=h3.ll;omega) hph.is) ?_
 rintro r4 H4 ⟨rfl,hx4⟩;have hx04:=hx03.trans hx4;have hn4:=hx4.next;have g0:=(hx4.get (i:=H.next) oM).trans g0
 have g1:=(hx4.get (i:=H.next+1) oM).trans g1
 haveI:=hx04.hn;have hlo4:H4.lo=H.lo:=hx04.lo;have eany:(rcs l).any (nwB p.2)=t.rs.any (rb11 (get t.rs (fndI s t.rs))):=by
  rw [hp2,h.d.eq];have:=zhm1 hk a1 a2;exact this.symm
 rw [eany];cases a3:t.rs.any (rb11 (get t.rs (fndI s t.rs))) with
 |true =>
  have F:=J6 @tb_bu @g1 @zba @zda @zha @ld7;refine uT ?_;exact dbad hx04 oM dC rfl
 |false =>
 have F:=J2 @g0 @zda;refine uX ?_;refine cR_f (dfnd (h.hx hx04) (splA s)) ?_;rintro r5 H5 ⟨rfl,hx5⟩;have hx05:=hx04.trans hx5;have hn5:=hx5.next;have g0:=(hx5.get (i:=H.next) oM).trans g0
 have g1:=(hx5.get (i:=H.next+1) oM).trans g1
 haveI:=hx05.hn;have hlo5:H5.lo=H.lo:=hx05.lo;have F:=J2 @g0 @zda;refine uT ?_;refine cR_f (zal (h.hx hx05).d h.ll) ?_;rintro r6 H6 ⟨⟨v6,lv6,l6,rfl,hr6,hl6,hod6,hol6⟩,hx6⟩;have hx06:=hx05.trans hx6;have hn6:=hx6.next;have g1:=(hx6.get (i:=H.next+1) oM).trans g1
 haveI:=hx06.hn;have hlo6:H6.lo=H.lo:=hx06.lo;have hll:=h.d.len;have hlpos:0<l6.length:=oM
 have q3:fndI (splA s) t.rs<t.rs.length:=zbj1 oM
 have o6:=zbb (nn:=t.nx) (v:=v6) (lv:=lv6) (OwnS.one hod6.own).1 (OwnS.one hol6).1;obtain ⟨pi,hpi⟩:∃p,l6[fndI s t.rs]? =some p:=⟨_,qr oM⟩
 obtain ⟨pk,hpk⟩:∃p,l6[fndI (splA s) t.rs]? =some p:=⟨_,qr oM⟩
 have he6:rcs l6=t.rs:=hr6.trans h.d.eq;have hgi:pi.2=get t.rs (fndI s t.rs):=by have:=zxi hpi;rw [he6] at this;exact this.symm
 have hgk:pk.2=get t.rs (fndI (splA s) t.rs):=by have:=zxi hpk;rw [he6] at this;exact this.symm
 obtain ⟨j,op,rfl,hNj,hj,cc,hgj⟩:=hod6.sl_of hlpos;have hod7:OwD ((H6.new (tbx 0 .nilSl .nilSl)).put H6.next (tbx t.nx (.sl j 0 l6.length l6.length op) lv6)) (.sl j 0 l6.length l6.length op) l6 H5.next:=hod6.hx (hxt);have hx7:HX H6 ((H6.new (tbx 0 .nilSl .nilSl)).put H6.next (tbx t.nx (.sl j 0 l6.length l6.length op) lv6)):=hxt;have g7:((H6.new (tbx 0 .nilSl .nilSl)).put H6.next (tbx t.nx (.sl j 0 l6.length l6.length op) lv6)).get H6.next=some (tbx t.nx (.sl j 0 l6.length l6.length op) lv6):=zfa _ _;have hn7:((H6.new (tbx 0 .nilSl .nilSl)).put H6.next (tbx t.nx (.sl j 0 l6.length l6.length op) lv6)).next=H6.next+1:=rfl
 have hh7:HN ((H6.new (tbx 0 .nilSl .nilSl)).put H6.next (tbx t.nx (.sl j 0 l6.length l6.length op) lv6)):=inferInstance;have hol7:=OwnS.hx hol6 hx7;have hix1:ixS 44 (.sl j 0 l6.length l6.length op) (.int .i64 (fndI s t.rs:Nat))=some (elA 44 (.sl j 0 l6.length l6.length op) (fndI s t.rs)):=ix44 (H:=H6) hod6.rd.sl.is oM
 have hix2:ixS 44 (.sl j 0 l6.length l6.length op) (.int .i64 (fndI (splA s) t.rs:Nat))=some (elA 44 (.sl j 0 l6.length l6.length op) (fndI (splA s) t.rs)):=ix44 (H:=H6) hod6.rd.sl.is oM
 have hl60:H6.lo<=H6.next:=HN.lo;have F:=J3 @zdb @zba @zha;refine uT ?_;generalize ((H6.new (tbx 0 .nilSl .nilSl)).put H6.next (tbx t.nx (.sl j 0 l6.length l6.length op) lv6))=H7 at *
 have hlo7:H7.lo=H.lo:=hx7.lo.trans hlo6;have d3:=hod7.ld hpi (f:=3) (x:=.int .i64 pi.2.sz) rfl;obtain ⟨H8,w1,hod8,w3⟩:=hod7.st (t:=3) (x:=.int .i64 pi.2.sz) hpk (oM:3<44) (p':=(pk.1,{pk.2 with sz:=pi.2.sz})) rfl rfl sz3i rfl oM
 have hll8:(l6.set (fndI (splA s) t.rs) (pk.1,{pk.2 with sz:=pi.2.sz})).length=l6.length:=qm2
 haveI hh8:HN H8:=w3.hn;have hlo8:H8.lo=H.lo:=w3.lo.trans hlo7;have hne:H6.next≠j:=oM
 have g8:=(w3.get (i:=H6.next) oM hne).trans g7
 have hol8:OwL H8 lv6 H5.next:=OwnS.hq hol7 w3 fun j' o n c op' he=>by
  intro e;subst e;have:=(hx7.get hj).trans hgj;exact OwnS.ne hol7 this dC _ _ _ _ he
 rw [← hll8] at hod8;obtain ⟨pi8,hpi8⟩:∃p,(l6.set (fndI (splA s) t.rs) (pk.1,{pk.2 with sz:=pi.2.sz}))[fndI s t.rs]? =some p:=⟨_,qr (by rw [hll8];omega)⟩
 have hpk8:(l6.set (fndI (splA s) t.rs) (pk.1,{pk.2 with sz:=pi.2.sz}))[fndI (splA s) t.rs]? =some (pk.1,{pk.2 with sz:=pi.2.sz}):=qg4 oM
 have d4:=hod8.ldr hpi8;have hha8:=hod8.ho pi8 (qz.2 ⟨_,hpi8⟩);obtain ⟨H9,x1,hod9,x3⟩:=hod8.str hpk8 hha8 oM
 haveI hh9:HN H9:=x3.hn;have hlo9:H9.lo=H.lo:=x3.lo.trans hlo8;have g9:=(x3.get (i:=H6.next) (by have:=w3.next;omega) hne).trans g8
 have hol9:OwL H9 lv6 H5.next:=OwnS.hq hol8 x3 fun j' o n c op' he=>by
  intro e;subst e;have:=((hx7.get hj).trans hgj);exact OwnS.ne hol7 this dC _ _ _ _ he
 have hx09:HX H H9:=HX.hp2 (HX.hp2 (hx06.trans hx7) w3 fun i hi=>oM) x3 fun i hi=>oM
 have g1:=(x3.get (i:=H.next+1) (by have:=w3.next;omega) oM).trans ((w3.get (i:=H.next+1) oM oM).trans ((hx7.get (i:=H.next+1) oM).trans g1))
 rw [hll8] at hod9;have F:=J11 @g7 @tb_1 @hix1 @hix2 @d3 @w1 @g8 @d4 @x1 @g9 @zda;refine uT ?_;have hd9:TbD H9 ⟨t.nx,setSz t.rs (fndI (splA s) t.rs) (get t.rs (fndI s t.rs)).sz⟩ (.sl j 0 l6.length l6.length op) lv6 _:=hod9.tbd (by
  rw [zbl,zbl,List.set_set,he6,hgk,hgi];rfl) hol9
 refine cR_f (zal (t:=⟨t.nx,setSz t.rs (fndI (splA s) t.rs) (get t.rs (fndI s t.rs)).sz⟩) hd9 (by rw [qm2,qm2];have:=h.ll;omega)) ?_
 rintro r10 H10 ⟨⟨v10,lv10,l10,rfl,hr10,hl10,hod10,hol10⟩,hx10⟩;have hx010:=hx09.trans hx10;have hn9:=hx09.next;have g1:=(hx10.get (i:=H.next+1) (by have:=x3.next;have:=w3.next;omega)).trans g1
 haveI:=hx010.hn;have hlo10:H10.lo=H.lo:=hx010.lo;have o10:=zbb (nn:=t.nx) (v:=v10) (lv:=lv10) (OwnS.one hod10.own).1 (OwnS.one hol10).1;have F:=J5 @g1 @zba @zda @zha @ld7;refine uT ?_;have hd10:TbD H10 ⟨t.nx,setSz t.rs (fndI (splA s) t.rs) (get t.rs (fndI s t.rs)).sz⟩ v10 lv10 l10:=hod10.tbd (hr10.trans hd9.eq) hol10;exact ⟨.inr ⟨_,v10,lv10,l10,rfl,rfl,hd10.put (HP.put _ _ _) g1 dC dC dC⟩,HX.put hx010 oM _⟩
set_option maxHeartbeats 16000000 in
theorem zwf1 {H:AH}[hn:HN H]{t:Tb}{v lv:AV}{l:List (AV×Rc)}{s:ByteArray}(h:DbIn H t v lv l) (hs:s.size<=100000) :
  FnE lookM 80 [tbA t.nx v lv,.str s] H fun r H'=>DbR H' r (dropT t s)/\HX H H':=by
 refine fI Tryz.f80 ?_;have hlo:=hn.lo;have hlen:=h.len;have e01:=hEq_f (oM:H.next≠H.next+1)
 have o1:=o0;have hnm:= @FnX.p _ _ _ _ (zku s oM)
 have F:=J4 @zba @zdb @zda @e01;refine uT ?_;refine cR_at (fun H1=>HX H H1/\H1.next=H.next+2/\H1.get H.next=some (tbx t.nx v lv)/\H1.get (H.next+1)=some (tbx 0 .nilSl .nilSl)) ?_ ?_
 ·exact ⟨hxt,rfl,by have F:=@e01;exact vT,zaa _⟩
 rintro H1 ⟨hx1,hn1,g0,g1⟩;haveI:=hx1.hn;refine cR_f (dchk (h.hx hx1)) ?_;rintro r2 H2 ⟨rfl,hx2⟩;have hx02:=hx1.trans hx2;have hn2:=hx2.next;have g0:=(hx2.get (i:=H.next) oM).trans g0
 have g1:=(hx2.get (i:=H.next+1) oM).trans g1
 haveI:=hx02.hn;have hlo2:H2.lo=H.lo:=hx02.lo;rw [zsa1];cases hc:ztb t with
 |false =>
  rw [zor hc];have F:=J6 @tb_bu @g1 @zba @zda @zha @ld7;refine uX ?_;exact dbad hx02 oM dC rfl
 |true =>
 rw [znr hc];unfold dropO;cases a1:partB s || snapB s with
 |false =>
  have F:=J8 @tb_bu @g1 @zba @zda @zha @ld7 @hnm @a1;refine uX ?_;exact dbad hx02 oM dC rfl
 |true =>
 have F:=J4 @hnm @a1 @g0 @zda;refine uT ?_;refine cR_f (dfnd (h.hx hx02) s) ?_;rintro r3 H3 ⟨rfl,hx3⟩;have hx03:=hx02.trans hx3;have hn3:=hx3.next;have g0:=(hx3.get (i:=H.next) oM).trans g0
 have g1:=(hx3.get (i:=H.next+1) oM).trans g1
 haveI:=hx03.hn;have hlo3:H3.lo=H.lo:=hx03.lo;cases a2:hasB s t.rs with
 |false =>
  have F:=J6 @tb_bu @g1 @zba @zda @zha @ld7;refine uX ?_;exact dbad hx03 oM dC rfl
 |true =>
 obtain ⟨q1,q2⟩:=zeb a2;have h3:=h.hx hx03;obtain ⟨p,hp,hp2,hph⟩:=h3.at q1;have hll:=h3.d.len;have hix:=ix44 (z:=44) (q:=fndI s t.rs) h3.d.rd.sl.is oM
 have hfa:=fa_el h3.d.rd.sl.is (oM:fndI s t.rs<l.length) 44 0
 have hld:=h3.d.rd.sl.fld hp (j:=0) (x:=.int .i64 p.2.id) rfl;have F:=J6 @g0 @zda @tb_1 @hix @hfa @hld;refine uT ?_;refine cR_f (busy_ok h3.d.rd.sl (by have:=h3.ll;omega)) ?_
 rintro r4 H4 ⟨rfl,hx4⟩;have hx04:=hx03.trans hx4;have hn4:=hx4.next;have g0:=(hx4.get (i:=H.next) oM).trans g0
 have g1:=(hx4.get (i:=H.next+1) oM).trans g1
 haveI:=hx04.hn;have hlo4:H4.lo=H.lo:=hx04.lo;rw [h.d.eq,hp2];cases a3:t.rs.any (drp (get t.rs (fndI s t.rs)).id) with
 |true =>
  have F:=J6 @tb_bu @g1 @zba @zda @zha @ld7;refine uT ?_;exact dbad hx04 oM dC rfl
 |false =>
 have F:=J2 @g0 @zda;refine uX ?_;refine cR_f (zal (h.hx hx04).d h.ll) ?_;rintro r6 H6 ⟨⟨v6,lv6,l6,rfl,hr6,hl6,hod6,hol6⟩,hx6⟩;have hx06:=hx04.trans hx6;have hn6:=hx6.next;have g1:=(hx6.get (i:=H.next+1) oM).trans g1
 haveI:=hx06.hn;have hlo6:H6.lo=H.lo:=hx06.lo;have hlpos:0<l6.length:=oM
 have o6:=zbb (nn:=t.nx) (v:=v6) (lv:=lv6) (OwnS.one hod6.own).1 (OwnS.one hol6).1;have he6:rcs l6=t.rs:=hr6.trans h.d.eq;obtain ⟨j,op,rfl,hNj,hj,cc,hgj⟩:=hod6.sl_of hlpos;have hop:op=true:=by
  rcases hod6.own.2 with ⟨hx,_⟩|⟨j',op',hx,_,_,_,hop⟩
  ·cases hx
  ·cases hx;exact hop oM
 subst hop;have hl60:H6.lo<=H6.next:=HN.lo;have s1:zxa lookM 49 false true true [.sl j 0 l6.length l6.length true,.int .i64 (fndI s t.rs:Nat),.int .i64 (fndI s t.rs:Nat)]=some (.sl j 0 (fndI s t.rs) (fndI s t.rs) false):=by
  show zfb lookM 49 (.sl j 0 l6.length l6.length true) none (some (.int .i64 (fndI s t.rs:Nat))) (some (.int .i64 (fndI s t.rs:Nat)))=_
  unfold zfb;simp only [maxOk,bndOf,uRs,sz3,natOf];rw [show Nat.ble 0 (fndI s t.rs)=true from qh (qh2 _),show Nat.ble (fndI s t.rs) (fndI s t.rs)=true from qh (qn _),show Nat.ble (fndI s t.rs) l6.length=true from qh oM]
  show some (AV.sl j (offOf (fndI s t.rs) 0 0 44) ((fndI s t.rs) - 0) ((fndI s t.rs) - 0) false)=_
  have:offOf (fndI s t.rs) 0 0 44=0:=by unfold offOf;split<;>rfl
  rw [this];rfl
 have s2:=zqn1 (L:=lookM) uRs sz3 j l6.length (fndI s t.rs+1) oM
 have hk1:((fndI s t.rs+1:Nat):Int)=(fndI s t.rs:Int)+1:=by push_cast;rfl
 rw [hk1] at s2;have F:=J6 @zdb @zba @zha @tb_1 @s1 @s2;refine uT ?_;refine zva1 (fun H7=>HX H6 H7/\H6.next<H7.next/\H7.get H6.next=some (tbx t.nx (.sl j 0 l6.length l6.length true) lv6)) ?_ ?_
 ·exact ⟨hxt,qc1 _,zfa _ _⟩
 rintro H7 ⟨hx7,hn7,g7⟩;have hx07:=hx06.trans hx7;have hod7:=hod6.hx hx7;have hol7:=OwnS.hx hol6 hx7;have g1:=(hx7.get (i:=H.next+1) oM).trans g1
 haveI:=hx07.hn;have hlo7:H7.lo=H.lo:=hx07.lo;generalize hk:fndI s t.rs=k at *
 have hkl:k<l6.length:=oM
 have c0:=hod7.own.1;have hr7:Row H7 j false true 84 44 (encC rcL l6):=by
  rcases hod7.own.2 with ⟨hx,_⟩|⟨j',op',hx,hr,_⟩
  ·cases hx
  ·cases hx;exact hr
 have hel:(l6.eraseIdx k).length+1=l6.length:=by rw [List.length_eraseIdx_of_lt hkl];omega
 have htk:(l6.take k) ++ l6.drop (k+1)=l6.eraseIdx k:=by rw [qk5]
 have hho:∀{H8:AH},(∀q,HoD H7 q->HoD H8 q)-> ∀q,q∈l6.eraseIdx k->HoD H8 q.1:=fun hf q hq=>hf _ (hod7.ho q (List.mem_of_mem_eraseIdx hq))
 have heq:rcs (l6.eraseIdx k)=t.rs.eraseIdx k:=by
  rw [← he6];show (l6.eraseIdx k).map _=(l6.map _).eraseIdx k
  rw [qk5,qk5,qe3,qm5,qn5]
 obtain ⟨v8,H8,a1',hx8p,hrd8⟩:∃v8 H8,appX 84 44 152 [.sl j 0 k k false,if k+1=l6.length then .ext 1 j (l6.length*44+1) else .sl j ((k+1)*44) (l6.length - (k+1)) (l6.length - (k+1)) true] H7=some (v8,H8)/\HP (·≠ j) H7 H8/\RdD H8 v8 (l6.eraseIdx k):=by
  by_cases hc2:k+1=l6.length
  ·rw [qj hc2]
   obtain ⟨cc,hg,hcc⟩:=hr7;obtain ⟨c',h3',h4'⟩:=Ce.over_ex (x:=Ce.lst []) (c:=cc) (o:=0+k*44) (by rw [hcc,c0];show 0+k*44+0<=_;omega)
   have h5':c'.l=cc.l:=by rw [h4'];show cc.l.take _ ++ [] ++ cc.l.drop _=_;rw [qy1];exact qn4 _ _
   refine ⟨.sl j 0 k k false,H7.put j (.cells c' 84 44 true false),?_,HP.put _ _ _,⟨.inr ⟨j,k,false,true,c'.l,by rw [show (l6.eraseIdx k).length=k from oM],by show j<H7.next;omega,?_,oM,by rw [h5',hcc,c0];omega,?_⟩,hho fun q hq=>hq.put (HP.put _ _ _) fun cc' op' ro e=>by rw [hg] at e;cases e⟩⟩
   ·rw [zbo (n:=0) (new:=.lst []) (by
     show (match Nat.beq 1 1 && Nat.ble 1 (l6.length*44+1) with|true=>some 0|false=>none)=some 0
     rw [show Nat.ble 1 (l6.length*44+1)=true from qh oM];rfl) (by
     show (match Nat.beq 1 1 && (Nat.ble 1 (l6.length*44+1) && Nat.beq 0 0) with|true=>some (Ce.lst [])|false=>none)=_
     rw [show Nat.ble 1 (l6.length*44+1)=true from qh oM];rfl) rfl]
    show brec _ (orec none (fun H'=>some (AV.sl j 0 (Nat.add k 0) k false,H')) (zne H7 j (Nat.add 0 (Nat.mul k 44)) (.lst []))) (Nat.ble (Nat.add k 0) k)=_
    rw [show Nat.ble (Nat.add k 0) k=true from qh (qn k),zcd]
    unfold AH.writeC;rw [show Nat.ble H7.lo j=true from qh oM,hg]
    have h3'':Ce.over (Ce.lst []) cc (Nat.add 0 (Nat.mul k 44))=some c':=h3';simp only [h3'',show (Ce.lst []).one=true from rfl]
    rfl
   ·exact ⟨c',zfa _ _,rfl⟩
   ·rw [h5',hcc,show (l6.eraseIdx k).length=k from oM,zqe zqa]
    rw [← htk,qw3 oM,qy1]
  ·rw [qg hc2]
   obtain ⟨m,hm⟩:∃m,k+1+m=l6.length:=⟨l6.length - (k+1),oM⟩
   rw [show l6.length - (k+1)=m from oM]
   obtain ⟨new,n1,n2⟩:=znp (z:=44) (m:=m) (c:=m) (op:=true) hr7 (o:=(k+1)*44) (n:=m) (by rw [c0,← qy4];exact qd2 44 oM)
   have hnl:new.l=(encC rcL l6).drop ((k+1)*44):=by
    rw [n2,qx];rw [qb2,c0];omega
   have hall:(encC rcL l6).all AV.oneCell=true:=by
    refine qb1.2 fun y hy=> ?_
    have key:∀l:List (AV×Rc),(∀q,q∈l->q.1.oneCell=true)-> ∀y,y∈encC rcL l->y.oneCell=true:=by
     intro l
     induction l with
     |nil=>intro _ y hy;cases hy
     |cons a l ih =>
      intro hq y hy;rw [zod] at hy;rcases qs2.1 hy with hy|hy
      ·exact qb1.1 (zbc a (hq a qt1)) y hy
      ·exact ih (fun q hq'=>hq q (qh1 _ hq')) y hy
    exact key l6 (fun q hq=>zwi (hod7.ho q hq).is) y hy
   have hone:new.one=true:=zhg (by rw [hnl];exact qb1.2 fun y hy=>qb1.1 hall y (qn3 hy))
   obtain ⟨H8,b1,b2,b3,b4⟩:=zlt (b:=152) (e:=84) (z:=44) (i:=j) (o:=0) (l:=k) (c:=k) (n:=m) rfl n1 hone hr7 (by rw [c0,qu1];exact qd2 44 oM) oM oM oM HN.hide
   refine ⟨_,H8,b1,b2.hp _,⟨.inr ⟨H7.next,k+m,true,true,_,by rw [show (l6.eraseIdx k).length=k+m from oM],oM,b4,oM,?_,?_⟩,hho fun q hq=>hq.hx b2⟩⟩
   ·rw [qt2,qy,qd1,hnl,qb2,c0];omega
   ·rw [qt2,hnl,zqe zqa,zof zqa,← zui,htk,show (l6.eraseIdx k).length*44=(encC rcL (l6.eraseIdx k)).length from (znc zqa _).symm,qm6]
 have hne:H6.next≠j:=oM
 have g8:=(hx8p.get (i:=H6.next) oM hne).trans g7
 have g18:=(hx8p.get (i:=H.next+1) oM oM).trans g1
 have hx08:=HX.hp2 hx07 hx8p fun i hi=>oM
 haveI:=hx08.hn;have hlo8:H8.lo=H.lo:=hx08.lo;have hn8:=hx8p.next;have hol8:OwL H8 lv6 H4.next:=OwnS.hq hol7 hx8p fun j' o n c op' he=>by
  intro e;subst e;obtain ⟨cc,hg,_⟩:=hr7;exact OwnS.ne hol7 hg dC _ _ _ _ he
 have hv8:v8.oneCell=true/\v8.toC= .lst [v8]:=by
  rcases hrd8.rd with ⟨rfl,_⟩|⟨_,_,_,_,_,rfl,_⟩<;>exact ⟨rfl,rfl⟩
 have hstR:=st1_w (L:=lookM) (t:=49) (i:=H6.next) (o:=1) (H:=H8) szR1 hv8.1 hv8.2 oM
 have hwrR:=wr1_l (i:=H6.next) (o:=1) (v:=v8) (H:=H8) (l:=tbL t.nx (.sl j 0 l6.length l6.length true) lv6) (e:=53) (z:=7) (op:=false) (by show 1<7;omega)
 have o8:=zbb (nn:=t.nx) (v:=v8) (lv:=lv6) hv8.1 (OwnS.one hol8).1;have e1n:=hEq_f (oM:H.next+1≠H6.next)
 refine ⟨(v8,H8),a1',?_⟩;have F:=J10 @hstR @g8 @hwrR @zgj @zda @e1n @g18 @zba @zha @ld7;refine uT ?_;have hd8:TbD H8 ⟨t.nx,t.rs.eraseIdx k⟩ v8 lv6 (l6.eraseIdx k):=⟨hrd8,heq,OwL.lvd hol8⟩;have q1:=zgm g8 (tbx t.nx v8 lv6);have g19:(H8.put H6.next (tbx t.nx v8 lv6)).get (H.next+1)=some (tbx 0 .nilSl .nilSl):=(zgc _ oM).trans g18
 exact ⟨.inr ⟨_,v8,lv6,_,rfl,rfl,(hd8.put q1 g8 dC dC dC).put (HP.put _ _ _) g19 dC dC dC⟩,HX.put (HX.put hx08 oM _) oM _⟩
theorem zyn1 {t:Tb}(hk:Ok t){i j:Nat}(hi:i<t.rs.length) (hj:j<t.rs.length) (hne:i≠j):(get t.rs i).nm≠(get t.rs j).nm:=by
 intro e;rcases qf2 i j with h|h
 ·have:=zyh hk.strict (get_lt hi) (get_lt hj) h
  rw [e,zvn] at this;cases this
 ·have:=zyh hk.strict (get_lt hj) (get_lt hi) oM
  rw [e,zvn] at this;cases this
theorem zlu (s:ByteArray):(splB s).size<=s.size:=by
 unfold splB;split
 ·exact (zeu s).2
 ·exact qh2 _
noncomputable def sq2 (c:C2):C2:=match c with| .seq _ b=>b|c=>c
theorem sq2_s (a b:C2):sq2 (.seq a b)=b:=rfl
theorem zxf1 (s to:ByteArray):zkj s to=((partB s && partB to) || (snapB s && (snapB to && decide (splA s=splA to)))):=rfl
theorem zzn1 {t:Tb}(hk:Ok t){s to:ByteArray}(hs:hasB s t.rs=true){k:Nat}(hkl:k<t.rs.length){x:Rc}
  (hx:x=if k=fndI s t.rs then {get t.rs k with nm:=to} else get t.rs k) :
  renD (get t.rs (fndI s t.rs)).id s to (get t.rs k)=if (partB s && partB to) && (snapB x.nm && decide (x.ow=(get t.rs (fndI s t.rs)).id)) then {x with nm:=to ++ sign ++ splB x.nm} else x:=by
 obtain ⟨q1,q2⟩:=zeb hs;by_cases h:k=fndI s t.rs
 ·rw [qj h] at hx
  subst hx;have e1:(get t.rs k).nm=s:=by rw [h];exact q2
  unfold renD;rw [qj e1];have:((partB s && partB to) && (snapB to && decide ((get t.rs k).ow=(get t.rs (fndI s t.rs)).id)))=false:=by
   cases h1:partB to with
   |false=>rw [ql3,qq2]
   |true =>
    cases h2:snapB to with
    |false=>rw [qq2,ql3]
    |true=>rw [zsj h2] at h1;cases h1
  exact (qg (by rw [this];decide)).symm
 ·rw [qg h] at hx
  subst hx;have e1:(get t.rs k).nm≠s:=by have:=zyn1 hk hkl q1 h;rw [q2] at this;exact this
  unfold renD;rw [qg e1]
theorem zyf1 {id:Int}{s to:ByteArray}(hto:to.size<=100000){x:Rc}(hx:x.nm.size<=100000):(renD id s to x).nm.size<=300000:=by
 unfold renD;split
 ·show to.size<=_;omega
 ·split
  ·show (to ++ sign ++ splB x.nm).size<=_
   have e1:(to ++ sign).size=to.size+1:=qm4;have e2:(to ++ sign ++ splB x.nm).size=(to ++ sign).size+(splB x.nm).size:=qm4;have:=zlu x.nm;omega
  ·omega
theorem zhj {l:List (AV×Rc)}{m r:List Rc}{k:Nat}{p:AV×Rc}(hl:rcs l=m.take k ++ r.drop k) (hm:k<m.length) (hr:k<r.length) (hp:m[k]? =some p.2):rcs (l.set k p)=m.take (k+1) ++ r.drop (k+1):=by
 rw [zbl,hl,List.set_append,qd1,qs3 oM,qg oM,qo7,qi4,hp,qi3,qg1]
 congr 1
 rw [qu6 hr,List.set_cons_zero,qi5]
theorem zao1 {α:Type}{l:List α}{k:Nat}{p:α}(h:l[k]? =some p):l.set k p=l:=by
 refine qm3 fun i=> ?_
 rw [List.getElem?_set];split
 ·next e =>
  subst e;have:=(qq.1 h).1;rw [qj this,h]
 ·rfl
theorem rcs_mid {l:List (AV×Rc)}{m r:List Rc}{k:Nat}{p:AV×Rc}(hl:rcs l=m.take k ++ r.drop k) (hm:k<m.length) (hr:k<r.length) (hp:l[k]? =some p):r[k]? =some p.2:=by
 have h1:(rcs l)[k]? =some p.2:=by rw [qi1,hp];rfl
 rw [hl,qw1 (by rw [qd1];omega),qd1,qs3 oM,qo7,qj2] at h1
 exact h1
set_option maxHeartbeats 32000000 in
theorem dren2 {H H2:AH}[hn:HN H][hn2':HN H2]{t:Tb}{v lv:AV}{l:List (AV×Rc)}{s to:ByteArray}(h:DbIn H t v lv l) (hs:s.size<=100000) (hto:to.size<=100000)
  (hx02:HX H H2) (hn2:H.next+2<=H2.next) (g0:H2.get H.next=some (tbx t.nx v lv)) (g1:H2.get (H.next+1)=some (tbx 0 .nilSl .nilSl)) (hk:Ok t) (ha:zkj s to=true) (T:Tr AV)
  (t1:gT T 1= .str s) (t2:gT T 2= .str to) (t3:gT T 3= .ptr H.next 0) (t6:gT T 6= .ptr (H.next+1) 0) (t14:gT T 14= .bool (partB s && partB to)) :
  RC lookM (sq2 (sq2 (sq2 (sq2 (sq2 f81c))))) [] T H2 (FnQ lookM [.cell 6 53,.tmp 7] fun r H'=>DbR H' r (renO t s to)/\HX H H'):=by
 have hlo:=hn.lo;have hlen:=h.len;have o1:=o0;have hlo2:H2.lo=H.lo:=hx02.lo;simp only [f81c,sq2_s];unfold renO;rw [ha,qj rfl];have F:=J7 @t1 @t2 @t3 @t6 @t14 @g0 @zda;refine uT ?_;clear F;refine cR_f (dfnd (h.hx hx02) s) ?_;rintro r3 H3 ⟨rfl,hx3⟩;have hx03:=hx02.trans hx3;have hn3:=hx3.next;have g0:=(hx3.get (i:=H.next) oM).trans g0
 have g1:=(hx3.get (i:=H.next+1) oM).trans g1
 haveI:=hx03.hn;have hlo3:H3.lo=H.lo:=hx03.lo;cases a2:hasB s t.rs with
 |false =>
  have F:=J11 @t1 @t2 @t3 @t6 @t14 @tb_bu @g1 @zba @zda @zha @ld7;refine uX ?_;clear F;exact dbad hx03 oM dC rfl
 |true =>
 obtain ⟨q1,q2⟩:=zeb a2;have F:=J7 @t1 @t2 @t3 @t6 @t14 @g0 @zda;refine uT ?_;clear F;refine cR_f (dfnd (h.hx hx03) to) ?_;rintro r4 H4 ⟨rfl,hx4⟩;have hx04:=hx03.trans hx4;have hn4:=hx4.next;have g0:=(hx4.get (i:=H.next) oM).trans g0
 have g1:=(hx4.get (i:=H.next+1) oM).trans g1
 haveI:=hx04.hn;have hlo4:H4.lo=H.lo:=hx04.lo;cases a3:hasB to t.rs with
 |true =>
  have F:=J11 @t1 @t2 @t3 @t6 @t14 @tb_bu @g1 @zba @zda @zha @ld7;refine uT ?_;clear F;exact dbad hx04 oM dC rfl
 |false =>
 have F:=J7 @t1 @t2 @t3 @t6 @t14 @g0 @zda;refine uX ?_;clear F;refine cR_f (zal (h.hx hx04).d h.ll) ?_;rintro r6 H6 ⟨⟨v6,lv6,l6,rfl,hr6,hl6,hod6,hol6⟩,hx6⟩;have hx06:=hx04.trans hx6;have hn6:=hx6.next;have g1:=(hx6.get (i:=H.next+1) oM).trans g1
 haveI:=hx06.hn;have hlo6:H6.lo=H.lo:=hx06.lo;have hll:=h.d.len;have hlpos:0<l6.length:=oM
 have o6:=zbb (nn:=t.nx) (v:=v6) (lv:=lv6) (OwnS.one hod6.own).1 (OwnS.one hol6).1;obtain ⟨pi,hpi⟩:∃p,l6[fndI s t.rs]? =some p:=⟨_,qr oM⟩
 have he6:rcs l6=t.rs:=hr6.trans h.d.eq;have hgi:pi.2=get t.rs (fndI s t.rs):=by have:=zxi hpi;rw [he6] at this;exact this.symm
 obtain ⟨j,op,rfl,hNj,hj,cc,hgj⟩:=hod6.sl_of hlpos;have hx7:HX H6 ((H6.new (tbx 0 .nilSl .nilSl)).put H6.next (tbx t.nx (.sl j 0 l6.length l6.length op) lv6)):=hxt;have hod7:OwD ((H6.new (tbx 0 .nilSl .nilSl)).put H6.next (tbx t.nx (.sl j 0 l6.length l6.length op) lv6)) (.sl j 0 l6.length l6.length op) l6 H4.next:=hod6.hx hx7;have g7:((H6.new (tbx 0 .nilSl .nilSl)).put H6.next (tbx t.nx (.sl j 0 l6.length l6.length op) lv6)).get H6.next=some (tbx t.nx (.sl j 0 l6.length l6.length op) lv6):=zfa _ _;have hn7:((H6.new (tbx 0 .nilSl .nilSl)).put H6.next (tbx t.nx (.sl j 0 l6.length l6.length op) lv6)).next=H6.next+1:=rfl
 have hh7:HN ((H6.new (tbx 0 .nilSl .nilSl)).put H6.next (tbx t.nx (.sl j 0 l6.length l6.length op) lv6)):=inferInstance;have hol7:=OwnS.hx hol6 hx7;have hix:∀q:Nat,q<l6.length->ixS 44 (.sl j 0 l6.length l6.length op) (.int .i64 (q:Nat))=some (elA 44 (.sl j 0 l6.length l6.length op) q):=fun q hq=>ix44 (H:=H6) hod6.rd.sl.is hq
 have hl:∀H',fstO (zea .len lookM [49] [.sl j 0 l6.length l6.length op] H')=some (.int .i64 l6.length):=fun H'=>zwc (H':=H') uRs hod6.rd.sl.is
 have hl60:H6.lo<=H6.next:=HN.lo;have hix1:=hix (fndI s t.rs) oM
 have F:=J8 @t1 @t2 @t3 @t6 @t14 @zdb @zba @zha;refine uT ?_;clear F;generalize ((H6.new (tbx 0 .nilSl .nilSl)).put H6.next (tbx t.nx (.sl j 0 l6.length l6.length op) lv6))=H7 at *
 have hlo7:H7.lo=H.lo:=hx7.lo.trans hlo6;have d3:=hod7.ld hpi (f:=0) (x:=.int .i64 pi.2.id) rfl;rw [qk4] at d3;obtain ⟨H8,w1,hod8,w3⟩:=hod7.st (t:=9) (x:=.str to) hpi (oM:1<44) (p':=(pi.1,{pi.2 with nm:=to})) rfl rfl sz9 rfl oM
 have hll8:(l6.set (fndI s t.rs) (pi.1,{pi.2 with nm:=to})).length=l6.length:=qm2
 haveI hh8:HN H8:=w3.hn;have hlo8:H8.lo=H.lo:=w3.lo.trans hlo7;have hne:H6.next≠j:=oM
 have g8:=(w3.get (i:=H6.next) oM hne).trans g7
 have hx08:HX H H8:=HX.hp2 (hx06.trans hx7) w3 fun i hi=>oM
 have g1:=(w3.get (i:=H.next+1) oM oM).trans ((hx7.get (i:=H.next+1) oM).trans g1)
 have hgj8:∃cc,H7.get j=some (.cells cc 84 44 op false):=⟨cc,(hx7.get hj).trans hgj⟩
 have F:=J10 @t1 @t2 @t3 @t6 @t14 @g7 @tb_1 @hix1 @d3 @w1;refine uT ?_;clear F;rw [hgi];obtain ⟨rs1,hrs1⟩:∃r,r=t.rs.set (fndI s t.rs) {get t.rs (fndI s t.rs) with nm:=to}:=⟨_,rfl⟩
 obtain ⟨mp,hmp⟩:∃r,r=t.rs.map (renD (get t.rs (fndI s t.rs)).id s to):=⟨_,rfl⟩
 have hm:mp.length=l6.length:=by rw [hmp,qt3];omega
 have hr:rs1.length=l6.length:=by rw [hrs1,qm2];omega
 refine rc_lp zvn1 (fun n T H'=> ∃k l',n+k=l6.length/\OwD H' (.sl j 0 l6.length l6.length op) l' H4.next/\l'.length=l6.length/\HP (·≠ j) H8 H'/\rcs l'=mp.take k ++ rs1.drop k /\
  gT T 2= .str to/\gT T 6= .ptr (H.next+1) 0/\gT T 14= .bool (partB s && partB to)/\gT T 19= .ptr H6.next 0/\gT T 20= .int .i64 (get t.rs (fndI s t.rs)).id/\gT T 21= .int .i64 k) l6.length ?_ ?_
 ·refine ⟨0,_,rfl,hod8,hll8,HP.refl _ _,?_,by have F:=@t2;exact vT,by have F:=@t6;exact vT,by have F:=@t14;exact vT,vT0,vT0,by refine uT0 ?_;rfl⟩
  rw [qp5,qk1,qt2,zbl,he6,hgi,hrs1]
 rintro n T H9 ⟨k,l',hnk,hod9,hll9,hp9,hrc9,t2,t6,t14,t19,t20,t21⟩;haveI hh9:HN H9:=hp9.hn;have hlo9:H9.lo=H.lo:=hp9.lo.trans hlo8;have hn8:=w3.next;have hn9:=hp9.next;have g9:=(hp9.get (i:=H6.next) oM hne).trans g8
 have g1:=(hp9.get (i:=H.next+1) oM oM).trans g1
 have hx09:HX H H9:=HX.hp2 hx08 hp9 fun i hi=>oM
 unfold f81l0;cases n with
 |zero =>
  have hk':k=l6.length:=oM
  rw [hk',qx oM,qw3 oM,qy1,hmp,← zoi1 hk ha a2] at hrc9
  have hnms:∀p,p∈l'->p.2.nm.size<=1000000:=fun p hp=>by
   have h1:p.2∈t.rs.map (Md.ren s to):=by rw [← hrc9];exact qd3.2 ⟨p,hp,rfl⟩
   rw [zoi1 hk ha a2] at h1;obtain ⟨x,hx,hxe⟩:=qd3.1 h1;rw [← hxe];have:=zyf1 (id:=(get t.rs (fndI s t.rs)).id) (s:=s) hto (h.nm x hx);omega
  have F:=J9 @t2 @t6 @t14 @t19 @t20 @t21 @g9 @tb_1 @hl;refine uT ?_;clear F;refine cR_f (zju (l:=l') hod9.rd oM hnms) ?_
  rintro r10 H10 ⟨⟨lo,hlo10,hlol,hod10⟩,hx10⟩;have hn10:=hx10.next;have hol8:OwL H8 lv6 H4.next:=OwnS.hq hol7 w3 fun j' o n c op' he=>by
   intro e;subst e;have:=(hx7.get hj).trans hgj;exact OwnS.ne hol7 this dC _ _ _ _ he
  have hol9:OwL H9 lv6 H4.next:=OwnS.hq hol8 hp9 fun j' o n c op' he=>by
   intro e;subst e;have:=(hx7.get hj).trans hgj;exact OwnS.ne hol7 this dC _ _ _ _ he
  have hol10:=OwnS.hx hol9 hx10;have g10:=(hx10.get (i:=H6.next) oM).trans g9
  have g1:=(hx10.get (i:=H.next+1) oM).trans g1
  have hx010:=hx09.trans hx10;haveI:=hx010.hn;have hlo10':H10.lo=H.lo:=hx010.lo;have hv:=OwnS.one hod10.own;have hstR:=st1_w (L:=lookM) (t:=49) (i:=H6.next) (o:=1) (H:=H10) szR1 hv.1 hv.2 oM
  have hwrR:=wr1_l (i:=H6.next) (o:=1) (v:=r10) (H:=H10) (l:=tbL t.nx (.sl j 0 l6.length l6.length op) lv6) (e:=53) (z:=7) (op:=false) (by show 1<7;omega)
  have o8:=zbb (nn:=t.nx) (v:=r10) (lv:=lv6) hv.1 (OwnS.one hol10).1;have e1n:=hEq_f (oM:H.next+1≠H6.next)
  have F:=J12 @t6 @t19 @hstR @g10 @hwrR @zgj @zda @e1n @g1 @zba @zha @ld7;refine uT ?_;clear F;rw [hrc9] at hlo10;have hd8:TbD H10 ⟨t.nx,sortL (t.rs.map (Md.ren s to))⟩ r10 lv6 lo:=⟨hod10.rd,hlo10,OwL.lvd hol10⟩;have q1:=zgm g10 (tbx t.nx r10 lv6);have g19:(H10.put H6.next (tbx t.nx r10 lv6)).get (H.next+1)=some (tbx 0 .nilSl .nilSl):=(zgc _ oM).trans g1
  exact ⟨.inr ⟨_,r10,lv6,_,rfl,rfl,(hd8.put q1 g10 dC dC dC).put (HP.put _ _ _) g19 dC dC dC⟩,HX.put (HX.put hx010 oM _) oM _⟩
 |succ n =>
  have hq:k<l'.length:=oM
  obtain ⟨p,hp⟩:∃p,l'[k]? =some p:=⟨_,qr hq⟩
  have hpx:=rcs_mid hrc9 oM oM hp
  have hpx2:p.2=if k=fndI s t.rs then {get t.rs k with nm:=to} else get t.rs k:=by
   by_cases e:k=fndI s t.rs
   ·rw [qj e]
    rw [hrs1,e,qg4 oM] at hpx
    rw [e];exact (qr3 hpx).symm
   ·rw [qg e]
    rw [hrs1,qe5 (fun x=>e x.symm),get_lt oM] at hpx
    exact (qr3 hpx).symm
  have hst:=zzn1 hk (to:=to) a2 (oM:k<t.rs.length) hpx2
  have hmk:mp[k]? =some (renD (get t.rs (fndI s t.rs)).id s to (get t.rs k)):=by rw [hmp,qi1,get_lt oM];rfl
  rw [hst] at hmk;have hsz:p.2.nm.size<=100000:=by
   rw [hpx2];split
   ·exact hto
   ·exact h.nm _ (zfm oM)
  clear hst hpx2 hpx;have hsp:= @FnX.p _ _ _ _ (zre p.2.nm oM)
  have hixk:=hix k oM
  have hod9':=hod9;rw [← hll9] at hod9;have e1:=hod9.ld hp (f:=1) (x:=.str p.2.nm) rfl;have e2:=hod9.ld hp (f:=40) (x:=.int .i64 p.2.ow) rfl;rw [hll9] at hod9;have stay:mp[k]? =some p.2-> ∃n',n'<n+1/\ ∃k_1 l',n'+k_1=l6.length/\OwD H9 (.sl j 0 l6.length l6.length op) l' H4.next/\l'.length=l6.length/\HP (fun x=> ¬x=j) H8 H9 /\
    rcs l'=mp.take k_1 ++ rs1.drop k_1/\AV.int .i64 ((k:Int)+1)=AV.int .i64 (k_1:Int):=fun hmm=>by
   have hl2:=zhj hrc9 oM oM hmm
   rw [zao1 hp] at hl2;exact ⟨n,oM,k+1,l',oM,hod9,hll9,hp9,hl2,by push_cast;rfl⟩
  cases b1:(partB s && partB to) with
  |false =>
   rw [b1] at t14 hmk;rw [qq2,qg dC] at hmk
   have F:=J13 @t2 @t6 @t14 @t19 @t20 @t21 @g9 @tb_1 @hl @hixk @hsp @e1 @e2;refine uT ?_;clear F;exact stay hmk
  |true =>
   rw [b1] at t14 hmk;rw [qo2] at hmk;cases b2:snapB p.2.nm with
   |false =>
    rw [b2,qq2,qg dC] at hmk
    have F:=J14 @t2 @t6 @t14 @t19 @t20 @t21 @g9 @tb_1 @hl @hixk @hsp @e1 @e2 @b2;refine uT ?_;clear F;exact stay hmk
   |true =>
    rw [b2,qo2] at hmk;cases b3:decide (p.2.ow=(get t.rs (fndI s t.rs)).id) with
    |false =>
     rw [b3,qg dC] at hmk
     have F:=J15 @t2 @t6 @t14 @t19 @t20 @t21 @g9 @tb_1 @hl @hixk @hsp @e1 @e2 @b2 @b3;refine uT ?_;clear F;exact stay hmk
    |true =>
     rw [b3,qj rfl] at hmk;have hss:=zlu p.2.nm;have k1:=fun t xo yo=> @zyt lookM t xo yo to ⟨#[64]⟩ (by show to.size+1<=_;omega)
     have k2:=fun t xo yo=> @zyt lookM t xo yo (to ++ ⟨#[64]⟩) (splB p.2.nm) (by
      have:(to ++ (⟨#[64]⟩:ByteArray)).size=to.size+1:=qm4;omega)
     rw [← hll9] at hod9;obtain ⟨H10,y1,hod10,y3⟩:=hod9.st (t:=9) (x:=.str (to ++ ⟨#[64]⟩ ++ splB p.2.nm)) hp (oM:1<44) (p':=(p.1,{p.2 with nm:=to ++ sign ++ splB p.2.nm})) rfl rfl sz9 rfl oM
     rw [hll9] at hod10;have F:=J16 @t2 @t6 @t14 @t19 @t20 @t21 @g9 @tb_1 @hl @hixk @hsp @e1 @e2 @b2 @b3 (J3 @k1 @k2 @y1);refine uT ?_;clear F;exact ⟨n,oM,k+1,_,oM,hod10,by rw [qm2];exact hll9,hp9.trans y3 (fun i _ hi=>⟨hi,hi⟩),zhj hrc9 oM oM hmk,by push_cast;rfl⟩
set_option maxHeartbeats 32000000 in
theorem zbo1 {H:AH}[hn:HN H]{t:Tb}{v lv:AV}{l:List (AV×Rc)}{s to:ByteArray}(h:DbIn H t v lv l) (hs:s.size<=100000) (hto:to.size<=100000) :
  FnE lookM 81 [tbA t.nx v lv,.str s,.str to] H fun r H'=>DbR H' r (renT t s to)/\HX H H':=by
 refine zud f81_eq rfl rfl ?_;have hlo:=hn.lo;have hlen:=h.len;have e01:=hEq_f (oM:H.next≠H.next+1)
 have o1:=o0;have hsp:= @FnX.p _ _ _ _ (zre s oM)
 have hsq:= @FnX.p _ _ _ _ (zre to oM)
 have hv1:= @FnX.p _ _ _ _ (zzk s oM)
 have hv2:= @FnX.p _ _ _ _ (zzk to oM)
 obtain ⟨REST2,hR2⟩:∃c,c=sq2 (sq2 (sq2 (sq2 (sq2 f81c)))):=⟨_,rfl⟩
 obtain ⟨REST,hR⟩:∃c,c=sq2 (sq2 (sq2 (sq2 f81c))):=⟨_,rfl⟩
 have hf:f81c=(.seq (.reg (bx_ false 53 7 (tO 0) 3<|al_ false (AV.toC (.agg [(.int .i64 (0)),.nilSl,(.int .i64 (0)),(.int .i64 (0)),(.int .i64 (0)),(.int .i64 (0)),.nilSl])) 53 7 6<|m_ (.con (.int .i64 (0))) 7<| .done))
  (.seq (.reg (m_ (tO 1) 26<|cl_ false 62 [(tO 26)] 27<|m_ (tO 27) 25<|ex_ 0 (tO 25) 28<|ex_ 1 (tO 25) 29<|ex_ 2 (tO 25) 30<|m_ (tO 28) 8<|m_ (tO 29) 9<|m_ (tO 30) 10<| .done))
  (.seq (.reg (m_ (tO 2) 32<|cl_ false 62 [(tO 32)] 33<|m_ (tO 33) 31<|ex_ 0 (tO 31) 34<|ex_ 1 (tO 31) 35<|ex_ 2 (tO 31) 36<|m_ (tO 34) 11<|m_ (tO 35) 12<|m_ (tO 36) 13<| .done))
  (.seq (.reg (m_ (tO 1) 37<|cl_ false 34 [(tO 37)] 38<|m_ (tO 38) 39<|o_ 39 true 40 (m_ (tO 2) 40)<|o_ 39 true 41 (cl_ false 34 [(tO 40)] 41)<|pk_ (tO 39) (tO 41) (.con (.bool false)) 42<|m_ (tO 42) 14<| .done))
  REST)))):=by rw [hR];rfl
 have hR':REST= .seq (.seq (.reg (lN_ 7 (tO 3) 43<|cl_ false 90 [(tO 43)] 44<|b_ lookM .neq 34 (.tmp 44) (.const (.int .i64 (0))) 45<|m_ (tO 45) 46<|o_ 46 false 47 (m_ (tO 14) 47)<|o_ 46 false 48 (nt_ (tO 47) 48)<|o_ 46 false 49 (m_ (tO 48) 49)<|o_ 49 true 50 (m_ (tO 10) 50)<|o_ 49 true 51 (nt_ (tO 50) 51)<|o_ 49 true 52 (m_ (tO 51) 52)<|o_ 52 false 53 (m_ (tO 13) 53)<|o_ 52 false 54 (nt_ (tO 53) 54)<|o_ 49 true 55 (pk_ (tO 52) (.con (.bool true)) (tO 54) 55)<|o_ 49 true 56 (m_ (tO 55) 56)<|o_ 56 false 57 (m_ (tO 8) 57)<|o_ 56 false 58 (m_ (tO 11) 58)<|o_ 56 false 59 (b_ lookM .neq 9 (.tmp 57) (.tmp 58) 59)<|o_ 49 true 60 (pk_ (tO 56) (.con (.bool true)) (tO 59) 60)<|o_ 46 false 61 (pk_ (tO 49) (tO 60) (.con (.bool false)) 61)<|pk_ (tO 46) (.con (.bool true)) (tO 61) 62<| .done))
 (.cond (tO 62) (.seq (.reg (bu_ lookM 53 [] [] 63<|sN_ false 7 (tO 6) (tO 63)<|m_ (.con (.int .i64 (2))) 7<| .done))
 .ret) .skip)) REST2:=by rw [hR,hR2];rfl
 have hx1:HX H ((H.new (tbx t.nx v lv)).new (tbx 0 .nilSl .nilSl)):=hxt;have rest:∀T:Tr AV,gT T 1= .str s->gT T 2= .str to->gT T 3= .ptr H.next 0->gT T 6= .ptr (H.next+1) 0->gT T 8= .str (splA s)->gT T 10= .bool (snapB s)->gT T 11= .str (splA to)->gT T 13= .bool (snapB to)->gT T 14= .bool (partB s && partB to) ->
   RC lookM REST [] T ((H.new (tbx t.nx v lv)).new (tbx 0 .nilSl .nilSl)) (FnQ lookM [.cell 6 53,.tmp 7] fun r H'=>DbR H' r (renT t s to)/\HX H H'):=by
  intro T t1 t2 t3 t6 t8 t10 t11 t13 t14;rw [hR'];clear hf hR hR';have F:=J3 @t3 @e01 @zda;refine uT ?_;clear F;refine cR_at (fun H1=>HX H H1/\H1.next=H.next+2/\H1.get H.next=some (tbx t.nx v lv)/\H1.get (H.next+1)=some (tbx 0 .nilSl .nilSl)) ?_ ?_
  ·exact ⟨hx1,rfl,by have F:=@e01;exact vT,zaa _⟩
  rintro H1 ⟨hx1,hn1,g0,g1⟩;haveI:=hx1.hn;refine cR_f (dchk (h.hx hx1)) ?_;rintro r2 H2 ⟨rfl,hx2⟩;have hx02:=hx1.trans hx2;have hn2:=hx2.next;have g0:=(hx2.get (i:=H.next) oM).trans g0
  have g1:=(hx2.get (i:=H.next+1) oM).trans g1
  haveI:=hx02.hn;have hlo2:H2.lo=H.lo:=hx02.lo;rw [zcj1];cases hc:ztb t with
  |false =>
   rw [zor hc];have F:=J15 @t1 @t2 @t3 @t6 @t8 @t10 @t11 @t13 @t14 @tb_bu @g1 @zba @zda @zha @ld7;refine uX ?_;clear F;exact dbad hx02 oM dC rfl
  |true =>
  rw [znr hc];have hk:=checkB_ok.1 hc;have hb:∀T,gT T 1= .str s->gT T 2= .str to->gT T 3= .ptr H.next 0->gT T 6= .ptr (H.next+1) 0->gT T 14= .bool (partB s && partB to)->zkj s to=true ->
    RC lookM REST2 [] T H2 (FnQ lookM [.cell 6 53,.tmp 7] fun r H'=>DbR H' r (renO t s to)/\HX H H'):=fun T t1 t2 t3 t6 t14 ha=>by
   rw [hR2];exact dren2 h hs hto hx02 oM g0 g1 hk ha T t1 t2 t3 t6 t14
  have no:zkj s to=false->renO t s to=bad 2:=fun e=>by unfold renO;rw [e];rfl
  clear hR2;rw [zxf1] at hb no;cases b1:(partB s && partB to) with
  |true =>
   rw [b1] at hb t14;have F:=J9 @t1 @t2 @t3 @t6 @t8 @t10 @t11 @t13 @t14;refine uT ?_;clear F;exact hb _ (by have F:=@t1;exact vT) (by have F:=@t2;exact vT) (by have F:=@t3;exact vT) (by have F:=@t6;exact vT) (by have F:=@t14;exact vT) rfl
  |false =>
  rw [b1] at hb no t14;cases b2:snapB s with
  |false =>
   rw [b2] at hb no t10;have F:=J15 @t1 @t2 @t3 @t6 @t8 @t10 @t11 @t13 @t14 @tb_bu @g1 @zba @zda @zha @ld7;refine uT ?_;clear F;exact dbad hx02 oM dC (no rfl)
  |true =>
  cases b3:snapB to with
  |false =>
   rw [b2,b3] at hb no;rw [b2] at t10;rw [b3] at t13;have F:=J15 @t1 @t2 @t3 @t6 @t8 @t10 @t11 @t13 @t14 @tb_bu @g1 @zba @zda @zha @ld7;refine uT ?_;clear F;exact dbad hx02 oM dC (no rfl)
  |true =>
  rw [b2] at t10;rw [b3] at t13;rw [b2,b3] at hb no;by_cases b4:splA s=splA to
  ·rw [qo b4] at hb
   have d4:decide (splA s=splA to)=true:=qo b4;have F:=J11 @t1 @t2 @t3 @t6 @t8 @t10 @t11 @t13 @t14 @zsd @d4;refine uT ?_;clear F;exact hb _ (by have F:=@t1;exact vT) (by have F:=@t2;exact vT) (by have F:=@t3;exact vT) (by have F:=@t6;exact vT) (by have F:=@t14;exact vT) rfl
  ·rw [qp b4] at no
   have d4:decide (splA s=splA to)=false:=qp b4;have F:=J16 @t1 @t2 @t3 @t6 @t8 @t10 @t11 @t13 @t14 @zsd @d4 @tb_bu @g1 @zba @zda (J2 @zha @ld7);refine uT ?_;clear F;exact dbad hx02 oM dC (no rfl)
 clear hR2 hR;rw [hf];cases p1:partB s with
 |true =>
  cases p2:partB to with
  |true =>
   rw [p1,p2] at rest;rw [p2] at hv2;have F:=J9 @hsp @hsq @hv1 @hv2 @p1 @zba @zdb @zda @e01;refine uT ?_;clear F;exact rest _ vT0 vT0 vT0 vT0 vT0 vT0 vT0 vT0 wT0
  |false =>
   rw [p1,p2] at rest;rw [p2] at hv2;have F:=J9 @hsp @hsq @hv1 @hv2 @p1 @zba @zdb @zda @e01;refine uT ?_;clear F;exact rest _ vT0 vT0 vT0 vT0 vT0 vT0 vT0 vT0 wT0
 |false =>
  rw [p1,qq2] at rest;have F:=J9 @hsp @hsq @hv1 @hv2 @p1 @zba @zdb @zda @e01;refine uT ?_;clear F;exact rest _ vT0 vT0 vT0 vT0 vT0 vT0 vT0 vT0 wT0
theorem kd_dec {t:Tb}(hk:Ok t){i:Nat}(hi:i<t.rs.length):decide ((get t.rs i).kd≠1)=decide ((get t.rs i).kd=2):=by
 have h:=hk.alone _ hi;rcases zzh h with h|h<;>rw [h.1]<;>decide
def VolR (t:Tb) (s:ByteArray) (fine:Bool) (r:AV):Prop :=
 (∃e,e≠0/\(∀f,zrd t s fine f=bad e)/\r= .tup [.int .i64 0,.int .i64 e]) \/
 (hasB s t.rs=true/\(∀f,zrd t s fine f=good ⟨t.nx,t.rs.set (fndI s t.rs) (f (get t.rs (fndI s t.rs)))⟩)/\r= .tup [.int .i64 (fndI s t.rs:Nat),.int .i64 0])
theorem ztp {H:AH}[hn:HN H]{t:Tb}{v lv:AV}{l:List (AV×Rc)}{s:ByteArray}{fine:Bool}(h:DbIn H t v lv l) (hs:s.size<=100000) :
  FnE lookM 98 [tbA t.nx v lv,.str s,.bool fine] H fun r H'=>VolR t s fine r/\HX H H':=by
 refine fI Tryz.f98 ?_;have hlo:=hn.lo;have hnm:= @FnX.p _ _ _ _ (zku s oM)
 have F:=J2 @zba @zda;refine uT ?_;refine cR_at (fun H1=>HX H H1/\H1.next=H.next+1/\H1.get H.next=some (tbx t.nx v lv)) ?_ ?_
 ·exact ⟨hxt,rfl,zaa _⟩
 rintro H1 ⟨hx1,hn1,g0⟩;haveI:=hx1.hn;refine cR_f (dchk (h.hx hx1)) ?_;rintro r2 H2 ⟨rfl,hx2⟩;have hx02:=hx1.trans hx2;have hn2:=hx2.next;have g0:=(hx2.get (i:=H.next) oM).trans g0
 haveI:=hx02.hn;have ec:∀f,zrd t s fine f=if ztb t then chgO t s fine f else bad 2:=fun f=>zdj1 t s fine f
 cases hc:ztb t with
 |false =>
  rw [zor hc];refine uX0 ?_;exact ⟨.inl ⟨2,dC,fun f=>by rw [ec,hc];rfl,rfl⟩,hx02⟩
 |true =>
 rw [znr hc];have hk:=checkB_ok.1 hc;have ec:∀f,zrd t s fine f=chgO t s fine f:=fun f=>by rw [ec,hc];rfl
 unfold chgO at ec;cases a1:partB s || snapB s with
 |false =>
  have F:=J2 @hnm @a1;refine uX ?_;exact ⟨.inl ⟨2,dC,fun f=>by rw [ec,a1,ql3];rfl,rfl⟩,hx02⟩
 |true =>
 cases a0:fine with
 |false =>
  have F:=J2 @hnm @a1;refine uX ?_;exact ⟨.inl ⟨2,dC,fun f=>by rw [← a0,ec,a0,qq2];rfl,rfl⟩,hx02⟩
 |true =>
 have ec:∀f,zrd t s true f=if hasB s t.rs then (if (get t.rs (fndI s t.rs)).kd=2 then bad 18 else good ⟨t.nx,t.rs.set (fndI s t.rs) (f (get t.rs (fndI s t.rs)))⟩) else bad 6:=fun f=>by
  rw [← a0,ec,a0,a1];rfl
 have F:=J4 @hnm @a1 @g0 @zda;refine uT ?_;refine cR_f (dfnd (h.hx hx02) s) ?_;rintro r3 H3 ⟨rfl,hx3⟩;have hx03:=hx02.trans hx3;have hn3:=hx3.next;have g0:=(hx3.get (i:=H.next) oM).trans g0
 haveI:=hx03.hn;cases a2:hasB s t.rs with
 |false =>
  refine uX0 ?_;exact ⟨.inl ⟨6,dC,fun f=>by rw [ec,a2];rfl,rfl⟩,hx03⟩
 |true =>
 obtain ⟨q1,q2⟩:=zeb a2;have h3:=h.hx hx03;obtain ⟨p,hp,hp2,hph⟩:=h3.at q1;have hix:=ix44 (z:=44) (q:=fndI s t.rs) h3.d.rd.sl.is (by have:=h3.d.len;omega)
 have hfa:=fa_el h3.d.rd.sl.is (show fndI s t.rs<l.length by have:=h3.d.len;omega) 44 2
 have hld:=h3.d.rd.sl.fld hp (j:=2) (x:=.int .i64 p.2.kd) rfl;rw [hp2] at hld;have hkd:=kd_dec hk q1;by_cases c2:(get t.rs (fndI s t.rs)).kd=2
 ·rw [qo c2] at hkd
  have F:=J6 @g0 @tb_1 @hix @hfa @hld @hkd;refine uT ?_;exact ⟨.inl ⟨18,dC,fun f=>by rw [ec,a2,qj rfl,qj c2],rfl⟩,hx03⟩
 ·rw [qp c2] at hkd
  have F:=J6 @g0 @tb_1 @hix @hfa @hld @hkd;refine uT ?_;exact ⟨.inr ⟨a2,fun f=>by rw [ec,a2,qj rfl,qg c2],rfl⟩,hx03⟩
theorem zeo (n a b:Int) (H:AH):FnE lookM 49 [.int .i64 n,.int .i64 a,.int .i64 b] H fun r H'=>r= .bool (wi n a b)/\H=H':=(d13_ok n a b H).mono fun _ _ h=>⟨h.1,h.2.symm⟩
set_option maxHeartbeats 16000000 in
theorem zco1 {H:AH}[hn:HN H]{t:Tb}{v lv:AV}{l:List (AV×Rc)}{s:ByteArray}{n:Int}(h:DbIn H t v lv l) (hs:s.size<=100000) :
  FnE lookM 82 [tbA t.nx v lv,.str s,.int .i64 n] H fun r H'=>DbR H' r (sizeT t s n)/\HX H H':=by
 refine fJ Tryz.f82 o82 ?_;have hlo:=hn.lo;have hlen:=h.len;have e01:=hEq_f (oM:H.next≠H.next+1)
 have o1:=o0;have F:=J4 @zba @zdb @zda @e01;refine uT ?_;refine rk_at (fun H1=>HX H H1/\H1.next=H.next+2/\H1.get H.next=some (tbx t.nx v lv)/\H1.get (H.next+1)=some (tbx 0 .nilSl .nilSl)) ?_ ?_
 ·exact ⟨hxt,rfl,by have F:=@e01;exact vT,zaa _⟩
 rintro H1 ⟨hx1,hn1,g0,g1⟩;haveI:=hx1.hn;refine rk_cw (js:= [H.next]) (R:=fun r H'=>r= .bool (wi n 1 64)/\H1=H') ?_ ?_ ?_
 ·rw [zsc]
  refine zga (o:=0) ?_ zza<;>(exact vT0)
 ·refine uT0 ?_;exact zeo n 1 64 H1
 rintro r2 H2 ⟨rfl,rfl⟩;refine ⟨zcb (HX.refl _) _ fun i hi=> ?_,?_⟩
 ·simp only [qn1] at hi
  subst hi;exact ⟨oM,_,_,_,_,_,g0⟩
 have F:=@zhd;refine uT ?_;refine cR_f (ztp (h.hx hx1) hs) ?_;rintro r2 H2 ⟨hv2,hx2⟩;have hx02:=hx1.trans hx2;have hn2:=hx2.next;have g0:=(hx2.get (i:=H.next) oM).trans g0
 have g1:=(hx2.get (i:=H.next+1) oM).trans g1
 haveI:=hx02.hn;have hlo2:H2.lo=H.lo:=hx02.lo;unfold sizeT;rcases hv2 with ⟨e,he,hch,rfl⟩|⟨a2,hch,rfl⟩
 ·have d1:decide (e≠0)=true:=qo he
  have F:=J7 @d1 @tb_bu @g1 @zba @zda @zha @ld7;refine uT ?_;exact dbad hx02 oM he (hch _)
 rw [hch];obtain ⟨q1,q2⟩:=zeb a2;have F:=J2 @g0 @zda;refine uT ?_;refine cR_f (zal (h.hx hx02).d h.ll) ?_;rintro r6 H6 ⟨⟨v6,lv6,l6,rfl,hr6,hl6,hod6,hol6⟩,hx6⟩;have hx06:=hx02.trans hx6;have hn6:=hx6.next;have g1:=(hx6.get (i:=H.next+1) oM).trans g1
 haveI:=hx06.hn;have hlo6:H6.lo=H.lo:=hx06.lo;have hll:=h.d.len;have hlpos:0<l6.length:=oM
 have o6:=zbb (nn:=t.nx) (v:=v6) (lv:=lv6) (OwnS.one hod6.own).1 (OwnS.one hol6).1;obtain ⟨pi,hpi⟩:∃p,l6[fndI s t.rs]? =some p:=⟨_,qr oM⟩
 have he6:rcs l6=t.rs:=hr6.trans h.d.eq;have hgi:pi.2=get t.rs (fndI s t.rs):=by have:=zxi hpi;rw [he6] at this;exact this.symm
 obtain ⟨j,op,rfl,hNj,hj,cc,hgj⟩:=hod6.sl_of hlpos;have hx7:HX H6 ((H6.new (tbx 0 .nilSl .nilSl)).put H6.next (tbx t.nx (.sl j 0 l6.length l6.length op) lv6)):=hxt;have hod7:=hod6.hx hx7;have g7:((H6.new (tbx 0 .nilSl .nilSl)).put H6.next (tbx t.nx (.sl j 0 l6.length l6.length op) lv6)).get H6.next=some (tbx t.nx (.sl j 0 l6.length l6.length op) lv6):=zfa _ _;have hn7:((H6.new (tbx 0 .nilSl .nilSl)).put H6.next (tbx t.nx (.sl j 0 l6.length l6.length op) lv6)).next=H6.next+1:=rfl;have hh7:HN ((H6.new (tbx 0 .nilSl .nilSl)).put H6.next (tbx t.nx (.sl j 0 l6.length l6.length op) lv6)):=inferInstance
 have hol7:=OwnS.hx hol6 hx7;have hix:ixS 44 (.sl j 0 l6.length l6.length op) (.int .i64 (fndI s t.rs:Nat))=some (elA 44 (.sl j 0 l6.length l6.length op) (fndI s t.rs)):=ix44 (H:=H6) hod6.rd.sl.is oM
 have hl60:H6.lo<=H6.next:=HN.lo;have F:=J3 @zdb @zba @zha;refine uT ?_;generalize ((H6.new (tbx 0 .nilSl .nilSl)).put H6.next (tbx t.nx (.sl j 0 l6.length l6.length op) lv6))=H7 at *
 have hlo7:H7.lo=H.lo:=hx7.lo.trans hlo6;obtain ⟨H8,w1,hod8,w3⟩:=hod7.st (t:=3) (x:=.int .i64 n) hpi (oM:3<44) (p':=(pi.1,{pi.2 with sz:=n})) rfl rfl sz3i rfl oM
 haveI hh8:HN H8:=w3.hn;have hlo8:H8.lo=H.lo:=w3.lo.trans hlo7;have hne:H6.next≠j:=oM
 have hgj7:=(hx7.get hj).trans hgj;have g8:=(w3.get (i:=H6.next) oM hne).trans g7
 have g1:=(w3.get (i:=H.next+1) oM oM).trans ((hx7.get (i:=H.next+1) oM).trans g1)
 have hol8:OwL H8 lv6 H2.next:=OwnS.hq hol7 w3 fun j' o n c op' he=>by
  intro e;subst e;exact OwnS.ne hol7 hgj7 dC _ _ _ _ he
 have hx08:HX H H8:=HX.hp2 (hx06.trans hx7) w3 fun i hi=>oM
 have e1n:=hEq_f (oM:H.next+1≠H6.next)
 have F:=J11 @g7 @tb_1 @hix @w1 @g8 @zda @e1n @g1 @zba @zha @ld7;refine uT ?_;have hd8:TbD H8 ⟨t.nx,t.rs.set (fndI s t.rs) {get t.rs (fndI s t.rs) with sz:=n}⟩ (.sl j 0 l6.length l6.length op) lv6 (l6.set (fndI s t.rs) (pi.1,{pi.2 with sz:=n})):=by
  refine ⟨?_,?_,OwL.lvd hol8⟩
  ·have:=hod8.rd;exact this
  ·rw [zbl,he6,hgi]
 exact ⟨.inr ⟨_,_,lv6,_,rfl,rfl,hd8.put (HP.put _ _ _) g1 dC dC dC⟩,HX.put hx08 oM _⟩
set_option maxHeartbeats 16000000 in
theorem dlim_ok {H:AH}[hn:HN H]{t:Tb}{v lv:AV}{l:List (AV×Rc)}{s:ByteArray}{q r:Int}(h:DbIn H t v lv l) (hs:s.size<=100000) :
  FnE lookM 83 [tbA t.nx v lv,.str s,.int .i64 q,.int .i64 r] H fun r' H'=>DbR H' r' (limT t s q r)/\HX H H':=by
 refine fJ Tryz.f83 o83 ?_;have hlo:=hn.lo;have hlen:=h.len;have e01:=hEq_f (oM:H.next≠H.next+1)
 have o1:=o0;have F:=J4 @zba @zdb @zda @e01;refine uT ?_;refine rk_at (fun H1=>HX H H1/\H1.next=H.next+2/\H1.get H.next=some (tbx t.nx v lv)/\H1.get (H.next+1)=some (tbx 0 .nilSl .nilSl)) ?_ ?_
 ·exact ⟨hxt,rfl,by have F:=@e01;exact vT,zaa _⟩
 rintro H1 ⟨hx1,hn1,g0,g1⟩;haveI:=hx1.hn;have cont:∀(T:Tr AV) (k:K2) (ss:List Kf) (Q:PostC),(∀v2 H2,VolR t s (wi q 0 64 && wi r 0 64) v2->HX H1 H2->RK lookM k ss (pS 22 v2 T) H2 Q) ->
   cR false lookM 98 [tbA t.nx v lv,.str s,.bool (wi q 0 64 && wi r 0 64)] H1 22 k ss T Q:=by
  intro T k ss Q hk;refine cR_f (ztp (h.hx hx1) hs) ?_;rintro v2 H2 ⟨hv2,hx2⟩;exact hk v2 H2 hv2 hx2
 refine rk_cw (js:= [H.next]) (R:=fun r H'=>r= .bool (wi q 0 64)/\H1=H') ?_ ?_ ?_
 ·rw [zsc]
  refine zga (o:=0) ?_ zza<;>(exact vT0)
 ·refine uT0 ?_;exact zeo q 0 64 H1
 rintro r2 H2 ⟨rfl,rfl⟩;refine ⟨zcb (HX.refl _) _ fun i hi=> ?_,?_⟩
 ·simp only [qn1] at hi
  subst hi;exact ⟨oM,_,_,_,_,_,g0⟩
 cases a1:wi q 0 64 with
 |false =>
  rw [a1] at cont;have F:=@zhd;refine uX ?_;refine cont _ _ _ _ ?_;intro r2 H2 hv2 hx2;have hx02:=hx1.trans hx2;have hn2:=hx2.next;have g1:=(hx2.get (i:=H.next+1) oM).trans g1
  haveI:=hx02.hn;have hlo2:H2.lo=H.lo:=hx02.lo;unfold limT;rw [a1];rcases hv2 with ⟨e,he,hch,rfl⟩|⟨a2,hch,rfl⟩
  ·have d1:decide (e≠0)=true:=qo he
   have F:=J7 @d1 @tb_bu @g1 @zba @zda @zha @ld7;refine uT ?_;exact dbad hx02 oM he (hch _)
  ·have h1:=hch (fun x=>x)
   unfold zrd at h1;rw [qq2,qq2,ql3] at h1;cases h1
 |true =>
 rw [a1] at cont;have F:=@zhd;refine uT ?_;refine rk_cw (js:= [H.next]) (R:=fun r' H'=>r'= .bool (wi r 0 64)/\H1=H') ?_ ?_ ?_
 ·rw [zsc]
  refine zga (o:=0) ?_ zza<;>(exact vT0)
 ·refine uT0 ?_;exact zeo r 0 64 H1
 rintro r2 H2 ⟨rfl,rfl⟩;refine ⟨zcb (HX.refl _) _ fun i hi=> ?_,?_⟩
 ·simp only [qn1] at hi
  subst hi;exact ⟨oM,_,_,_,_,_,g0⟩
 have F:=@zhd;refine uT ?_;refine cont _ _ _ _ ?_;intro r2 H2 hv2 hx2;have hx02:=hx1.trans hx2;have hn2:=hx2.next;have g0:=(hx2.get (i:=H.next) oM).trans g0
 have g1:=(hx2.get (i:=H.next+1) oM).trans g1
 haveI:=hx02.hn;have hlo2:H2.lo=H.lo:=hx02.lo;unfold limT;rw [a1];rcases hv2 with ⟨e,he,hch,rfl⟩|⟨a2,hch,rfl⟩
 ·have d1:decide (e≠0)=true:=qo he
  have F:=J7 @d1 @tb_bu @g1 @zba @zda @zha @ld7;refine uT ?_;exact dbad hx02 oM he (hch _)
 rw [hch];obtain ⟨q1,q2⟩:=zeb a2;have F:=J2 @g0 @zda;refine uT ?_;refine cR_f (zal (h.hx hx02).d h.ll) ?_;rintro r6 H6 ⟨⟨v6,lv6,l6,rfl,hr6,hl6,hod6,hol6⟩,hx6⟩;have hx06:=hx02.trans hx6;have hn6:=hx6.next;have g1:=(hx6.get (i:=H.next+1) oM).trans g1
 haveI:=hx06.hn;have hlo6:H6.lo=H.lo:=hx06.lo;have hll:=h.d.len;have hlpos:0<l6.length:=oM
 have o6:=zbb (nn:=t.nx) (v:=v6) (lv:=lv6) (OwnS.one hod6.own).1 (OwnS.one hol6).1;obtain ⟨pi,hpi⟩:∃p,l6[fndI s t.rs]? =some p:=⟨_,qr oM⟩
 have he6:rcs l6=t.rs:=hr6.trans h.d.eq;have hgi:pi.2=get t.rs (fndI s t.rs):=by have:=zxi hpi;rw [he6] at this;exact this.symm
 obtain ⟨j,op,rfl,hNj,hj,cc,hgj⟩:=hod6.sl_of hlpos;have hx7:HX H6 ((H6.new (tbx 0 .nilSl .nilSl)).put H6.next (tbx t.nx (.sl j 0 l6.length l6.length op) lv6)):=hxt;have hod7:=hod6.hx hx7;have g7:((H6.new (tbx 0 .nilSl .nilSl)).put H6.next (tbx t.nx (.sl j 0 l6.length l6.length op) lv6)).get H6.next=some (tbx t.nx (.sl j 0 l6.length l6.length op) lv6):=zfa _ _;have hn7:((H6.new (tbx 0 .nilSl .nilSl)).put H6.next (tbx t.nx (.sl j 0 l6.length l6.length op) lv6)).next=H6.next+1:=rfl;have hh7:HN ((H6.new (tbx 0 .nilSl .nilSl)).put H6.next (tbx t.nx (.sl j 0 l6.length l6.length op) lv6)):=inferInstance
 have hol7:=OwnS.hx hol6 hx7;have hix:ixS 44 (.sl j 0 l6.length l6.length op) (.int .i64 (fndI s t.rs:Nat))=some (elA 44 (.sl j 0 l6.length l6.length op) (fndI s t.rs)):=ix44 (H:=H6) hod6.rd.sl.is oM
 have hl60:H6.lo<=H6.next:=HN.lo;have F:=J3 @zdb @zba @zha;refine uT ?_;generalize ((H6.new (tbx 0 .nilSl .nilSl)).put H6.next (tbx t.nx (.sl j 0 l6.length l6.length op) lv6))=H7 at *
 have hlo7:H7.lo=H.lo:=hx7.lo.trans hlo6;obtain ⟨H8,w1,hod8,w3⟩:=hod7.st (t:=3) (x:=.int .i64 q) hpi (oM:42<44) (p':=(pi.1,{pi.2 with qu:=q})) rfl rfl sz3i rfl oM
 haveI hh8:HN H8:=w3.hn;have hlo8:H8.lo=H.lo:=w3.lo.trans hlo7;have hne:H6.next≠j:=oM
 have hgj7:=(hx7.get hj).trans hgj;have g8:=(w3.get (i:=H6.next) oM hne).trans g7
 have g1:=(w3.get (i:=H.next+1) oM oM).trans ((hx7.get (i:=H.next+1) oM).trans g1)
 have hol8:OwL H8 lv6 H2.next:=OwnS.hq hol7 w3 fun j' o n c op' he=>by
  intro e;subst e;exact OwnS.ne hol7 hgj7 dC _ _ _ _ he
 have hll8:(l6.set (fndI s t.rs) (pi.1,{pi.2 with qu:=q})).length=l6.length:=qm2
 have hpi8:(l6.set (fndI s t.rs) (pi.1,{pi.2 with qu:=q}))[fndI s t.rs]? =some (pi.1,{pi.2 with qu:=q}):=qg4 oM
 rw [← hll8] at hod8;obtain ⟨H9,x1,hod9,x3⟩:=hod8.st (t:=3) (x:=.int .i64 r) hpi8 (oM:43<44) (p':=(pi.1,{pi.2 with qu:=q,rs:=r})) rfl rfl sz3i rfl oM
 rw [hll8] at hod9;haveI hh9:HN H9:=x3.hn;have hlo9:H9.lo=H.lo:=x3.lo.trans hlo8;have hn8:=w3.next;have g9:=(x3.get (i:=H6.next) oM hne).trans g8
 have g1:=(x3.get (i:=H.next+1) oM oM).trans g1
 have hol9:OwL H9 lv6 H2.next:=OwnS.hq hol8 x3 fun j' o n c op' he=>by
  intro e;subst e;exact OwnS.ne hol7 hgj7 dC _ _ _ _ he
 have hx09:HX H H9:=HX.hp2 (HX.hp2 (hx06.trans hx7) w3 fun i hi=>oM) x3 fun i hi=>oM
 have e1n:=hEq_f (oM:H.next+1≠H6.next)
 have F:=J13 @g7 @tb_1 @hix @w1 @g8 @x1 @g9 @zda @e1n @g1 @zba @zha @ld7;refine uT ?_;have hd9:TbD H9 ⟨t.nx,t.rs.set (fndI s t.rs) {get t.rs (fndI s t.rs) with qu:=q,rs:=r}⟩ (.sl j 0 l6.length l6.length op) lv6 _:=hod9.tbd (by
  rw [zbl,zbl,List.set_set,he6,hgi]) hol9
 exact ⟨.inr ⟨_,_,lv6,_,rfl,rfl,hd9.put (HP.put _ _ _) g1 dC dC dC⟩,HX.put hx09 oM _⟩
abbrev lvb:ABlk:=.cells (.lst [.int .i64 0,.int .i64 0]) 3 1 false false
theorem ms2 (H:AH):zpc lookM 35 (.int .i64 2) (.int .i64 2) H=some (.sl H.next 0 2 2 false,H.new lvb):=kR
theorem tb_bu4 (i:Nat):zua lookM 53 (zipF [0,3] [.int .i64 1,.sl i 0 2 2 false])=some (tbA 1 .nilSl (.sl i 0 2 2 false)):=kR
def NewR (H H':AH) (r:AV):Prop:= ∃lv,r= .tup [tbA 1 .nilSl lv,.int .i64 0]/\LvD H' lv/\HX H H'
theorem zej1 {H:AH}[hn:HN H](b b':ABlk):LvD (((H.new b).new lvb).put H.next b') (.sl (H.next+1) 0 2 2 false):=by
 refine ⟨H.next+1,false,rfl,⟨.lst lvL,?_,rfl⟩,by show H.next+1<_;exact qc1 _⟩
 rw [zgc _ oM]
 exact zaa _
theorem zav {H:AH}[hn:HN H]:FnE lookM 21 [.int .i64 2] H fun r H'=>NewR H H' r:=by
 refine fI Tryz.f21 ?_;have hlo:=hn.lo;have o1:=o0;have e01:=hEq_f (oM:H.next≠H.next+1)
 have o2:=zbb (nn:=1) (v:=.nilSl) (lv:=.sl (H.next+1) 0 2 2 false) rfl rfl;have d1:decide ((2:Int)<2)=false:=rfl;have d2:decide ((8:Int)<2)=false:=rfl;have F:=J11 @zba @zdb @zda @zha @ld7 @ms2 @tb_bu4 @d1 @d2 @e01 @o2;refine uT ?_;exact ⟨_,rfl,zej1 _ _,hxt⟩
theorem dnew_ok {H:AH}[hn:HN H]:FnE lookM 22 [.int .i64 2] H fun r H'=>NewR H H' r:=by
 refine fI Tryz.f22 ?_;have hlo:=hn.lo;have o1:=o0;have e01:=hEq_f (oM:H.next≠H.next+1)
 have o2:=zbb (nn:=1) (v:=.nilSl) (lv:=.sl (H.next+1) 0 2 2 false) rfl rfl;have w:wi 2 2 8=true:=dC
 have F:=J11 @zba @zdb @zda @zha @ld7 @ms2 @tb_bu4 @d13 @w @e01 @o2;refine uT ?_;exact ⟨_,rfl,zej1 _ _,hxt⟩
abbrev us6 (a b c d e f:Bool):List AV:= [.bool a,.bool b,.bool c,.bool d,.bool e,.bool f]
abbrev us6A (a b c d e f:Bool):AV:=.agg [.bool a,.bool b,.bool c,.bool d,.bool e,.bool f]
def usA (u:Bool×Bool×Bool×Bool×Bool×Bool):AV:=us6A u.1 u.2.1 u.2.2.1 u.2.2.2.1 u.2.2.2.2.1 u.2.2.2.2.2
def uAllL:List AV:=us6 false false false false false false ++
 us6 true false true false false false ++
 us6 true false false false false false ++
 us6 true true false false false false ++
 us6 true false false false false false ++
 us6 true false false false false false ++
 us6 true true false false false false ++
 us6 true false true false false false ++
 us6 true false true true false false ++
 us6 true false false false false false ++
 us6 true true false false false false ++
 us6 false false false false true false ++
 us6 true false true true false false ++
 us6 true false true false false true ++
 us6 true false true true false false ++
 us6 true false false false false false ++
 us6 true false false false false false ++
 us6 false false false false false false ++
 us6 false false true false false false ++
 us6 false false false false false false ++
 us6 false false true false false false ++
 us6 false false true false false false ++
 us6 false false false false false false ++
 us6 false false false false false false ++
 us6 false false false false false false
def zUL:List AV:=List.replicate 150 (.bool false)
theorem zrb (a b c d e f:Bool):AV.toC (us6A a b c d e f)= .lst (us6 a b c d e f):=rfl
theorem zwb (a b c d e f:Bool) (e' z:Nat) (op ro:Bool):sbB (some (.cells (.lst (us6 a b c d e f)) e' z op ro)) 0 6=some (us6A a b c d e f):=zah rfl
theorem us_w (a b c d e f a' b' c' d' e' f':Bool) (i t:Nat) (op:Bool) (H:AH):wrN (some (.cells (.lst (us6 a b c d e f)) t 6 op false)) i 0 6 (.lst (us6 a' b' c' d' e' f')) H=some (H.put i (.cells (.lst (us6 a' b' c' d' e' f')) t 6 op false)):=wrN_l rfl rfl rfl
theorem ld6 (i o:Nat) (H:AH):zvb lookM 103 (.ptr i o) H=ldN 6 (.ptr i o) H:=zdh kR kR
theorem us_b0:zua lookM 103 (zipF [0,2] [.bool true,.bool true])=some (us6A true false true false false false):=kR
theorem us_b1:zua lookM 103 (zipF [0] [.bool true])=some (us6A true false false false false false):=kR
theorem us_b2:zua lookM 103 (zipF [0,1] [.bool true,.bool true])=some (us6A true true false false false false):=kR
theorem us_b3:zua lookM 103 (zipF [0,2,3] [.bool true,.bool true,.bool true])=some (us6A true false true true false false):=kR
theorem us_b4:zua lookM 103 (zipF [4] [.bool true])=some (us6A false false false false true false):=kR
theorem us_b5:zua lookM 103 (zipF [0,2,5] [.bool true,.bool true,.bool true])=some (us6A true false true false false true):=kR
theorem us_b6:zua lookM 103 (zipF [2] [.bool true])=some (us6A false false true false false false):=kR
theorem us_b7:zua lookM 103 (zipF [] [])=some (us6A false false false false false false):=kR
theorem us_bA:zua lookM 123 (zipF [1,2,3,4,5,6,7,8,9,10,11,12,13,14,15,16,18,20,21,24] [us6A true false true false false false,us6A true false false false false false,us6A true true false false false false,us6A true false false false false false,us6A true false false false false false,us6A true true false false false false,us6A true false true false false false,us6A true false true true false false,us6A true false false false false false,us6A true true false false false false,us6A false false false false true false,us6A true false true true false false,us6A true false true false false true,us6A true false true true false false,us6A true false false false false false,us6A true false false false false false,us6A false false true false false false,us6A false false true false false false,us6A false false true false false false,us6A false false false false false false])=some (.agg uAllL):=kR
theorem us_zA:zC lookM 123= .lst zUL:=kR
theorem us_cA:AV.toC (.agg uAllL)= .lst uAllL:=kR
theorem us_wA (i e:Nat) (op:Bool) (H:AH):wrN (some (.cells (.lst zUL) e 150 op false)) i 0 150 (.lst uAllL) H=some (H.put i (.cells (.lst uAllL) e 150 op false)):=wrN_l rfl rfl rfl
theorem us_at (e z:Nat) (op ro:Bool):∀k:Nat,k<25->sbB (some (.cells (.lst uAllL) e z op ro)) (k*6) 6=some (usA (usesO k))
 |0,_=>kR
 |1,_=>kR
 |2,_=>kR
 |3,_=>kR
 |4,_=>kR
 |5,_=>kR
 |6,_=>kR
 |7,_=>kR
 |8,_=>kR
 |9,_=>kR
 |10,_=>kR
 |11,_=>kR
 |12,_=>kR
 |13,_=>kR
 |14,_=>kR
 |15,_=>kR
 |16,_=>kR
 |17,_=>kR
 |18,_=>kR
 |19,_=>kR
 |20,_=>kR
 |21,_=>kR
 |22,_=>kR
 |23,_=>kR
 |24,_=>kR
 |k+25,h=>absurd h oM
theorem ixA_n {n z i o k:Nat}(h:k<n):ixA n z (.ptr i o) (.int .i64 (k:Nat))=some (.ptr i (o+k*z)):=by
 show (brec none (some (AV.ptr i (Nat.add o (Nat.mul k z)))) (Nat.blt k n))=_
 rw [show Nat.blt k n=true from qh h];rfl
theorem zfj1 {op:Int}(h:op<0\/25<=op):usesO op=(false,false,false,false,false,false):=by
 unfold usesO;rw [qg oM,qg oM,qg oM,qg oM,qg oM,qg oM,qg oM]
theorem uses_ok {H:AH}[hn:HN H](op:Int):FnE lookM 50 [.int .i64 op] H fun r H'=>r=usA (usesO op)/\HX H H':=by
 refine fI Tryz.f50 ?_;have hlo:=hn.lo;have e01:=hEq_f (oM:H.next≠H.next+1)
 cases a1:decide (op<0) with
 |true =>
  have h1:=qe a1;rw [zfj1 (.inl h1)];have F:=J16 @zrb @zwb @us_w @us_b0 @us_b1 @us_b2 @us_b3 @us_b4 @us_b5 @us_b6 @us_b7 @us_bA @us_zA @us_cA @us_wA (J3 @a1 @ld6 @e01);refine uT ?_;exact ⟨rfl,hxt⟩
 |false =>
 have h1:=qf a1;cases a2:decide (25<=op) with
 |true =>
  have h2:=qe a2;rw [zfj1 (.inr h2)];have F:=J16 @zrb @zwb @us_w @us_b0 @us_b1 @us_b2 @us_b3 @us_b4 @us_b5 @us_b6 @us_b7 @us_bA @us_zA @us_cA @us_wA (J4 @a1 @a2 @ld6 @e01);refine uT ?_;exact ⟨rfl,hxt⟩
 |false =>
 have h2:=qf a2;obtain ⟨k,rfl⟩:∃k:Nat,op=k:=⟨op.toNat,oM⟩
 have hk:k<25:=oM
 have hix:=fun i=> @ixA_n 25 6 i 0 k hk
 have hat:=fun e z op ro=>us_at e z op ro k hk
 have hu:usA (usesO (k:Int))=us6A (usesO (k:Int)).1 (usesO (k:Int)).2.1 (usesO (k:Int)).2.2.1 (usesO (k:Int)).2.2.2.1 (usesO (k:Int)).2.2.2.2.1 (usesO (k:Int)).2.2.2.2.2:=rfl;rw [hu] at hat ⊢
 have F:=J16 @zrb @zwb @us_w @us_b0 @us_b1 @us_b2 @us_b3 @us_b4 @us_b5 @us_b6 @us_b7 @us_bA @us_zA @us_cA @us_wA (J6 @a1 @a2 @ld6 @e01 @hix @hat);refine uT ?_;exact hxt
def LenV (v:AV) (n:Nat):Prop:=(∀{t e:Nat},lookM.under t=some (.slice e)-> ∀H:AH,fstO (zea .len lookM [t] [v] H)=some (.int .i64 n))/\v.oneCell=true/\v.toC= .lst [v]
theorem zmu {H:AH}{v:AV}{n:Nat}(h:IsSl H v n):LenV v n:=by
 refine ⟨fun {t e} ht H'=>zwc ht h,?_⟩
 rcases h with ⟨rfl,_⟩|⟨i,o,c,op,rfl,_⟩<;>exact ⟨rfl,rfl⟩
def SlT (H:AH) (v:AV) (l:List ByteArray):Prop:=LenV v l.length/\(0<l.length->SlR H v l.length fun k=>.str ((l[k]?).getD ⟨#[]⟩))
theorem SlT.is {H:AH}{v:AV}{l:List ByteArray}(h:SlT H v l) (h0:0<l.length):IsSl H v l.length:=(h.2 h0).is
theorem SlT.hx {H H':AH}{v:AV}{l:List ByteArray}(h:SlT H v l) (hx:HX H H'):SlT H' v l:=⟨h.1,fun h0=>(h.2 h0).hx hx⟩
theorem uTs:lookM.under 29=some (.slice 9):=kR
theorem uBs:lookM.under 30=some (.slice 5):=kR
theorem uOs:lookM.under 22=some (.slice 32):=kR
theorem SlT.at {H:AH}{v:AV}{l:List ByteArray}(h:SlT H v l){k:Nat}{s:ByteArray}(hk:l[k]? =some s):ld1 (elA 1 v k) H=some (.str s):=by
 have hl:=(qq.1 hk).1;have:=(h.2 oM).el k hl
 rw [hk] at this;exact this
theorem zxj {α:Type}{f:α->Bool}{l:List α}{q:Nat}{r:α}(h:l[q]? =some r):(l.take (q+1)).any f=((l.take q).any f || f r):=by
 rw [qi4,h,qi3,List.any_append];simp
theorem zup {α:Type}{f:α->Bool}{l:List α}{q:Nat}{r:α}(h:l[q]? =some r) (hf:f r=true):l.any f=true:=qf4.2 ⟨r,qz.2 ⟨q,h⟩,hf⟩
theorem idxS_ok {H:AH}[hn:HN H]{v:AV}{l:List ByteArray}{p:ByteArray->Bool}{g:Nat}{caps:List AV}(hsl:SlT H v l) (hlen:l.length<=1000000)
  (hp:∀(H1:AH) (s:ByteArray),FnX lookM g (.str s::caps) H1 (.bool (p s)) H1) :
  FnE lookM 70 [v,.fn (.func g) [] caps] H fun r H'=>(∃n:Int,r= .int .i64 n/\decide (0<=n)=l.any p)/\HX H H':=by
 refine fI Tryz.f70 ?_;have hl:=fun H'=>hsl.1.1 uTs H'
 have F:=@hl;refine uT ?_;refine rc_l (fun n T H'=> ∃q,n+q=l.length/\H'=H/\gT T 0=v/\gT T 1= .fn (.func g) [] caps/\gT T 7= .int .i64 l.length/\gT T 8= .int .i64 q/\(l.take q).any p=false) l.length ?_ ?_
 ·exact ⟨0,rfl,rfl,vT0,vT0,vT0,by refine uT0 ?_;rfl,by simp⟩
 ·rintro n T H' ⟨q,hnq,rfl,g0,g1,g7,g8,hall⟩
  cases n with
  |zero =>
   rw [qx oM] at hall
   have F:=J4 @g0 @g1 @g7 @g8;refine uT ?_;exact ⟨⟨-1,rfl,by rw [hall];rfl⟩,HX.refl _⟩
  |succ n =>
   have hq:q<l.length:=oM
   have hk:l[q]? =some l[q]:=qr hq;have hix:=ix44 (z:=1) (q:=q) (hsl.is oM) hq
   have hld:=hsl.at hk;generalize l[q]=s at *
   have hc:= @FnX.p _ _ _ _ (fun H1=>hp H1 s)
   cases hpr:p s with
   |true =>
    have F:=J8 @g0 @g1 @g7 @g8 @hix @hld @hc @hpr;refine uX ?_;refine ⟨⟨q,rfl,?_⟩,HX.refl _⟩;rw [zup hk hpr];exact qo (Int.natCast_nonneg q)
   |false =>
    have F:=J8 @g0 @g1 @g7 @g8 @hix @hld @hc @hpr;refine uX ?_;exact ⟨n,oM,q+1,oM,by push_cast;rfl,by rw [zxj hk,hall,hpr];rfl⟩
theorem zdo1 {H:AH}[hn:HN H]{v:AV}{l:List ByteArray}{p:ByteArray->Bool}{g:Nat}{caps:List AV}(hsl:SlT H v l) (hlen:l.length<=1000000)
  (hp:∀(H1:AH) (s:ByteArray),FnX lookM g (.str s::caps) H1 (.bool (p s)) H1) :
  FnE lookM 53 [v,.fn (.func g) [] caps] H fun r H'=>r= .bool (l.any p)/\HX H H':=by
 refine fI Tryz.f53 ?_;refine uT0 ?_;refine cR_f (idxS_ok hsl hlen hp) ?_;rintro r H1 ⟨⟨n,rfl,hn2⟩,hx⟩;have F:=@hn2;refine uT ?_;exact hx
def longB (s:ByteArray):Bool:=decide (48<(s.size:Int))
theorem zgj1 (s:ByteArray) (H:AH):FnX lookM 51 [.str s] H (.bool (longB s)) H:=by
 refine fI Tryz.f51 ?_;have F:=@ls9;refine uT ?_;rfl
theorem zab1 (n:Int) (H:AH):FnX lookM 52 [.int .i64 n] H (.bool (wi n 0 maxN)) H:=by
 refine fI Tryz.f52 ?_;rw [wi_d];cases h1:decide (0<=n) with
 |false=>have F:=@h1;refine uT ?_;rfl
 |true=>have F:=@h1;refine uT ?_;rfl
theorem zbb1 (n:Int) (H:AH):FnX lookM 60 [.int .i64 n] H (.bool (wi n 0 maxN)) H:=by
 refine fI Tryz.f60 ?_;rw [wi_d];cases h1:decide (0<=n) with
 |false=>have F:=@h1;refine uT ?_;rfl
 |true=>have F:=@h1;refine uT ?_;rfl
abbrev odL (o:Od) (lv bv:AV):List AV:= [.int .i64 o.op,.str o.nm,.str o.to,.int .i64 o.n,.int .i64 o.m,lv,bv]
abbrev odA (o:Od) (lv bv:AV):AV:=.agg [.int .i64 o.op,.str o.nm,.str o.to,.int .i64 o.n,.int .i64 o.m,lv,bv]
abbrev odx (o:Od) (lv bv:AV):ABlk:=.cells (.lst (odL o lv bv)) 32 7 false false
theorem zvf (o:Od) (lv bv:AV):AV.toC (odA o lv bv)= .lst (odL o lv bv):=rfl
theorem od_0 (o:Od) (lv bv:AV):nth (odL o lv bv) 0=some (.int .i64 o.op):=rfl
theorem od_1 (o:Od) (lv bv:AV):nth (odL o lv bv) 1=some (.str o.nm):=rfl
theorem od_2 (o:Od) (lv bv:AV):nth (odL o lv bv) 2=some (.str o.to):=rfl
theorem od_3 (o:Od) (lv bv:AV):nth (odL o lv bv) 3=some (.int .i64 o.n):=rfl
theorem od_4 (o:Od) (lv bv:AV):nth (odL o lv bv) 4=some (.int .i64 o.m):=rfl
theorem od_5 (o:Od) (lv bv:AV):nth (odL o lv bv) 5=some lv:=rfl
theorem od_6 (o:Od) (lv bv:AV):nth (odL o lv bv) 6=some bv:=rfl
theorem zgh (o:Od) (lv bv:AV) (e z:Nat) (op ro:Bool):sbB (some (.cells (.lst (odL o lv bv)) e z op ro)) 0 7=some (odA o lv bv):=zah rfl
theorem us_0 (a b c d e f:Bool):nth (us6 a b c d e f) 0=some (.bool a):=rfl
theorem us_1 (a b c d e f:Bool):nth (us6 a b c d e f) 1=some (.bool b):=rfl
theorem us_2 (a b c d e f:Bool):nth (us6 a b c d e f) 2=some (.bool c):=rfl
theorem us_3 (a b c d e f:Bool):nth (us6 a b c d e f) 3=some (.bool d):=rfl
theorem us_4 (a b c d e f:Bool):nth (us6 a b c d e f) 4=some (.bool e):=rfl
theorem us_5 (a b c d e f:Bool):nth (us6 a b c d e f) 5=some (.bool f):=rfl
structure OdIn (H:AH) (o:Od) (lv bv:AV):Prop where
 l:SlT H lv o.l
 b:LenV bv o.b.length
 ll:o.l.length<=1000000
 bl:o.b.length<=1000000
theorem OdIn.hx {H H':AH}{o:Od}{lv bv:AV}(h:OdIn H o lv bv) (hx:HX H H'):OdIn H' o lv bv:=⟨h.l.hx hx,h.b,h.ll,h.bl⟩
structure OrdP (o:Od):Prop where
 op1:¬o.op<1
 op2:¬24<o.op
 n:wi o.n 0 maxN=true
 m:wi o.m 0 maxN=true
 l:¬16<(o.l.length:Int)
 b:¬16384<(o.b.length:Int)
 nm:longB o.nm=false
 to:longB o.to=false
 ls:o.l.any longB=false
 u1:o.nm=⟨#[]⟩\/(usesO o.op).1=true
 u2:o.to=⟨#[]⟩\/(usesO o.op).2.1=true
 u3:o.n=0\/(usesO o.op).2.2.1=true
 u4:o.m=0\/(usesO o.op).2.2.2.1=true
 u5:¬0<(o.l.length:Int)\/(usesO o.op).2.2.2.2.1=true
 u6:¬0<(o.b.length:Int)\/(usesO o.op).2.2.2.2.2=true
theorem zeo1 {s:ByteArray}:s.size=0↔s=⟨#[]⟩:=by
 constructor
 ·intro h
  cases s with
  |mk a =>
   have:a.size=0:=h;rw [Array.eq_empty_of_size_eq_zero this]
 ·rintro rfl;rfl
theorem longB_f {s:ByteArray}:longB s=false↔s.size<=48:=by
 unfold longB;rw [qa4];omega
theorem zcl (o:Od):ordOk o=true↔OrdP o:=by
 unfold ordOk;simp only [qm,qg5,qs,qb1,zeo1];constructor
 ·rintro ⟨h1,h2,h3,h4,h5,h6,h7,h8,h9,h10,h11,h12,h13,h14⟩
  rw [wi_d,qm,qs,qs] at h1;refine ⟨oM,oM,h2,h3,oM,oM,longB_f.2 h6,longB_f.2 h7,?_,h9,h10,h11,h12,?_,?_⟩
  ·rw [qj7]
   intro s hs;rw [longB_f.2 (h8 s hs)];decide
  ·rcases h13 with h|h
   ·exact .inl oM
   ·exact .inr h
  ·rcases h14 with h|h
   ·exact .inl oM
   ·exact .inr h
 ·intro h
  refine ⟨by rw [wi_d,qm,qs,qs];exact ⟨by have:=h.op1;omega,by have:=h.op2;omega⟩,h.n,h.m,by have:=h.l;omega,by have:=h.b;omega,longB_f.1 h.nm,longB_f.1 h.to,fun s hs=> ?_,h.u1,h.u2,h.u3,h.u4,?_,?_⟩
  ·have:=qj7.1 h.ls s hs
   exact longB_f.1 (by cases hl:longB s with|false=>rfl|true=>exact absurd hl this)
  ·rcases h.u5 with h|h
   ·exact .inl oM
   ·exact .inr h
  ·rcases h.u6 with h|h
   ·exact .inl oM
   ·exact .inr h
def ordI (o:Od):Int:=if ordOk o then 0 else 2
theorem zhj1 {o:Od}(h:¬OrdP o):ordI o=2:=by
 unfold ordI;cases e:ordOk o with
 |false=>rfl
 |true=>exact absurd ((zcl o).1 e) h
theorem zcb1 {o:Od}(h:OrdP o):ordI o=0:=by
 unfold ordI;rw [(zcl o).2 h];rfl
theorem gR_at {x:AV}{w:Bool}{L:Lk}{d:Nat}{a b:K2}{s:List Kf}{T:Tr AV}{H:AH}{Q:PostC}(P:Tr AV->Prop) (hp:P T) (hk:∀T,P T->gR x w L d a b s T H Q):gR x w L d a b s T H Q:=hk T hp
theorem join3 {x u:Bool}{G C:Prop}(h0:x=false->C->G) (h1:x=true->u=true->C->G) (h2:x=true->u=false->G) (hc:(x=false\/u=true)->C):G:=by
 cases x with
 |false=>exact h0 rfl (hc (.inl rfl))
 |true =>
  cases u with
  |true=>exact h1 rfl rfl (hc (.inr rfl))
  |false=>exact h2 rfl rfl
set_option maxHeartbeats 32000000 in
theorem zzf1 {H:AH}[hn:HN H]{o:Od}{lv bv:AV}(h:OdIn H o lv bv) :
  FnE lookM 28 [odA o lv bv] H fun r H'=>r= .int .i64 (ordI o)/\HX H H':=by
 refine fI Tryz.f28 ?_;have hlo:=hn.lo;have hw:=fun n=> @FnX.p _ _ _ _ (zab1 n)
 have hlg:=fun s=> @FnX.p _ _ _ _ (zgj1 s)
 have hl:=fun H'=>h.l.1.1 uTs H'
 have hb:=fun H'=>h.b.1 uBs H'
 have F:=J2 @zvf @od_0;refine uT ?_;clear F;refine cR_at (fun H1=>HX H H1/\H1.next=H.next+1/\H1.get H.next=some (odx o lv bv)) ?_ ?_
 ·exact ⟨hxt,rfl,zaa _⟩
 rintro H1 ⟨hx1,hn1,g0⟩;haveI:=hx1.hn;refine cR_f (uses_ok o.op) ?_;rintro r2 H2 ⟨rfl,hx2⟩;have hx02:=hx1.trans hx2;have hn2:=hx2.next;have g0:=(hx2.get (i:=H.next) oM).trans g0
 haveI:=hx02.hn;have no:¬OrdP o-> ∀H',HX H H'->AV.int .i64 2= .int .i64 (ordI o)/\HX H H':=fun h H' hx'=>⟨by rw [zhj1 h],hx'⟩
 generalize hu:usesO o.op=u at *
 obtain ⟨u1,u2,u3,u4,u5,u6⟩:=u;have hua:usA (u1,u2,u3,u4,u5,u6)=us6A u1 u2 u3 u4 u5 u6:=rfl;rw [hua];have hlo2:H2.lo<=H2.next:=HN.lo;have F:=J2 @zrb @us_w;refine uT ?_;clear F;have hx3:HX H ((H2.new (.cells (.lst (us6 false false false false false false)) 103 6 false false)).put H2.next (.cells (.lst (us6 u1 u2 u3 u4 u5 u6)) 103 6 false false)):=by have K:=hx02;exact hxk
 have gu:((H2.new (.cells (.lst (us6 false false false false false false)) 103 6 false false)).put H2.next (.cells (.lst (us6 u1 u2 u3 u4 u5 u6)) 103 6 false false)).get H2.next=some (.cells (.lst (us6 u1 u2 u3 u4 u5 u6)) 103 6 false false):=zfa _ _;have g3:((H2.new (.cells (.lst (us6 false false false false false false)) 103 6 false false)).put H2.next (.cells (.lst (us6 u1 u2 u3 u4 u5 u6)) 103 6 false false)).get H.next=some (odx o lv bv):=by have F:=@g0;exact vT
 have hn23:H2.next<((H2.new (.cells (.lst (us6 false false false false false false)) 103 6 false false)).put H2.next (.cells (.lst (us6 u1 u2 u3 u4 u5 u6)) 103 6 false false)).next:=qc1 _;generalize ((H2.new (.cells (.lst (us6 false false false false false false)) 103 6 false false)).put H2.next (.cells (.lst (us6 u1 u2 u3 u4 u5 u6)) 103 6 false false))=H3 at *
 haveI:=hx3.hn;have hn3:=hx3.next;have F:=J2 @g0 @od_0;refine uT ?_;clear F;cases a1:decide (o.op<1) with
 |true=>refine uT0 ?_;exact no (fun h=>h.op1 (qe a1)) _ hx3
 |false =>
 have F:=J2 @g3 @od_0;refine uT ?_;clear F;cases a2:decide (24<o.op) with
 |true=>refine uT0 ?_;exact no (fun h=>h.op2 (qe a2)) _ hx3
 |false =>
 have F:=J3 @g3 @od_3 @hw;refine uT ?_;clear F;cases a3:wi o.n 0 maxN with
 |false=>refine uT0 ?_;exact no (fun h=>by rw [h.n] at a3;cases a3) _ hx3
 |true =>
 have F:=J3 @g3 @od_4 @hw;refine uT ?_;clear F;cases a4:wi o.m 0 maxN with
 |false=>refine uT0 ?_;exact no (fun h=>by rw [h.m] at a4;cases a4) _ hx3
 |true =>
 have F:=J3 @g3 @od_5 @hl;refine uT ?_;clear F;cases a5:decide (16<(o.l.length:Int)) with
 |true=>refine uT0 ?_;exact no (fun h=>h.l (qe a5)) _ hx3
 |false =>
 have F:=J3 @g3 @od_6 @hb;refine uT ?_;clear F;cases a6:decide (16384<(o.b.length:Int)) with
 |true=>refine uT0 ?_;exact no (fun h=>h.b (qe a6)) _ hx3
 |false =>
 have F:=J3 @g3 @od_1 @hlg;refine uX ?_;clear F;cases a7:longB o.nm with
 |true=>refine uT0 ?_;exact no (fun h=>by rw [h.nm] at a7;cases a7) _ hx3
 |false =>
 have F:=J3 @g3 @od_2 @hlg;refine uX ?_;clear F;cases a8:longB o.to with
 |true=>refine uT0 ?_;exact no (fun h=>by rw [h.to] at a8;cases a8) _ hx3
 |false =>
 have F:=J2 @g3 @od_5;refine uT ?_;clear F;refine cR_f (zdo1 (h.l.hx hx3) h.ll fun H1 s=>zgj1 s H1) ?_
 rintro r4 H4 ⟨rfl,hx4⟩;have hx04:=hx3.trans hx4;have hn4:=hx4.next;have g4:=(hx4.get (i:=H.next) oM).trans g3
 have gu:=(hx4.get (i:=H2.next) oM).trans gu
 haveI:=hx04.hn;cases a9:o.l.any longB with
 |true=>refine uT0 ?_;exact no (fun h=>by rw [h.ls] at a9;cases a9) _ hx04
 |false =>
 obtain ⟨x1,hX1⟩:∃x,(!decide (o.nm=⟨#[]⟩))=x:=⟨_,rfl⟩
 obtain ⟨x2,hX2⟩:∃x,(!decide (o.to=⟨#[]⟩))=x:=⟨_,rfl⟩
 obtain ⟨x3,hX3⟩:∃x,decide (¬o.n=0)=x:=⟨_,rfl⟩
 obtain ⟨x4,hX4⟩:∃x,decide (¬o.m=0)=x:=⟨_,rfl⟩
 obtain ⟨x5,hX5⟩:∃x,decide (0<(o.l.length:Int))=x:=⟨_,rfl⟩
 obtain ⟨x6,hX6⟩:∃x,decide (0<(o.b.length:Int))=x:=⟨_,rfl⟩
 have p1:o.nm=⟨#[]⟩->x1=false:=fun h=>by rw [← hX1,qo h];rfl
 have p2:o.to=⟨#[]⟩->x2=false:=fun h=>by rw [← hX2,qo h];rfl
 have p3:o.n=0->x3=false:=fun h=>by rw [← hX3];exact qp fun x=>x h
 have p4:o.m=0->x4=false:=fun h=>by rw [← hX4];exact qp fun x=>x h
 have p5:¬0<(o.l.length:Int)->x5=false:=fun h=>by rw [← hX5];exact qp h
 have p6:¬0<(o.b.length:Int)->x6=false:=fun h=>by rw [← hX6];exact qp h
 have q1:x1=false->o.nm=⟨#[]⟩:=fun h=>by
  rw [← hX1] at h;cases e:decide (o.nm=⟨#[]⟩) with
  |true=>exact qe e
  |false=>rw [e] at h;cases h
 have q2:x2=false->o.to=⟨#[]⟩:=fun h=>by
  rw [← hX2] at h;cases e:decide (o.to=⟨#[]⟩) with
  |true=>exact qe e
  |false=>rw [e] at h;cases h
 have q3:x3=false->o.n=0:=fun h=>by
  rw [← hX3] at h;exact qg6.1 (qf h)
 have q4:x4=false->o.m=0:=fun h=>by
  rw [← hX4] at h;exact qg6.1 (qf h)
 have q5:x5=false-> ¬0<(o.l.length:Int):=fun h=>by
  rw [← hX5] at h;exact qf h
 have q6:x6=false-> ¬0<(o.b.length:Int):=fun h=>by
  rw [← hX6] at h;exact qf h
 have yes:(x1=false\/u1=true)->(x2=false\/u2=true)->(x3=false\/u3=true)->(x4=false\/u4=true)->(x5=false\/u5=true)->(x6=false\/u6=true)-> ∀H',HX H H'->AV.int .i64 0= .int .i64 (ordI o)/\HX H H':=fun k1 k2 k3 k4 k5 k6 H' hx'=>by
  refine ⟨?_,hx'⟩;rw [zcb1];exact ⟨qf a1,qf a2,a3,a4,qf a5,qf a6,a7,a8,a9,by rw [hu];exact k1.imp q1 id,by rw [hu];exact k2.imp q2 id,by rw [hu];exact k3.imp q3 id,by rw [hu];exact k4.imp q4 id,by rw [hu];exact k5.imp q5 id,by rw [hu];exact k6.imp q6 id⟩
 have n1:x1=true->u1=false-> ¬OrdP o:=fun hx hv h=>by
  have:=h.u1;rw [hu] at this;rcases this with e|e
  ·rw [p1 e] at hx;cases hx
  ·have e:u1=true:=e
   rw [hv] at e;cases e
 have n2:x2=true->u2=false-> ¬OrdP o:=fun hx hv h=>by
  have:=h.u2;rw [hu] at this;rcases this with e|e
  ·rw [p2 e] at hx;cases hx
  ·have e:u2=true:=e
   rw [hv] at e;cases e
 have n3:x3=true->u3=false-> ¬OrdP o:=fun hx hv h=>by
  have:=h.u3;rw [hu] at this;rcases this with e|e
  ·rw [p3 e] at hx;cases hx
  ·have e:u3=true:=e
   rw [hv] at e;cases e
 have n4:x4=true->u4=false-> ¬OrdP o:=fun hx hv h=>by
  have:=h.u4;rw [hu] at this;rcases this with e|e
  ·rw [p4 e] at hx;cases hx
  ·have e:u4=true:=e
   rw [hv] at e;cases e
 have n5:x5=true->u5=false-> ¬OrdP o:=fun hx hv h=>by
  have:=h.u5;rw [hu] at this;rcases this with e|e
  ·rw [p5 e] at hx;cases hx
  ·have e:u5=true:=e
   rw [hv] at e;cases e
 have n6:x6=true->u6=false-> ¬OrdP o:=fun hx hv h=>by
  have:=h.u6;rw [hu] at this;rcases this with e|e
  ·rw [p6 e] at hx;cases hx
  ·have e:u6=true:=e
   rw [hv] at e;cases e
 have F:=J4 @g4 @od_1 @zsd @hX1;refine uT ?_;clear F;refine gR_at (fun T=>gT T 1= .ptr H.next 0/\gT T 3= .ptr H2.next 0/\gT T 62= .bool x1) ?_ ?_
 ·exact ⟨vT0,vT0,vT0⟩
 rintro T ⟨t1,t3,tX⟩;refine join3 (x:=x1) (u:=u1) (C:= ∀T,gT T 1= .ptr H.next 0->gT T 3= .ptr H2.next 0->gT T 67= .bool false->gT T 71= .bool x2->gR (.bool x2) true lookM ?d1 ?b1 ?k1 ?s1 T H4 ?Q1) (fun hx hC=> ?_) (fun hx hv hC=> ?_) (fun hx hv=> ?_) (fun k1=> ?_)
 case refine_1 =>
  have F:=J8 @g4 @od_2 @zsd @hX2 @hx @t1 @t3 @tX;refine uT ?_;clear F;refine hC _ ?_ ?_ ?_ ?_
  ·have F:=@t1;exact vT
  ·have F:=@t3;exact vT
  ·exact vT0
  ·exact vT0
 case refine_2 =>
  have F:=J11 @gu @us_0 @g4 @od_2 @zsd @hX2 @hx @hv @t1 @t3 @tX;refine uT ?_;clear F;refine hC _ ?_ ?_ ?_ ?_
  ·have F:=@t1;exact vT
  ·have F:=@t3;exact vT
  ·exact vT0
  ·exact vT0
 case refine_3 =>
  have F:=J7 @gu @us_0 @hx @hv @t1 @t3 @tX;refine uT ?_;clear F;exact no (n1 hx hv) _ hx04
 clear n1;intro T t1 t3 tA tX;refine join3 (x:=x2) (u:=u2) (C:= ∀T,gT T 1= .ptr H.next 0->gT T 3= .ptr H2.next 0->gT T 77= .bool false->gT T 81= .bool x3->gR (.bool x3) true lookM ?d2 ?b2 ?k2 ?s2 T H4 ?Q2) (fun hx hC=> ?_) (fun hx hv hC=> ?_) (fun hx hv=> ?_) (fun k2=> ?_)
 case refine_1 =>
  have F:=J8 @g4 @od_3 @hX3 @hx @t1 @t3 @tA @tX;refine uT ?_;clear F;refine hC _ ?_ ?_ ?_ ?_
  ·have F:=J4 @t1 @t3 @tA @tX;exact vT
  ·have F:=J4 @t1 @t3 @tA @tX;exact vT
  ·exact vT0
  ·exact vT0
 case refine_2 =>
  have F:=J11 @gu @us_1 @g4 @od_3 @hX3 @hx @hv @t1 @t3 @tA @tX;refine uT ?_;clear F;refine hC _ ?_ ?_ ?_ ?_
  ·have F:=J4 @t1 @t3 @tA @tX;exact vT
  ·have F:=J4 @t1 @t3 @tA @tX;exact vT
  ·exact vT0
  ·exact vT0
 case refine_3 =>
  have F:=J8 @gu @us_1 @hx @hv @t1 @t3 @tA @tX;refine uT ?_;clear F;exact no (n2 hx hv) _ hx04
 clear n2;intro T t1 t3 tA tX;refine join3 (x:=x3) (u:=u3) (C:= ∀T,gT T 1= .ptr H.next 0->gT T 3= .ptr H2.next 0->gT T 87= .bool false->gT T 91= .bool x4->gR (.bool x4) true lookM ?d3 ?b3 ?k3 ?s3 T H4 ?Q3) (fun hx hC=> ?_) (fun hx hv hC=> ?_) (fun hx hv=> ?_) (fun k3=> ?_)
 case refine_1 =>
  have F:=J8 @g4 @od_4 @hX4 @hx @t1 @t3 @tA @tX;refine uT ?_;clear F;refine hC _ ?_ ?_ ?_ ?_
  ·have F:=J4 @t1 @t3 @tA @tX;exact vT
  ·have F:=J4 @t1 @t3 @tA @tX;exact vT
  ·exact vT0
  ·exact vT0
 case refine_2 =>
  have F:=J11 @gu @us_2 @g4 @od_4 @hX4 @hx @hv @t1 @t3 @tA @tX;refine uT ?_;clear F;refine hC _ ?_ ?_ ?_ ?_
  ·have F:=J4 @t1 @t3 @tA @tX;exact vT
  ·have F:=J4 @t1 @t3 @tA @tX;exact vT
  ·exact vT0
  ·exact vT0
 case refine_3 =>
  have F:=J8 @gu @us_2 @hx @hv @t1 @t3 @tA @tX;refine uT ?_;clear F;exact no (n3 hx hv) _ hx04
 clear n3;intro T t1 t3 tA tX;refine join3 (x:=x4) (u:=u4) (C:= ∀T,gT T 1= .ptr H.next 0->gT T 3= .ptr H2.next 0->gT T 97= .bool false->gT T 102= .bool x5->gR (.bool x5) true lookM ?d4 ?b4 ?k4 ?s4 T H4 ?Q4) (fun hx hC=> ?_) (fun hx hv hC=> ?_) (fun hx hv=> ?_) (fun k4=> ?_)
 case refine_1 =>
  have F:=J9 @g4 @od_5 @hl @hX5 @hx @t1 @t3 @tA @tX;refine uT ?_;clear F;refine hC _ ?_ ?_ ?_ ?_
  ·have F:=J4 @t1 @t3 @tA @tX;exact vT
  ·have F:=J4 @t1 @t3 @tA @tX;exact vT
  ·exact vT0
  ·exact vT0
 case refine_2 =>
  have F:=J12 @gu @us_3 @g4 @od_5 @hl @hX5 @hx @hv @t1 @t3 @tA @tX;refine uT ?_;clear F;refine hC _ ?_ ?_ ?_ ?_
  ·have F:=J4 @t1 @t3 @tA @tX;exact vT
  ·have F:=J4 @t1 @t3 @tA @tX;exact vT
  ·exact vT0
  ·exact vT0
 case refine_3 =>
  have F:=J8 @gu @us_3 @hx @hv @t1 @t3 @tA @tX;refine uT ?_;clear F;exact no (n4 hx hv) _ hx04
 clear n4;intro T t1 t3 tA tX;refine join3 (x:=x5) (u:=u5) (C:= ∀T,gT T 1= .ptr H.next 0->gT T 3= .ptr H2.next 0->gT T 108= .bool false->gT T 113= .bool x6->gR (.bool x6) true lookM ?d5 ?b5 ?k5 ?s5 T H4 ?Q5) (fun hx hC=> ?_) (fun hx hv hC=> ?_) (fun hx hv=> ?_) (fun k5=> ?_)
 case refine_1 =>
  have F:=J9 @g4 @od_6 @hb @hX6 @hx @t1 @t3 @tA @tX;refine uT ?_;clear F;refine hC _ ?_ ?_ ?_ ?_
  ·have F:=J4 @t1 @t3 @tA @tX;exact vT
  ·have F:=J4 @t1 @t3 @tA @tX;exact vT
  ·exact vT0
  ·exact vT0
 case refine_2 =>
  have F:=J12 @gu @us_4 @g4 @od_6 @hb @hX6 @hx @hv @t1 @t3 @tA @tX;refine uT ?_;clear F;refine hC _ ?_ ?_ ?_ ?_
  ·have F:=J4 @t1 @t3 @tA @tX;exact vT
  ·have F:=J4 @t1 @t3 @tA @tX;exact vT
  ·exact vT0
  ·exact vT0
 case refine_3 =>
  have F:=J8 @gu @us_4 @hx @hv @t1 @t3 @tA @tX;refine uT ?_;clear F;exact no (n5 hx hv) _ hx04
 clear n5;intro T t1 t3 tA tX;cases hx:x6 with
 |false =>
  have F:=J5 @hx @t1 @t3 @tA @tX;refine uT ?_;clear F;exact yes k1 k2 k3 k4 k5 (.inl hx) _ hx04
 |true =>
  cases hv:u6 with
  |true =>
   have F:=J8 @gu @us_5 @hx @hv @t1 @t3 @tA @tX;refine uT ?_;clear F;exact yes k1 k2 k3 k4 k5 (.inr hv) _ hx04
  |false =>
   have F:=J8 @gu @us_5 @hx @hv @t1 @t3 @tA @tX;refine uT ?_;clear F;exact no (n6 hx hv) _ hx04
end HS
