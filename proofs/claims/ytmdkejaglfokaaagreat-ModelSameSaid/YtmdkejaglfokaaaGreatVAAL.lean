import Derived.Test.YtmdkejaglfokaaaGreatVAAH
import Derived.Test.YtmdkejaglfokaaaGreatVAAK
import Derived.Test.YtmdkejaglfokaaaGreatVAAG
import Derived.Test.YtmdkejaglfokaaaGreatVAAI
import Derived.Test.YtmdkejaglfokaaaGreatVAAF
noncomputable section
set_option maxHeartbeats 8000000
set_option linter.unusedSimpArgs false
set_option linter.unusedVariables false
open Go Go.Ev Go.Proofs Go.RowKit
namespace HS
set_option maxRecDepth 100000
open HS.Md
theorem join4 {x u:Bool}{G C:Prop}(h0:u=true->C->G) (h1:u=false->x=false->C->G) (h2:u=false->x=true->G) (hc:(x=false\/u=true)->C):G:=by
 cases u with
 |true=>exact h0 rfl (hc (.inr rfl))
 |false =>
  cases x with
  |false=>exact h1 rfl rfl (hc (.inl rfl))
  |true=>exact h2 rfl rfl
set_option maxHeartbeats 16000000 in
theorem zfo1 {H:AH}[hn:HN H](op:Int):FnE lookM 59 [.int .i64 op] H fun r H'=>r=usA (usesO op)/\HX H H':=by
 refine fI Tryz.f59 ?_;have hlo:=hn.lo;have fin:∀(u:AV) (H':AH),u=usA (usesO op)->HX H H'->u=usA (usesO op)/\HX H H':=fun _ _ a b=>⟨a,b⟩
 have F:=J12 @zrb @zwb @us_w @us_b0 @us_b1 @us_b2 @us_b3 @us_b4 @us_b5 @us_b6 @us_b7 @ld6;refine uT ?_;clear F;cases a1:decide (op=1) with
 |true =>
  have e:=qe a1;have F:=J12 @zrb @zwb @us_w @us_b0 @us_b1 @us_b2 @us_b3 @us_b4 @us_b5 @us_b6 @us_b7 @ld6;refine uT ?_;clear F;exact fin _ _ (by rw [e];rfl) (hxt)
 |false =>
 have n1:¬op=1:=qf a1;have F:=J12 @zrb @zwb @us_w @us_b0 @us_b1 @us_b2 @us_b3 @us_b4 @us_b5 @us_b6 @us_b7 @ld6;refine uT ?_;clear F;cases a7:decide (op=7) with
 |true =>
  have e:=qe a7;have F:=J12 @zrb @zwb @us_w @us_b0 @us_b1 @us_b2 @us_b3 @us_b4 @us_b5 @us_b6 @us_b7 @ld6;refine uT ?_;clear F;exact fin _ _ (by rw [e];rfl) (hxt)
 |false =>
 have n7:¬op=7:=qf a7;have F:=J12 @zrb @zwb @us_w @us_b0 @us_b1 @us_b2 @us_b3 @us_b4 @us_b5 @us_b6 @us_b7 @ld6;refine uT ?_;clear F;cases a2:decide (op=2) with
 |true =>
  have e:=qe a2;have F:=J12 @zrb @zwb @us_w @us_b0 @us_b1 @us_b2 @us_b3 @us_b4 @us_b5 @us_b6 @us_b7 @ld6;refine uT ?_;clear F;exact fin _ _ (by rw [e];rfl) (hxt)
 |false =>
 have n2:¬op=2:=qf a2;have F:=J12 @zrb @zwb @us_w @us_b0 @us_b1 @us_b2 @us_b3 @us_b4 @us_b5 @us_b6 @us_b7 @ld6;refine uT ?_;clear F;cases a4:decide (op=4) with
 |true =>
  have e:=qe a4;have F:=J12 @zrb @zwb @us_w @us_b0 @us_b1 @us_b2 @us_b3 @us_b4 @us_b5 @us_b6 @us_b7 @ld6;refine uT ?_;clear F;exact fin _ _ (by rw [e];rfl) (hxt)
 |false =>
 have n4:¬op=4:=qf a4;have F:=J12 @zrb @zwb @us_w @us_b0 @us_b1 @us_b2 @us_b3 @us_b4 @us_b5 @us_b6 @us_b7 @ld6;refine uT ?_;clear F;cases a5:decide (op=5) with
 |true =>
  have e:=qe a5;have F:=J12 @zrb @zwb @us_w @us_b0 @us_b1 @us_b2 @us_b3 @us_b4 @us_b5 @us_b6 @us_b7 @ld6;refine uT ?_;clear F;exact fin _ _ (by rw [e];rfl) (hxt)
 |false =>
 have n5:¬op=5:=qf a5;have F:=J12 @zrb @zwb @us_w @us_b0 @us_b1 @us_b2 @us_b3 @us_b4 @us_b5 @us_b6 @us_b7 @ld6;refine uT ?_;clear F;cases a9:decide (op=9) with
 |true =>
  have e:=qe a9;have F:=J12 @zrb @zwb @us_w @us_b0 @us_b1 @us_b2 @us_b3 @us_b4 @us_b5 @us_b6 @us_b7 @ld6;refine uT ?_;clear F;exact fin _ _ (by rw [e];rfl) (hxt)
 |false =>
 have n9:¬op=9:=qf a9;have F:=J12 @zrb @zwb @us_w @us_b0 @us_b1 @us_b2 @us_b3 @us_b4 @us_b5 @us_b6 @us_b7 @ld6;refine uT ?_;clear F;cases a15:decide (op=15) with
 |true =>
  have e:=qe a15;have F:=J12 @zrb @zwb @us_w @us_b0 @us_b1 @us_b2 @us_b3 @us_b4 @us_b5 @us_b6 @us_b7 @ld6;refine uT ?_;clear F;exact fin _ _ (by rw [e];rfl) (hxt)
 |false =>
 have n15:¬op=15:=qf a15;have F:=J12 @zrb @zwb @us_w @us_b0 @us_b1 @us_b2 @us_b3 @us_b4 @us_b5 @us_b6 @us_b7 @ld6;refine uT ?_;clear F;cases a16:decide (op=16) with
 |true =>
  have e:=qe a16;have F:=J12 @zrb @zwb @us_w @us_b0 @us_b1 @us_b2 @us_b3 @us_b4 @us_b5 @us_b6 @us_b7 @ld6;refine uT ?_;clear F;exact fin _ _ (by rw [e];rfl) (hxt)
 |false =>
 have n16:¬op=16:=qf a16;have F:=J12 @zrb @zwb @us_w @us_b0 @us_b1 @us_b2 @us_b3 @us_b4 @us_b5 @us_b6 @us_b7 @ld6;refine uT ?_;clear F;cases a3:decide (op=3) with
 |true =>
  have e:=qe a3;have F:=J12 @zrb @zwb @us_w @us_b0 @us_b1 @us_b2 @us_b3 @us_b4 @us_b5 @us_b6 @us_b7 @ld6;refine uT ?_;clear F;exact fin _ _ (by rw [e];rfl) (hxt)
 |false =>
 have n3:¬op=3:=qf a3;have F:=J12 @zrb @zwb @us_w @us_b0 @us_b1 @us_b2 @us_b3 @us_b4 @us_b5 @us_b6 @us_b7 @ld6;refine uT ?_;clear F;cases a6:decide (op=6) with
 |true =>
  have e:=qe a6;have F:=J12 @zrb @zwb @us_w @us_b0 @us_b1 @us_b2 @us_b3 @us_b4 @us_b5 @us_b6 @us_b7 @ld6;refine uT ?_;clear F;exact fin _ _ (by rw [e];rfl) (hxt)
 |false =>
 have n6:¬op=6:=qf a6;have F:=J12 @zrb @zwb @us_w @us_b0 @us_b1 @us_b2 @us_b3 @us_b4 @us_b5 @us_b6 @us_b7 @ld6;refine uT ?_;clear F;cases a10:decide (op=10) with
 |true =>
  have e:=qe a10;have F:=J12 @zrb @zwb @us_w @us_b0 @us_b1 @us_b2 @us_b3 @us_b4 @us_b5 @us_b6 @us_b7 @ld6;refine uT ?_;clear F;exact fin _ _ (by rw [e];rfl) (hxt)
 |false =>
 have n10:¬op=10:=qf a10;have F:=J12 @zrb @zwb @us_w @us_b0 @us_b1 @us_b2 @us_b3 @us_b4 @us_b5 @us_b6 @us_b7 @ld6;refine uT ?_;clear F;cases a8:decide (op=8) with
 |true =>
  have e:=qe a8;have F:=J12 @zrb @zwb @us_w @us_b0 @us_b1 @us_b2 @us_b3 @us_b4 @us_b5 @us_b6 @us_b7 @ld6;refine uT ?_;clear F;exact fin _ _ (by rw [e];rfl) (hxt)
 |false =>
 have n8:¬op=8:=qf a8;have F:=J12 @zrb @zwb @us_w @us_b0 @us_b1 @us_b2 @us_b3 @us_b4 @us_b5 @us_b6 @us_b7 @ld6;refine uT ?_;clear F;cases a12:decide (op=12) with
 |true =>
  have e:=qe a12;have F:=J12 @zrb @zwb @us_w @us_b0 @us_b1 @us_b2 @us_b3 @us_b4 @us_b5 @us_b6 @us_b7 @ld6;refine uT ?_;clear F;exact fin _ _ (by rw [e];rfl) (hxt)
 |false =>
 have n12:¬op=12:=qf a12;have F:=J12 @zrb @zwb @us_w @us_b0 @us_b1 @us_b2 @us_b3 @us_b4 @us_b5 @us_b6 @us_b7 @ld6;refine uT ?_;clear F;cases a14:decide (op=14) with
 |true =>
  have e:=qe a14;have F:=J12 @zrb @zwb @us_w @us_b0 @us_b1 @us_b2 @us_b3 @us_b4 @us_b5 @us_b6 @us_b7 @ld6;refine uT ?_;clear F;exact fin _ _ (by rw [e];rfl) (hxt)
 |false =>
 have n14:¬op=14:=qf a14;have F:=J12 @zrb @zwb @us_w @us_b0 @us_b1 @us_b2 @us_b3 @us_b4 @us_b5 @us_b6 @us_b7 @ld6;refine uT ?_;clear F;cases a11:decide (op=11) with
 |true =>
  have e:=qe a11;have F:=J12 @zrb @zwb @us_w @us_b0 @us_b1 @us_b2 @us_b3 @us_b4 @us_b5 @us_b6 @us_b7 @ld6;refine uT ?_;clear F;exact fin _ _ (by rw [e];rfl) (hxt)
 |false =>
 have n11:¬op=11:=qf a11;have F:=J12 @zrb @zwb @us_w @us_b0 @us_b1 @us_b2 @us_b3 @us_b4 @us_b5 @us_b6 @us_b7 @ld6;refine uT ?_;clear F;cases a13:decide (op=13) with
 |true =>
  have e:=qe a13;have F:=J12 @zrb @zwb @us_w @us_b0 @us_b1 @us_b2 @us_b3 @us_b4 @us_b5 @us_b6 @us_b7 @ld6;refine uT ?_;clear F;exact fin _ _ (by rw [e];rfl) (hxt)
 |false =>
 have n13:¬op=13:=qf a13;have F:=J12 @zrb @zwb @us_w @us_b0 @us_b1 @us_b2 @us_b3 @us_b4 @us_b5 @us_b6 @us_b7 @ld6;refine uT ?_;clear F;cases a18:decide (op=18) with
 |true =>
  have e:=qe a18;have F:=J12 @zrb @zwb @us_w @us_b0 @us_b1 @us_b2 @us_b3 @us_b4 @us_b5 @us_b6 @us_b7 @ld6;refine uT ?_;clear F;exact fin _ _ (by rw [e];rfl) (hxt)
 |false =>
 have n18:¬op=18:=qf a18;have F:=J12 @zrb @zwb @us_w @us_b0 @us_b1 @us_b2 @us_b3 @us_b4 @us_b5 @us_b6 @us_b7 @ld6;refine uT ?_;clear F;cases a20:decide (op=20) with
 |true =>
  have e:=qe a20;have F:=J12 @zrb @zwb @us_w @us_b0 @us_b1 @us_b2 @us_b3 @us_b4 @us_b5 @us_b6 @us_b7 @ld6;refine uT ?_;clear F;exact fin _ _ (by rw [e];rfl) (hxt)
 |false =>
 have n20:¬op=20:=qf a20;have F:=J12 @zrb @zwb @us_w @us_b0 @us_b1 @us_b2 @us_b3 @us_b4 @us_b5 @us_b6 @us_b7 @ld6;refine uT ?_;clear F;cases a21:decide (op=21) with
 |true =>
  have e:=qe a21;have F:=J12 @zrb @zwb @us_w @us_b0 @us_b1 @us_b2 @us_b3 @us_b4 @us_b5 @us_b6 @us_b7 @ld6;refine uT ?_;clear F;exact fin _ _ (by rw [e];rfl) (hxt)
 |false =>
 have n21:¬op=21:=qf a21;have F:=J12 @zrb @zwb @us_w @us_b0 @us_b1 @us_b2 @us_b3 @us_b4 @us_b5 @us_b6 @us_b7 @ld6;refine uT ?_;clear F;refine fin _ _ ?_ (hxt);unfold usesO;rw [qg oM,qg oM,qg oM,qg oM,qg oM,qg oM,qg oM]
 rfl
set_option maxHeartbeats 32000000 in
theorem zpw {H:AH}[hn:HN H]{o:Od}{lv bv:AV}(h:OdIn H o lv bv) :
  FnE lookM 31 [odA o lv bv] H fun r H'=>r= .int .i64 (ordI o)/\HX H H':=by
 refine fI Tryz.f31 ?_;have hlo:=hn.lo;have hw:=fun n=> @FnX.p _ _ _ _ (zbb1 n)
 have hl:=fun H'=>h.l.1.1 uTs H'
 have hb:=fun H'=>h.b.1 uBs H'
 have F:=J2 @zvf @od_0;refine uT ?_;clear F;refine cR_at (fun H1=>HX H H1/\H1.next=H.next+1/\H1.get H.next=some (odx o lv bv)) ?_ ?_
 ·exact ⟨hxt,rfl,zaa _⟩
 rintro H1 ⟨hx1,hn1,g0⟩;haveI:=hx1.hn;refine cR_f (zfo1 o.op) ?_;rintro r2 H2 ⟨rfl,hx2⟩;have hx02:=hx1.trans hx2;have hn2:=hx2.next;have g0:=(hx2.get (i:=H.next) oM).trans g0
 haveI:=hx02.hn;have no:¬OrdP o-> ∀H',HX H H'->AV.int .i64 2= .int .i64 (ordI o)/\HX H H':=fun h H' hx'=>⟨by rw [zhj1 h],hx'⟩
 generalize hu:usesO o.op=u at *
 obtain ⟨u1,u2,u3,u4,u5,u6⟩:=u;have hua:usA (u1,u2,u3,u4,u5,u6)=us6A u1 u2 u3 u4 u5 u6:=rfl;rw [hua];have hlo2:H2.lo<=H2.next:=HN.lo;have F:=J2 @zrb @us_w;refine uT ?_;clear F;have hx3:HX H ((H2.new (.cells (.lst (us6 false false false false false false)) 103 6 false false)).put H2.next (.cells (.lst (us6 u1 u2 u3 u4 u5 u6)) 103 6 false false)):=by have K:=hx02;exact hxk
 have gu:((H2.new (.cells (.lst (us6 false false false false false false)) 103 6 false false)).put H2.next (.cells (.lst (us6 u1 u2 u3 u4 u5 u6)) 103 6 false false)).get H2.next=some (.cells (.lst (us6 u1 u2 u3 u4 u5 u6)) 103 6 false false):=zfa _ _;have g3:((H2.new (.cells (.lst (us6 false false false false false false)) 103 6 false false)).put H2.next (.cells (.lst (us6 u1 u2 u3 u4 u5 u6)) 103 6 false false)).get H.next=some (odx o lv bv):=by have F:=@g0;exact vT
 generalize ((H2.new (.cells (.lst (us6 false false false false false false)) 103 6 false false)).put H2.next (.cells (.lst (us6 u1 u2 u3 u4 u5 u6)) 103 6 false false))=H3 at *
 haveI:=hx3.hn;have F:=J2 @g0 @od_0;refine uT ?_;clear F;cases a1:decide (o.op<1) with
 |true=>refine uT0 ?_;exact no (fun h=>h.op1 (qe a1)) _ hx3
 |false =>
 have F:=J2 @g3 @od_0;refine uT ?_;clear F;cases a2:decide (24<o.op) with
 |true=>refine uT0 ?_;exact no (fun h=>h.op2 (qe a2)) _ hx3
 |false =>
 have F:=J3 @g3 @od_1 @ls9;refine uT ?_;clear F;cases a7:decide (48<(o.nm.size:Int)) with
 |true=>refine uT0 ?_;exact no (fun h=>by have:=h.nm;unfold longB at this;rw [this] at a7;cases a7) _ hx3
 |false =>
 have F:=J3 @g3 @od_2 @ls9;refine uT ?_;clear F;cases a8:decide (48<(o.to.size:Int)) with
 |true=>refine uT0 ?_;exact no (fun h=>by have:=h.to;unfold longB at this;rw [this] at a8;cases a8) _ hx3
 |false =>
 have F:=J3 @g3 @od_3 @hw;refine uT ?_;clear F;cases a3:wi o.n 0 maxN with
 |false=>refine uT0 ?_;exact no (fun h=>by rw [h.n] at a3;cases a3) _ hx3
 |true =>
 have F:=J3 @g3 @od_4 @hw;refine uT ?_;clear F;cases a4:wi o.m 0 maxN with
 |false=>refine uT0 ?_;exact no (fun h=>by rw [h.m] at a4;cases a4) _ hx3
 |true =>
 have F:=J3 @g3 @od_5 @hl;refine uT ?_;clear F;cases a5:decide (16<(o.l.length:Int)) with
 |true=>refine uT0 ?_;exact no (fun h=>h.l (qe a5)) _ hx3
 |false =>
 have F:=J3 @g3 @od_6 @hb;refine uT ?_;clear F;cases a6:decide (16384<(o.b.length:Int)) with
 |true=>refine uT0 ?_;exact no (fun h=>h.b (qe a6)) _ hx3
 |false =>
 refine uT0 ?_;refine rc_l (fun n T H'=> ∃q,n+q=o.l.length/\H'=H3/\gT T 1= .ptr H.next 0/\gT T 3= .ptr H2.next 0/\gT T 4= .int .i64 q/\(o.l.take q).any longB=false) o.l.length ?_ ?_
 ·exact ⟨0,rfl,rfl,vT0,vT0,by refine uT0 ?_;rfl,by simp⟩
 rintro n T H' ⟨q,hnq,rfl,t1,t3,t4,hall⟩;cases n with
 |succ n =>
  have hq:q<o.l.length:=oM
  have hk:o.l[q]? =some o.l[q]:=qr hq;have hix:=ix44 (z:=1) (q:=q) (h.l.is oM) hq
  have hld:=SlT.at (h.l.hx hx3) hk;have hll:=h.ll;generalize o.l[q]=s at *
  cases asz:decide (48<(s.size:Int)) with
  |true =>
   have F:=J10 @g3 @od_5 @hl @t1 @t3 @t4 @hix @hld @ls9 @asz;refine uT ?_;clear F;exact no (fun h=>by have:=zup (f:=longB) hk asz;rw [h.ls] at this;cases this) _ hx3
  |false =>
   have F:=J10 @g3 @od_5 @hl @t1 @t3 @t4 @hix @hld @ls9 @asz;refine uT ?_;clear F;exact ⟨n,oM,q+1,oM,by push_cast;rfl,by rw [zxj hk,hall];exact asz⟩
 |zero =>
 rw [qx oM] at hall
 have a9:=hall;have g4:=g3;have hx04:=hx3;obtain ⟨x1,hX1⟩:∃x,(!decide (o.nm=⟨#[]⟩))=x:=⟨_,rfl⟩
 obtain ⟨x2,hX2⟩:∃x,(!decide (o.to=⟨#[]⟩))=x:=⟨_,rfl⟩
 obtain ⟨x3,hX3⟩:∃x,decide (¬o.n=0)=x:=⟨_,rfl⟩
 obtain ⟨x4,hX4⟩:∃x,decide (¬o.m=0)=x:=⟨_,rfl⟩
 obtain ⟨x5,hX5⟩:∃x,decide (0<(o.l.length:Int))=x:=⟨_,rfl⟩
 obtain ⟨x6,hX6⟩:∃x,decide (0<(o.b.length:Int))=x:=⟨_,rfl⟩
 have p1:o.nm=⟨#[]⟩->x1=false:=fun h=>by rw [← hX1,qo h];rfl
 have p2:o.to=⟨#[]⟩->x2=false:=fun h=>by rw [← hX2,qo h];rfl
 have p3:o.n=0->x3=false:=fun h=>by rw [← hX3];exact qp fun x=>x h
 have p4:o.m=0->x4=false:=fun h=>by rw [← hX4];exact qp fun x=>x h
 have p5:¬0<(o.l.length:Int)->x5=false:=fun h=>by rw [← hX5];exact qp h
 have p6:¬0<(o.b.length:Int)->x6=false:=fun h=>by rw [← hX6];exact qp h
 have q1:x1=false->o.nm=⟨#[]⟩:=fun h=>by
  rw [← hX1] at h;cases e:decide (o.nm=⟨#[]⟩) with
  |true=>exact qe e
  |false=>rw [e] at h;cases h
 have q2:x2=false->o.to=⟨#[]⟩:=fun h=>by
  rw [← hX2] at h;cases e:decide (o.to=⟨#[]⟩) with
  |true=>exact qe e
  |false=>rw [e] at h;cases h
 have q3:x3=false->o.n=0:=fun h=>by
  rw [← hX3] at h;exact qg6.1 (qf h)
 have q4:x4=false->o.m=0:=fun h=>by
  rw [← hX4] at h;exact qg6.1 (qf h)
 have q5:x5=false-> ¬0<(o.l.length:Int):=fun h=>by
  rw [← hX5] at h;exact qf h
 have q6:x6=false-> ¬0<(o.b.length:Int):=fun h=>by
  rw [← hX6] at h;exact qf h
 have yes:(x1=false\/u1=true)->(x2=false\/u2=true)->(x3=false\/u3=true)->(x4=false\/u4=true)->(x5=false\/u5=true)->(x6=false\/u6=true)-> ∀H',HX H H'->AV.int .i64 0= .int .i64 (ordI o)/\HX H H':=fun k1 k2 k3 k4 k5 k6 H' hx'=>by
  refine ⟨?_,hx'⟩;rw [zcb1];exact ⟨qf a1,qf a2,a3,a4,qf a5,qf a6,a7,a8,a9,by rw [hu];exact k1.imp q1 id,by rw [hu];exact k2.imp q2 id,by rw [hu];exact k3.imp q3 id,by rw [hu];exact k4.imp q4 id,by rw [hu];exact k5.imp q5 id,by rw [hu];exact k6.imp q6 id⟩
 have n1:x1=true->u1=false-> ¬OrdP o:=fun hx hv h=>by
  have:=h.u1;rw [hu] at this;rcases this with e|e
  ·rw [p1 e] at hx;cases hx
  ·have e:u1=true:=e
   rw [hv] at e;cases e
 have n2:x2=true->u2=false-> ¬OrdP o:=fun hx hv h=>by
  have:=h.u2;rw [hu] at this;rcases this with e|e
  ·rw [p2 e] at hx;cases hx
  ·have e:u2=true:=e
   rw [hv] at e;cases e
 have n3:x3=true->u3=false-> ¬OrdP o:=fun hx hv h=>by
  have:=h.u3;rw [hu] at this;rcases this with e|e
  ·rw [p3 e] at hx;cases hx
  ·have e:u3=true:=e
   rw [hv] at e;cases e
 have n4:x4=true->u4=false-> ¬OrdP o:=fun hx hv h=>by
  have:=h.u4;rw [hu] at this;rcases this with e|e
  ·rw [p4 e] at hx;cases hx
  ·have e:u4=true:=e
   rw [hv] at e;cases e
 have n5:x5=true->u5=false-> ¬OrdP o:=fun hx hv h=>by
  have:=h.u5;rw [hu] at this;rcases this with e|e
  ·rw [p5 e] at hx;cases hx
  ·have e:u5=true:=e
   rw [hv] at e;cases e
 have n6:x6=true->u6=false-> ¬OrdP o:=fun hx hv h=>by
  have:=h.u6;rw [hu] at this;rcases this with e|e
  ·rw [p6 e] at hx;cases hx
  ·have e:u6=true:=e
   rw [hv] at e;cases e
 have F:=J8 @g3 @od_5 @hl @t1 @t3 @t4 @gu @us_0;refine uT ?_;clear F;refine gR_at (fun T=>gT T 1= .ptr H.next 0/\gT T 3= .ptr H2.next 0/\gT T 69= .bool (!u1)) ?_ ?_
 ·exact ⟨by have F:=@t1;exact vT,by have F:=@t3;exact vT,vT0⟩
 clear t1 t3 t4;rintro T ⟨t1,t3,tX⟩;refine join4 (x:=x1) (u:=u1) (C:= ∀T,gT T 1= .ptr H.next 0->gT T 3= .ptr H2.next 0->gT T 74= .bool false->gT T 78= .bool (!u2)->gR (.bool (!u2)) true lookM ?d0 ?b0 ?k0 ?s0 T H' ?Q0) (fun hv hC=> ?_) (fun hv hx hC=> ?_) (fun hv hx=> ?_) (fun k1=> ?_)
 case refine_1 =>
  have F:=J6 @gu @us_1 @hv @t1 @t3 @tX;refine uT ?_;clear F;refine hC _ ?_ ?_ ?_ ?_
  ·have F:=@t1;exact vT
  ·have F:=@t3;exact vT
  ·exact vT0
  ·exact vT0
 case refine_2 =>
  have F:=J11 @gu @us_1 @hv @g3 @od_1 @zsd @hX1 @hx @t1 @t3 @tX;refine uT ?_;clear F;refine hC _ ?_ ?_ ?_ ?_
  ·have F:=@t1;exact vT
  ·have F:=@t3;exact vT
  ·exact vT0
  ·exact vT0
 case refine_3 =>
  have F:=J9 @hv @g3 @od_1 @zsd @hX1 @hx @t1 @t3 @tX;refine uT ?_;clear F;exact no (n1 hx hv) _ hx04
 intro T t1 t3 tA tX;refine join4 (x:=x2) (u:=u2) (C:= ∀T,gT T 1= .ptr H.next 0->gT T 3= .ptr H2.next 0->gT T 84= .bool false->gT T 88= .bool (!u3)->gR (.bool (!u3)) true lookM ?d1 ?b1 ?k1 ?s1 T H' ?Q1) (fun hv hC=> ?_) (fun hv hx hC=> ?_) (fun hv hx=> ?_) (fun k2=> ?_)
 case refine_1 =>
  have F:=J7 @gu @us_2 @hv @t1 @t3 @tA @tX;refine uT ?_;clear F;refine hC _ ?_ ?_ ?_ ?_
  ·have F:=@t1;exact vT
  ·have F:=@t3;exact vT
  ·exact vT0
  ·exact vT0
 case refine_2 =>
  have F:=J12 @gu @us_2 @hv @g3 @od_2 @zsd @hX2 @hx @t1 @t3 @tA @tX;refine uT ?_;clear F;refine hC _ ?_ ?_ ?_ ?_
  ·have F:=@t1;exact vT
  ·have F:=@t3;exact vT
  ·exact vT0
  ·exact vT0
 case refine_3 =>
  have F:=J10 @hv @g3 @od_2 @zsd @hX2 @hx @t1 @t3 @tA @tX;refine uT ?_;clear F;exact no (n2 hx hv) _ hx04
 intro T t1 t3 tA tX;refine join4 (x:=x3) (u:=u3) (C:= ∀T,gT T 1= .ptr H.next 0->gT T 3= .ptr H2.next 0->gT T 94= .bool false->gT T 98= .bool (!u4)->gR (.bool (!u4)) true lookM ?d2 ?b2 ?k2 ?s2 T H' ?Q2) (fun hv hC=> ?_) (fun hv hx hC=> ?_) (fun hv hx=> ?_) (fun k3=> ?_)
 case refine_1 =>
  have F:=J7 @gu @us_3 @hv @t1 @t3 @tA @tX;refine uT ?_;clear F;refine hC _ ?_ ?_ ?_ ?_
  ·have F:=@t1;exact vT
  ·have F:=@t3;exact vT
  ·exact vT0
  ·exact vT0
 case refine_2 =>
  have F:=J11 @gu @us_3 @hv @g3 @od_3 @hX3 @hx @t1 @t3 @tA @tX;refine uT ?_;clear F;refine hC _ ?_ ?_ ?_ ?_
  ·have F:=@t1;exact vT
  ·have F:=@t3;exact vT
  ·exact vT0
  ·exact vT0
 case refine_3 =>
  have F:=J9 @hv @g3 @od_3 @hX3 @hx @t1 @t3 @tA @tX;refine uT ?_;clear F;exact no (n3 hx hv) _ hx04
 intro T t1 t3 tA tX;refine join4 (x:=x4) (u:=u4) (C:= ∀T,gT T 1= .ptr H.next 0->gT T 3= .ptr H2.next 0->gT T 104= .bool false->gT T 108= .bool (!u5)->gR (.bool (!u5)) true lookM ?d3 ?b3 ?k3 ?s3 T H' ?Q3) (fun hv hC=> ?_) (fun hv hx hC=> ?_) (fun hv hx=> ?_) (fun k4=> ?_)
 case refine_1 =>
  have F:=J7 @gu @us_4 @hv @t1 @t3 @tA @tX;refine uT ?_;clear F;refine hC _ ?_ ?_ ?_ ?_
  ·have F:=@t1;exact vT
  ·have F:=@t3;exact vT
  ·exact vT0
  ·exact vT0
 case refine_2 =>
  have F:=J11 @gu @us_4 @hv @g3 @od_4 @hX4 @hx @t1 @t3 @tA @tX;refine uT ?_;clear F;refine hC _ ?_ ?_ ?_ ?_
  ·have F:=@t1;exact vT
  ·have F:=@t3;exact vT
  ·exact vT0
  ·exact vT0
 case refine_3 =>
  have F:=J9 @hv @g3 @od_4 @hX4 @hx @t1 @t3 @tA @tX;refine uT ?_;clear F;exact no (n4 hx hv) _ hx04
 intro T t1 t3 tA tX;refine join4 (x:=x5) (u:=u5) (C:= ∀T,gT T 1= .ptr H.next 0->gT T 3= .ptr H2.next 0->gT T 115= .bool false->gT T 119= .bool (!u6)->gR (.bool (!u6)) true lookM ?d4 ?b4 ?k4 ?s4 T H' ?Q4) (fun hv hC=> ?_) (fun hv hx hC=> ?_) (fun hv hx=> ?_) (fun k5=> ?_)
 case refine_1 =>
  have F:=J7 @gu @us_5 @hv @t1 @t3 @tA @tX;refine uT ?_;clear F;refine hC _ ?_ ?_ ?_ ?_
  ·have F:=@t1;exact vT
  ·have F:=@t3;exact vT
  ·exact vT0
  ·exact vT0
 case refine_2 =>
  have F:=J12 @gu @us_5 @hv @g3 @od_5 @hl @hX5 @hx @t1 @t3 @tA @tX;refine uT ?_;clear F;refine hC _ ?_ ?_ ?_ ?_
  ·have F:=@t1;exact vT
  ·have F:=@t3;exact vT
  ·exact vT0
  ·exact vT0
 case refine_3 =>
  have F:=J10 @hv @g3 @od_5 @hl @hX5 @hx @t1 @t3 @tA @tX;refine uT ?_;clear F;exact no (n5 hx hv) _ hx04
 intro T t1 t3 tA tX;cases hv:u6 with
 |true =>
  have F:=J5 @hv @t1 @t3 @tA @tX;refine uT ?_;clear F;exact yes k1 k2 k3 k4 k5 (.inr hv) _ hx04
 |false =>
  cases hx:x6 with
  |false =>
   have F:=J10 @hv @g3 @od_6 @hb @hX6 @hx @t1 @t3 @tA @tX;refine uT ?_;clear F;exact yes k1 k2 k3 k4 k5 (.inl hx) _ hx04
  |true =>
   have F:=J10 @hv @g3 @od_6 @hb @hX6 @hx @t1 @t3 @tA @tX;refine uT ?_;clear F;exact no (n6 hx hv) _ hx04
structure OdW (H:AH) (o:Od) (lv bv:AV):Prop where
 l:SlT H lv o.l
 b:LenV bv o.b.length
theorem OdW.hx {H H':AH}{o:Od}{lv bv:AV}(h:OdW H o lv bv) (hx:HX H H'):OdW H' o lv bv:=⟨h.l.hx hx,h.b⟩
def big (s:ByteArray):Bool:=decide (100<(s.size:Int))
def longO (o:Od):Bool:=(o.l.take 31).any big || (big o.nm || (big o.to || (decide (30<(o.l.length:Int)) || decide (17000<(o.b.length:Int)))))
theorem zag1 {H:AH}[hn:HN H]{o:Od}{lv bv:AV}(h:OdW H o lv bv) :
  FnE lookM 23 [odA o lv bv] H fun r H'=>r= .bool (longO o)/\HX H H':=by
 refine fI Tryz.f23 ?_;have hlo:=hn.lo;have hl:=fun H'=>h.l.1.1 uTs H'
 have hb:=fun H'=>h.b.1 uBs H'
 have F:=@zvf;refine uT ?_;refine rc_l (fun n T H'=> ∃q,n+q=min o.l.length 31/\H'=H.new (odx o lv bv)/\gT T 1= .ptr H.next 0/\gT T 3= .int .i64 q/\(o.l.take q).any big=false) (min o.l.length 31) ?_ ?_
 ·exact ⟨0,rfl,rfl,vT0,by refine uT0 ?_;rfl,by simp⟩
 rintro n T H' ⟨q,hnq,rfl,t1,t3,hall⟩;have hx1:HX H (H.new (odx o lv bv)):=HX.new _ _;have g1:(H.new (odx o lv bv)).get H.next=some (odx o lv bv):=zaa _;generalize H.new (odx o lv bv)=H1 at *
 unfold longO;cases n with
 |zero =>
  have hall2:(o.l.take 31).any big=false:=by
   rcases qf2 o.l.length 31 with h2|h2
   ·rw [qx oM]
    rw [qx oM] at hall
    exact hall
   ·have:q=31:=oM
    rw [← this];exact hall
  rw [hall2,Bool.false_or];unfold big;have stop:(decide ((q:Int)<(o.l.length:Int))=false)\/(decide ((q:Int)<(o.l.length:Int))=true/\decide ((q:Int)<31)=false):=by
   rcases qf2 q o.l.length with h2|h2
   ·exact .inr ⟨qo oM,qp oM⟩
   ·exact .inl (qp oM)
  have rest:∀T,gT T 1= .ptr H.next 0->RC lookM (C2.seq (.reg (fa_ 1 (tO 1) 22<|l_ (tO 22) 23<|le_ lookM 9 (tO 23) 24<|b_ lookM .gtr 3 (.tmp 24) (.const (.int .i64 (100))) 25<| .done)) .ret) [] T H1 (fun _ _ _=>True)->True:=fun _ _ _=>trivial
  rcases stop with s1|⟨s1,s2⟩
  all_goals
   cases a1:decide (100<(o.nm.size:Int)) with
   |true=>first|(have F:=J12 @t1 @t3 @g1 @od_1 @od_2 @od_5 @od_6 @hl @hb @ls9 @s1 @a1;refine uT ?_;exact ⟨rfl,hx1⟩)|(have F:=J13 @t1 @t3 @g1 @od_1 @od_2 @od_5 @od_6 @hl @hb @ls9 @s1 @s2 @a1;refine uT ?_;exact ⟨rfl,hx1⟩)|(have F:=J13 @t1 @t3 @g1 @od_1 @od_2 @od_5 @od_6 @hl @hb @ls9 @s1 @s2 @a1;refine uT ?_;exact hx1)
   |false =>
   cases a2:decide (100<(o.to.size:Int)) with
   |true=>first|(have F:=J13 @t1 @t3 @g1 @od_1 @od_2 @od_5 @od_6 @hl @hb @ls9 @s1 @a1 @a2;refine uT ?_;exact ⟨rfl,hx1⟩)|(have F:=J14 @t1 @t3 @g1 @od_1 @od_2 @od_5 @od_6 @hl @hb @ls9 @s1 @s2 @a1 @a2;refine uT ?_;exact ⟨rfl,hx1⟩)|(have F:=J14 @t1 @t3 @g1 @od_1 @od_2 @od_5 @od_6 @hl @hb @ls9 @s1 @s2 @a1 @a2;refine uT ?_;exact hx1)
   |false =>
   cases a3:decide (30<(o.l.length:Int)) with
   |true=>first|(have F:=J14 @t1 @t3 @g1 @od_1 @od_2 @od_5 @od_6 @hl @hb @ls9 @s1 @a1 @a2 @a3;refine uT ?_;exact ⟨rfl,hx1⟩)|(have F:=J15 @t1 @t3 @g1 @od_1 @od_2 @od_5 @od_6 @hl @hb @ls9 @s1 @s2 @a1 @a2 @a3;refine uT ?_;exact ⟨rfl,hx1⟩)|(have F:=J15 @t1 @t3 @g1 @od_1 @od_2 @od_5 @od_6 @hl @hb @ls9 @s1 @s2 @a1 @a2 @a3;refine uT ?_;exact hx1)
   |false=>first|(have F:=J14 @t1 @t3 @g1 @od_1 @od_2 @od_5 @od_6 @hl @hb @ls9 @s1 @a1 @a2 @a3;refine uT ?_;exact ⟨rfl,hx1⟩)|(have F:=J15 @t1 @t3 @g1 @od_1 @od_2 @od_5 @od_6 @hl @hb @ls9 @s1 @s2 @a1 @a2 @a3;refine uT ?_;exact ⟨rfl,hx1⟩)|(have F:=J15 @t1 @t3 @g1 @od_1 @od_2 @od_5 @od_6 @hl @hb @ls9 @s1 @s2 @a1 @a2 @a3;refine uT ?_;exact hx1)
 |succ n =>
  have hq:q<o.l.length:=oM
  have hk:o.l[q]? =some o.l[q]:=qr hq;have hix:=ix44 (z:=1) (q:=q) (h.l.is oM) hq
  have hld:=SlT.at (h.l.hx hx1) hk;have s1:decide ((q:Int)<(o.l.length:Int))=true:=qo oM
  have s2:decide ((q:Int)<31)=true:=qo oM
  have hk31:(o.l.take 31)[q]? =some o.l[q]:=by rw [List.getElem?_take,qj oM];exact hk
  generalize o.l[q]=s at *
  cases as1:decide (100<(s.size:Int)) with
  |true =>
   have hT:(o.l.take 31).any big=true:=zup (f:=big) hk31 as1;rw [hT,Bool.true_or];have F:=J11 @g1 @od_5 @hl @t1 @t3 @hix @hld @ls9 @as1 @s1 @s2;refine uT ?_;exact hx1
  |false =>
   have F:=J11 @g1 @od_5 @hl @t1 @t3 @hix @hld @ls9 @as1 @s1 @s2;refine uT ?_;exact ⟨n,oM,q+1,oM,by push_cast;rfl,by rw [zxj hk,hall];exact as1⟩
abbrev Ot:=Od×AV×AV
abbrev otL (p:Ot):List AV:=odL p.1 p.2.1 p.2.2
theorem zhm (p:Ot):(otL p).length=7:=rfl
structure SlOd (H:AH) (v:AV) (l:List Ot):Prop where
 sl:SlZ H v l.length 7 (encC otL l)
 od:∀p,p∈l->OdW H p.1 p.2.1 p.2.2
theorem SlOd.hx {H H':AH}{v:AV}{l:List Ot}(h:SlOd H v l) (hx:HX H H'):SlOd H' v l:=⟨h.sl.hx hx,fun p hp=>(h.od p hp).hx hx⟩
theorem SlOd.is {H:AH}{v:AV}{l:List Ot}(h:SlOd H v l):IsSl H v l.length:=h.sl.is
theorem SlOd.at {H:AH}{v:AV}{l:List Ot}(h:SlOd H v l){k:Nat}{p:Ot}(hk:l[k]? =some p):OdW H p.1 p.2.1 p.2.2:=h.od p (qz.2 ⟨k,hk⟩)
theorem SlOd.agg {H:AH}{v:AV}{l:List Ot}(h:SlOd H v l){k:Nat}{p:Ot}(hk:l[k]? =some p):ldN 7 (elA 7 v k) H=some (odA p.1 p.2.1 p.2.2):=by
 obtain ⟨c,h1,h2⟩:=SlZ.rdN h.sl (qq.1 hk).1;rw [zpf zhm hk] at h2;rw [h1,zot (x:=.int .i64 p.1.op) (l:=(otL p).tail) (by rw [h2];rfl) (fun n hn=>by cases hn)]
 rfl
theorem SlOd.fld {H:AH}{v:AV}{l:List Ot}(h:SlOd H v l){k j:Nat}{p:Ot}{x:AV}(hk:l[k]? =some p) (hx:(otL p)[j]? =some x):ld1 (elB 7 v k j) H=some x :=
 SlZ.rd h.sl (qq.1 hk).1 (by have:=(qq.1 hx).1;rwa [zhm] at this) ((zvi zhm hk (by have:=(qq.1 hx).1;rwa [zhm] at this)).trans hx)
def longP (p:Ot):Bool:=longO p.1 || decide (2000<(p.1.b.length:Int))
def longL (l:List Ot):Bool:=l.any longP || decide (30<(l.length:Int))
theorem zgo1 {H:AH}[hn:HN H]{v:AV}{l:List Ot}(h:SlOd H v l) (hm:l.length<=9223372036854775807) :
  FnE lookM 7 [v] H fun r H'=>r= .bool (longL l)/\HX H H':=by
 refine fI Tryz.f7 ?_;have hlo:=hn.lo;have hl:=fun H'=>zwc (H':=H') uOs h.is
 refine uT0 ?_;refine rc_l (fun n T H'=> ∃q,n+q=l.length/\HX H H'/\gT T 0=v/\gT T 3= .int .i64 q/\(l.take q).any longP=false) l.length ?_ ?_
 ·exact ⟨0,rfl,HX.refl _,vT0,by refine uT0 ?_;rfl,by simp⟩
 rintro n T H1 ⟨q,hnq,hx1,t0,t3,hall⟩;unfold longL;haveI:=hx1.hn;cases n with
 |zero =>
  rw [qx oM] at hall
  rw [hall,Bool.false_or];have s1:decide ((q:Int)<(l.length:Int))=false:=qp oM
  have F:=J4 @t0 @t3 @hl @s1;refine uT ?_;exact hx1
 |succ n =>
  have hq:q<l.length:=oM
  have hk:l[q]? =some l[q]:=qr hq;have h1:=h.hx hx1;have hix:=ix44 (z:=7) (q:=q) h1.is hq;have hld:=h1.agg hk;have hfa:=fa_el h1.is hq 7 6;have s1:decide ((q:Int)<(l.length:Int))=true:=qo oM
  have hw:=SlOd.at h1 hk;generalize l[q]=p at *
  have F:=J6 @t0 @t3 @hl @s1 @hix @hld;refine uT ?_;refine cR_f (zag1 hw) ?_;rintro r2 H2 ⟨rfl,hx2⟩;have hx02:=hx1.trans hx2;have hf6:=(h.hx hx02).fld hk (j:=6) (x:=p.2.2) rfl;have hb:=fun H'=>hw.b.1 uBs H'
  cases a1:longO p.1 with
  |true =>
   have F:=J3 @t0 @t3 @a1;refine uT ?_;rw [zup (f:=longP) hk (by unfold longP;rw [a1];rfl)]
   exact ⟨rfl,hx02⟩
  |false =>
  cases a2:decide (2000<(p.1.b.length:Int)) with
  |true =>
   have F:=J8 @t0 @t3 @a1 @hix @hfa @hf6 @hb @a2;refine uT ?_;rw [zup (f:=longP) hk (by unfold longP;rw [a1,a2];rfl)]
   exact ⟨rfl,hx02⟩
  |false =>
   have F:=J8 @t0 @t3 @a1 @hix @hfa @hf6 @hb @a2;refine uT ?_;exact ⟨n,oM,q+1,oM,hx02,by push_cast;rfl,by rw [zxj hk,hall];unfold longP;rw [a1,a2];rfl⟩
theorem longL_f {l:List Ot}(h:longL l=false):l.length<=30/\ ∀p,p∈l->p.1.nm.size<=100/\p.1.to.size<=100/\p.1.l.length<=30/\p.1.b.length<=2000:=by
 unfold longL at h;rw [qt4] at h;refine ⟨by have:=qf h.2;omega,fun p hp=> ?_⟩
 have h1:=qj7.1 h.1 p hp;unfold longP longO big at h1;simp only [qg5,not_or,qs] at h1;omega
def zdb1:Code:=bodyN lookM 58
def f58l0:C2:=(.reg (m_ (tO 64) 10<| .done))
def f58b0:Code:=lpN zdb1 0
theorem zho1:comp lookM f58b0=f58l0:=kR
def f58l1:C2:=(.block 2 (.seq (.reg (l_ (tO 9) 65<|q_ (ixA 64 256) (tO 8) (tO 65) 66<|ls_ (fun xs _=>zxa lookM 89 false false false xs) [(tO 66)] (opN zdb1 13 2) 67<|m_ (tO 10) 68<|hn_ false (zea .copy lookM [30,30]) [(tO 67),(tO 68)] 69<| .done))
 (.reg (l_ (tO 9) 70<|b_ lookM .add 3 (.tmp 70) (.const (.int .i64 (1))) 71<|s1_ false lookM 3 (tO 9) (tO 71)<| .done))))
def f58b1:Code:=lpN zdb1 1
theorem zio1:comp lookM f58b1=f58l1:=kR
def f58c:C2:=(.seq (.reg (bx_ false 113 51 (tO 0) 2<|al_ false (AV.toC (.agg [(.int .i64 (0)),.nilSl,.nilSl])) 37 3 4<| .done))
 (.seq (.reg (m_ (tO 1) 12<|nl_ (tO 12) 13<|fa_ 7 (tO 13) 14<|l_ (tO 14) 15<|fa_ 7 (tO 2) 16<|fa_ 0 (tO 16) 17<|l_ (tO 17) 18<|n_ (fun xs H=>zjb lookM 61 (hd xs) (hd (tl xs)) false H) [(tO 15),(tO 18)] 19<|al_ true (zC lookM 100) 100 16384 5<|sN_ false 16384 (tO 5) (tO 19)<| .done))
 (.seq (.reg (fa_ 0 (tO 2) 20<|fa_ 3 (tO 20) 21<|l_ (tO 21) 22<|fa_ 0 (tO 2) 23<|fa_ 4 (tO 23) 24<|l_ (tO 24) 25<|m_ (tO 22) 6<|m_ (tO 25) 7<| .done))
 (.seq (.seq (.reg (fa_ 0 (tO 2) 26<|fa_ 0 (tO 26) 27<|l_ (tO 27) 28<|b_ lookM .eql 3 (.tmp 28) (.const (.int .i64 (13))) 29<| .done))
 (.cond (tO 29) (.reg (m_ (tO 6) 30<|fa_ 0 (tO 2) 31<|fa_ 6 (tO 31) 32<|l_ (tO 32) 33<|le_ lookM 30 (tO 33) 34<|b_ lookM .quo 3 (.tmp 34) (.const (.int .i64 (256))) 35<|b_ lookM .add 3 (.tmp 30) (.tmp 35) 36<|m_ (tO 36) 7<| .done)) .skip))
 (.seq (.block 0 (.seq (.reg (fa_ 7 (tO 2) 38<|fa_ 2 (tO 38) 39<|l_ (tO 39) 40<|b_ lookM .eql 3 (.tmp 40) (.const (.int .i64 (2))) 41<|m_ (tO 41) 37<| .done))
 (.cond (tO 37) (.seq (.reg (bu_ lookM 37 [0] [(.con (.int .i64 (18)))] 42<|sN_ false 3 (tO 4) (tO 42)<| .done))
 .ret) (.seq (.reg (m_ (tO 6) 44<|m_ (tO 7) 45<|b_ lookM .gtr 3 (.tmp 44) (.tmp 45) 46<|m_ (tO 46) 47<|o_ 47 false 48 (m_ (tO 7) 48)<|o_ 47 false 49 (fa_ 7 (tO 2) 49)<|o_ 47 false 50 (fa_ 3 (tO 49) 50)<|o_ 47 false 51 (l_ (tO 50) 51)<|o_ 47 false 52 (b_ lookM .gtr 3 (.tmp 48) (.tmp 51) 52)<|pk_ (tO 47) (.con (.bool true)) (tO 52) 53<|m_ (tO 53) 43<| .done))
 (.cond (tO 43) (.seq (.reg (bu_ lookM 37 [0] [(.con (.int .i64 (5)))] 54<|sN_ false 3 (tO 4) (tO 54)<| .done))
 .ret) .skip)))))
 (.seq (.reg (lN_ 16384 (tO 5) 55<|m_ (tO 6) 56<|m_ (tO 7) 57<|cl_ false 74 [(tO 55),(tO 56),(tO 57)] 58<|al_ false (zC lookM 100) 100 16384 8<|sN_ false 16384 (tO 8) (tO 58)<| .done))
 (.seq (.reg (m_ (tO 6) 59<|al_ false (AV.toC (.int .i64 (0))) 3 1 9<|s1_ false lookM 3 (tO 9) (tO 59)<| .done))
 (.seq (.seq (.reg (fa_ 0 (tO 2) 60<|fa_ 6 (tO 60) 61<|l_ (tO 61) 62<|cl_ false 75 [(tO 62),(.con (.int .i64 (256)))] 63<| .done))
 (.block 1 (.rng (tO 63) [64] f58b0 f58b1)))
 (.seq (.seq (.reg (lN_ 16384 (tO 8) 72<|cl_ false 73 [(tO 72)] 73<|m_ (tO 73) 11<| .done))
 (.seq (.reg (fa_ 0 (tO 2) 74<|fa_ 0 (tO 74) 75<|l_ (tO 75) 76<|b_ lookM .eql 3 (.tmp 76) (.const (.int .i64 (13))) 77<|m_ (tO 77) 78<|o_ 78 true 79 (m_ (tO 11) 79)<|o_ 78 true 80 (lN_ 16384 (tO 5) 80)<|o_ 78 true 81 (cl_ false 73 [(tO 80)] 81)<|o_ 78 true 82 (b_ lookM .gtr 3 (.tmp 79) (.tmp 81) 82)<|pk_ (tO 78) (tO 82) (.con (.bool false)) 83<|m_ (tO 83) 84<|o_ 84 true 85 (fa_ 7 (tO 2) 85)<|o_ 84 true 86 (fa_ 42 (tO 85) 86)<|o_ 84 true 87 (l_ (tO 86) 87)<|o_ 84 true 88 (b_ lookM .gtr 3 (.tmp 87) (.const (.int .i64 (0))) 88)<|pk_ (tO 84) (tO 88) (.con (.bool false)) 89<|m_ (tO 89) 90<|o_ 90 true 91 (m_ (tO 11) 91)<|o_ 90 true 92 (fa_ 7 (tO 2) 92)<|o_ 90 true 93 (fa_ 42 (tO 92) 93)<|o_ 90 true 94 (l_ (tO 93) 94)<|o_ 90 true 95 (b_ lookM .gtr 3 (.tmp 91) (.tmp 94) 95)<|pk_ (tO 90) (tO 95) (.con (.bool false)) 96<| .done))
 (.cond (tO 96) (.seq (.reg (bu_ lookM 37 [0] [(.con (.int .i64 (16)))] 97<|sN_ false 3 (tO 4) (tO 97)<| .done))
 .ret) .skip)))
 (.seq (.reg (m_ (tO 1) 98<|nl_ (tO 98) 99<|fa_ 7 (tO 99) 100<|l_ (tO 100) 101<|fa_ 7 (tO 2) 102<|fa_ 0 (tO 102) 103<|l_ (tO 103) 104<|lN_ 16384 (tO 8) 105<|hz_ false (fun xs H=>unitF (zoa lookM 61 (hd xs) (hd (tl xs)) (hd (tl (tl xs))) H)) [(tO 101),(tO 104),(tO 105)]<| .done))
 (.seq (.reg (bu_ lookM 37 [] [] 106<|sN_ false 3 (tO 4) (tO 106)<| .done))
 .ret)))))))))))
theorem f58_eq:fnF lookM 58=some ⟨107,f58c, [.cell 4 37]⟩:=kR
def f75body:Code:=bodyN lookM 75
def f75c:C2:=(.seq (.reg (bx_ false 30 1 (tO 0) 2<|bx_ false 3 1 (tO 1) 3<|m_ (.con .nilFn) 4<| .done))
 (.seq (.seq (.reg (l_ (tO 3) 5<|b_ lookM .lss 3 (.tmp 5) (.const (.int .i64 (1))) 6<| .done))
 (.cond (tO 6) (.reg (p_ (zsa lookM 9) (.con (.str ⟨#[99,97,110,110,111,116,32,98,101,32,108,101,115,115,32,116,104,97,110,32,49]⟩)) 7<|K2.gh false (opN f75body 2 1) none<| .done)) .skip))
 (.seq (.reg (n_ (fun zs _=>some (.fn (.func 89) (zln 0 zs) (restN 0 zs))) [(tO 2),(tO 3)] 8<|m_ (tO 8) 4<| .done))
 .ret)))
theorem f75_eq:fnF lookM 75=some ⟨9,f75c, [.tmp 4]⟩:=kR
end HS
namespace Go.Ev
open HS.Md
def Nb:List Nat->Nat
 | []=>0
 |x::l=>x+256*Nb l
def Byt (l:List Nat):Prop:= ∀x,x∈l->x<256
theorem Byt.app {a b:List Nat}(ha:Byt a) (hb:Byt b):Byt (a ++ b):=fun x hx=>(qs2.1 hx).elim (ha x) (hb x)
theorem Byt.take {l:List Nat}(h:Byt l) (n:Nat):Byt (l.take n):=fun x hx=>h x (qd5 hx)
theorem Byt.drop {l:List Nat}(h:Byt l) (n:Nat):Byt (l.drop n):=fun x hx=>h x (qn3 hx)
theorem Byt.zero (n:Nat):Byt (List.replicate n 0):=fun x hx=>by rw [List.eq_of_mem_replicate hx];decide
theorem Nb_lt:∀{l:List Nat},Byt l->Nb l<256 ^ l.length
 | [],_=>dC
 |x::l,h=>by
  have h1:=h x qt1;have h2:=Nb_lt (l:=l) fun y hy=>h y (qh1 _ hy)
  show x+256*Nb l<256 ^ (l.length+1)
  rw [Nat.pow_succ];omega
theorem zqw:∀(a b:List Nat),Nb (a ++ b)=Nb a+256 ^ a.length*Nb b
 | [],b=>by show Nb b=0+1*Nb b;omega
 |x::a,b=>by
  show x+256*Nb (a ++ b)=x+256*Nb a+256 ^ (a.length+1)*Nb b
  rw [zqw a b,Nat.pow_succ,qr7,← Nat.mul_assoc,qo3 256 (256 ^ a.length),qa6]
theorem zdl:∀n,Nb (List.replicate n 0)=0
 |0=>rfl
 |n+1=>by show 0+256*Nb (List.replicate n 0)=0;rw [zdl n]
theorem pw_eq (n:Nat):Ce.pw n=256 ^ n:=by
 show 2 ^ (8*n)=256 ^ n
 rw [qq7]
theorem Nb_div {a b:List Nat}(ha:Byt a):Nb (a ++ b) / 256 ^ a.length=Nb b:=by
 rw [zqw,qi6 _ _ (Nat.pow_pos dC),qx5 (Nb_lt ha),qu1]
theorem Nb_mod {a b:List Nat}(ha:Byt a):Nb (a ++ b)%256 ^ a.length=Nb a:=by
 rw [zqw,qv5,qs4 (Nb_lt ha)]
theorem zeb1 {l:List Nat}(h:Byt l){o:Nat}(ho:o<=l.length):Nb l / 256 ^ o=Nb (l.drop o):=by
 have:=Nb_div (a:=l.take o) (b:=l.drop o) (h.take o)
 rwa [qn4,qd1,qs3 ho] at this
theorem zfb1 {l:List Nat}(h:Byt l){o:Nat}(ho:o<=l.length):Nb l%256 ^ o=Nb (l.take o):=by
 have:=Nb_mod (a:=l.take o) (b:=l.drop o) (h.take o)
 rwa [qn4,qd1,qs3 ho] at this
theorem zjo1:∀{a b:List Nat},Byt a->Byt b->a.length=b.length->Nb a=Nb b->a=b
 | [], [],_,_,_,_=>rfl
 | [],y::b,_,_,h,_=>by cases h
 |x::a, [],_,_,h,_=>by cases h
 |x::a,y::b,ha,hb,hl,he=>by
  have h1:=ha x qt1;have h2:=hb y qt1;have he:x+256*Nb a=y+256*Nb b:=he;have hxy:x=y:=oM
  have hr:Nb a=Nb b:=oM
  have hl:a.length=b.length:=by simpa using hl
  rw [hxy,zjo1 (fun z hz=>ha z (qh1 _ hz)) (fun z hz=>hb z (qh1 _ hz)) hl hr]
theorem zfo:∀{l:List Nat},Byt l->bytesL l.length (Nb l)=l.map fun x:Nat=>AV.int .u8 (.ofNat x)
 | [],_=>rfl
 |x::l,h=>by
  have h1:=h x qt1;show bytesL (l.length+1) (x+256*Nb l)=AV.int .u8 (.ofNat x)::l.map _
  show AV.int .u8 (.ofNat ((x+256*Nb l)%256))::bytesL l.length ((x+256*Nb l) / 256)=_
  rw [qv5,qs4 h1,qi6 _ _ dC,qx5 h1,qu1,zfo fun y hy=>h y (qh1 _ hy)]
abbrev byC (l:List Nat):Ce:=.byt l.length (Nb l)
abbrev byA (l:List Nat):AV:=.bag l.length (Nb l)
theorem byC_l {l:List Nat}(h:Byt l):(byC l).l=l.map fun x:Nat=>AV.int .u8 (.ofNat x):=zfo h
theorem sub_b {l:List Nat}(h:Byt l){o n:Nat}(ho:o+n<=l.length):Ce.sub (byC l) o n=some (.byt n (Nb ((l.drop o).take n))):=by
 show brec none (some (Ce.byt n (Nat.mod (Nat.shiftRight (Nb l) (Nat.mul 8 o)) (Ce.pw n)))) (Nat.ble n (Nat.sub l.length o))=_
 rw [show Nat.ble n (Nat.sub l.length o)=true from qh (by show n<=l.length - o;omega)]
 show some (Ce.byt n (Nat.mod (Nb l >>> (8*o)) (Ce.pw n)))=_
 rw [qr6,pw_eq,show (2:Nat) ^ (8*o)=256 ^ o from by rw [qq7],zeb1 h oM]
 show some (Ce.byt n (Nb (l.drop o)%256 ^ n))=_
 rw [zfb1 (h.drop o) (by rw [qb2];omega)]
theorem over_b {l x:List Nat}(h:Byt l) (hx:Byt x){o:Nat}(ho:o+x.length<=l.length):Ce.over (byC x) (byC l) o=some (.byt l.length (Nb (l.take o ++ x ++ l.drop (o+x.length)))):=by
 show brec none (some (Ce.byt l.length (Nat.add (Nat.add (Nat.mod (Nb l) (Ce.pw o)) (Nat.mul (Nat.mod (Nb x) (Ce.pw x.length)) (Ce.pw o))) (Nat.mul (Nat.div (Nb l) (Ce.pw (Nat.add o x.length))) (Ce.pw (Nat.add o x.length)))))) (Nat.ble (Nat.add o x.length) l.length)=_
 rw [show Nat.ble (Nat.add o x.length) l.length=true from qh ho]
 show some (Ce.byt l.length (Nb l%Ce.pw o+Nb x%Ce.pw x.length*Ce.pw o+Nb l / Ce.pw (o+x.length)*Ce.pw (o+x.length)))=_
 rw [pw_eq,pw_eq,pw_eq,zfb1 h oM,qs4 (Nb_lt hx),zeb1 h oM,zqw,zqw,qy,qd1,qs3 (by omega:o<=l.length)]
 rw [qo3 (Nb x),qo3 (Nb (l.drop _))]
theorem sbB_b {l:List Nat}(h:Byt l){e z o n:Nat}{op ro:Bool}(ho:o+n<=l.length):sbB (some (.cells (byC l) e z op ro)) o n=some (.bag n (Nb ((l.drop o).take n))):=by
 show (match Ce.sub (byC l) o n with|some c'=>some c'.toV|none=>none)=_
 rw [sub_b h ho];rfl
theorem wrN_b {l x:List Nat}(h:Byt l) (hx:Byt x){e z i o n:Nat}{op:Bool}{H:AH}(hn:x.length=n) (ho:o+n<=l.length) :
  wrN (some (.cells (byC l) e z op false)) i o n (byC x) H=some (H.put i (.cells (.byt l.length (Nb (l.take o ++ x ++ l.drop (o+n)))) e z op false)):=by
 subst hn;show (match (byC x).one with
  |true=>(match Nat.beq (byC x).len x.length,Ce.over (byC x) (byC l) o with|true,some c'=>some (H.put i (.cells c' e z op false))|_,_=>none)
  |false=>none)=_
 rw [over_b h hx ho];show (match Nat.beq x.length x.length,some _ with|true,some c'=>some (H.put i (.cells c' e z op false))|_,_=>none)=_
 rw [show Nat.beq x.length x.length=true from qr2 _]
theorem zko1 {l x:List Nat}{o:Nat}(ho:o+x.length<=l.length):(l.take o ++ x ++ l.drop (o+x.length)).length=l.length:=by
 rw [qy,qy,qd1,qb2];omega
end Go.Ev
namespace HS
set_option maxRecDepth 100000
open HS.Md
structure BkOk (b:Bk):Prop where
 len:b.length=16384
 byt:Byt b
abbrev bkA (b:Bk):AV:=.bag 16384 (Nb b)
abbrev bkC (b:Bk):Ce:=.byt 16384 (Nb b)
theorem zfd (n N:Nat):AV.toC (.bag n N)= .byt n N:=rfl
theorem zeroB_ok:BkOk zeroB:=⟨qh3,Byt.zero _⟩
theorem zim:Nb zeroB=0:=zdl _
theorem zvp {b:Bk}(h:b.length=16384){k:Nat}(hk:k<64):(atB b k).length=256:=by
 unfold atB;rw [qd1,qb2];omega
theorem znu {b:Bk}(h:Byt b) (k:Nat):Byt (atB b k):=(h.drop _).take _
theorem znl {b:Bk}(h:BkOk b) (e z:Nat) (op ro:Bool):sbB (some (.cells (bkC b) e z op ro)) 0 16384=some (bkA b):=by
 have:=sbB_b h.byt (e:=e) (z:=z) (o:=0) (n:=16384) (op:=op) (ro:=ro) (by rw [h.len];decide)
 rw [qt2,qx (by rw [h.len];decide)] at this
 unfold byC at this
 rwa [h.len] at this
theorem eq89 (N M:Nat) (xo yo:Operand):binF .neq (evBin lookM .neq 89 xo yo) (.bag 256 N) (.bag 256 M)=some (.bool (!Nat.beq (Nat.mod N (Ce.pw 256)) (Nat.mod M (Ce.pw 256)))):=kR
theorem z89:zC lookM 89= .byt 256 0:=kR
theorem z100:zC lookM 100= .byt 16384 0:=kR
theorem bu89:zua lookM 89 (zipF [] [])=some (.bag 256 0):=kR
theorem bu100:zua lookM 100 (zipF [] [])=some (.bag 16384 0):=kR
theorem u100:lookM.under 100=some (.array 64 89):=kR
theorem s89:lookM.size 89=some 256:=kR
theorem u89:lookM.under 89=some (.array 256 5):=kR
theorem a89:lookM.isAgg 89=some true:=kR
theorem ix100 {b:Bk}(h:BkOk b){k:Nat}(hk:k<64):zvd lookM 100 (bkA b) (.int .i64 (k:Int))=some (.bag 256 (Nb (atB b k))):=by
 unfold zvd;have hsub:=sub_b h.byt (o:=k*256) (n:=256) (by rw [h.len];omega)
 unfold byC at hsub;rw [h.len] at hsub;simp only [show natOf (.int .i64 (k:Int))=some k from rfl,u100,s89,show AV.aggC (bkA b)=some (bkC b) from rfl,show Nat.blt k 64=true from qh hk]
 unfold ztc;simp only [u89,s89,hsub];simp only [a89];show some (AV.bag 256 (Nb (List.take 256 (List.drop (k*256) b))))=_
 unfold atB;rw [qo3 256 k]
theorem nz {l:List Nat}(h:Byt l) (hl:l.length=256):(!Nat.beq (Nat.mod (Nb l) (Ce.pw 256)) (Nat.mod 0 (Ce.pw 256)))= !decide (l=noB):=by
 have h1:Nat.mod (Nb l) (Ce.pw 256)=Nb l:=by
  show Nb l%Ce.pw 256=_
  rw [pw_eq];exact qs4 (by have:=Nb_lt h;rwa [hl] at this)
 have h2:∀k,Nat.mod 0 k=0:=fun k=>Nat.zero_mod k;rw [h1,h2];congr 1;by_cases e:l=noB
 ·rw [qo e,e]
  show Nat.beq (Nb (List.replicate 256 0)) 0=true
  rw [zdl];rfl
 ·rw [qp e]
  refine qf3.2 fun hb=>e ?_
  have hb:Nb l=0:=qi hb;exact zjo1 h (Byt.zero 256) (by rw [hl];exact List.length_replicate.symm) (by rw [hb];exact (zdl 256).symm)
theorem w256 {x:List Nat}(hx:Byt x) (hl:x.length=256) (i e:Nat) (op:Bool) (H:AH):wrN (some (.cells (.byt 256 0) e 256 op false)) i 0 256 (.byt 256 (Nb x)) H=some (H.put i (.cells (.byt 256 (Nb x)) e 256 op false)):=by
 have h:=wrN_b (l:=List.replicate 256 0) (x:=x) (e:=e) (z:=256) (i:=i) (o:=0) (n:=256) (op:=op) (H:=H) (Byt.zero 256) hx hl (by rw [qh3];decide)
 unfold byC at h;rw [zdl,hl,qh3,qp5,qk1,qw3 (by rw [qh3];decide),qy1] at h
 exact h
theorem all256 {x:List Nat}(hx:Byt x) (hl:x.length=256) (e z:Nat) (op ro:Bool):sbB (some (.cells (.byt 256 (Nb x)) e z op ro)) 0 256=some (.bag 256 (Nb x)):=by
 have:=sbB_b hx (e:=e) (z:=z) (o:=0) (n:=256) (op:=op) (ro:=ro) (by rw [hl];decide)
 rw [qt2,qx (by rw [hl];decide)] at this
 unfold byC at this
 rwa [hl] at this
theorem zmd (b:Bk):∀(n k:Nat),zig b k n<=n
 |0,_=>qh2 _
 |n+1,k=>by
  have:=zmd b n (k+1);show (if atB b k=noB then 0 else 1)+zig b (k+1) n<=n+1
  split<;>omega
theorem zou {H:AH}[hn:HN H]{b:Bk}(h:BkOk b):FnE lookM 73 [bkA b] H fun r H'=>r= .int .i64 (usedB b:Nat)/\HX H H':=by
 refine fI Tryz.f73 ?_;have hlo:=hn.lo;have ha:=fun e z op ro=>znl h e z op ro
 have F:=J2 @zfd @ha;refine uT ?_;have hx1:HX H (H.new (.cells (bkC b) 100 16384 false false)):=HX.new _ _;refine rc_l (fun n T H'=> ∃q c,n+q=64/\HX H H'/\c+zig b q n=usedB b/\gT T 3= .int .i64 (c:Nat)/\gT T 6=bkA b/\gT T 7= .int .i64 q) 64 ?_ ?_
 ·exact ⟨0,0,rfl,hx1,by unfold usedB;omega,by refine uT0 ?_;rfl,vT0,by refine uT0 ?_;rfl⟩
 rintro n T H1 ⟨q,c,hnq,hx1,hc,t3,t6,t7⟩;haveI:=hx1.hn;have hlo1:H1.lo<=H1.next:=HN.lo;have hn1:=hx1.next;cases n with
 |zero =>
  have hc:c=usedB b:=hc;have d1:decide ((q:Int)<64)=false:=qp oM
  have F:=J4 @t3 @t6 @t7 @d1;refine uT ?_;exact ⟨by rw [hc],hx1⟩
 |succ n =>
  have d1:decide ((q:Int)<64)=true:=qo oM
  have hix:=ix100 h (k:=q) oM
  have hl:=zvp h.len (k:=q) oM
  have hb:=znu h.byt q;have hw:=w256 hb hl;have hal:=all256 hb hl;have hnz:=nz hb hl;have hc2:c+((if atB b q=noB then 0 else 1)+zig b (q+1) n)=usedB b:=hc
  have hle:=zmd b n (q+1);have hle2:usedB b<=64:=zmd b 64 0;by_cases e:atB b q=noB
  ·rw [qj e] at hc2
   rw [qo e] at hnz;have F:=J12 @t3 @t6 @t7 @d1 @hix @zfd @z89 @hw @hal @bu89 @eq89 @hnz;refine uT ?_;exact ⟨n,oM,q+1,c,oM,by have K:=hx1;exact hxk,oM,rfl,by push_cast;rfl⟩
  ·rw [qg e] at hc2
   rw [qp e] at hnz;have F:=J12 @t3 @t6 @t7 @d1 @hix @zfd @z89 @hw @hal @bu89 @eq89 @hnz;refine uT ?_;exact ⟨n,oM,q+1,c+1,oM,by have K:=hx1;exact hxk,oM,by push_cast;rfl,by push_cast;rfl⟩
theorem zpu {b:Bk}(h:BkOk b){x:List Nat}(hx:Byt x){o:Nat}(ho:o+x.length<=16384):BkOk (putB b o x):=by
 refine ⟨?_,((h.byt.take _).app hx).app (h.byt.drop _)⟩;unfold putB;rw [zko1 (by rw [h.len];exact ho)]
 exact h.len
theorem zgb1 {b:Bk}(h:BkOk b){f j:Nat}(hj:f+j<=64):BkOk (cutK b f j):=zpu h (Byt.zero _) (by rw [qh3];omega)
theorem zlo1 (b:Bk) (f:Nat):cutK b f 0=b:=by
 unfold cutK putB;simp
theorem cutK_s {b:Bk}(h:b.length=16384){f j:Nat}(hj:f+j<64):putB (cutK b f j) (256*(f+j)) (List.replicate 256 0)=cutK b f (j+1):=by
 unfold cutK putB;have e1:(List.take (256*f) b ++ List.replicate (256*j) 0).length=256*(f+j):=by
  rw [qy,qd1,qh3];omega
 simp only [qh3];rw [qp7 e1,← qk3,qe6 e1,qk3,qg1 (List.take _ _) (List.replicate _ _) (List.replicate _ _),List.replicate_append_replicate];rw [show 256*j+256=256*(j+1) from oM,show 256*f+256*j+256=256*f+256*(j+1) from oM]
theorem zaj {b:Bk}(h:BkOk b){f t:Nat}(ht:t<=64):BkOk (cutK b f (t - f)):=by
 by_cases e:f<=t
 ·exact zgb1 h oM
 ·rw [show t - f=0 from oM,zlo1];exact h
theorem ld100 (i o:Nat) (H:AH):zvb lookM 100 (.ptr i o) H=ldN 16384 (.ptr i o) H:=zdh kR kR
theorem wbk {b:Bk}(h:BkOk b){x:List Nat}(hx:Byt x) (hl:x.length=256){k:Nat}(hk:k<64) (i e z:Nat) (op:Bool) (H:AH) :
  wrN (some (.cells (bkC b) e z op false)) i (k*256) 256 (.byt 256 (Nb x)) H=some (H.put i (.cells (bkC (putB b (256*k) x)) e z op false)):=by
 have h1:=wrN_b (l:=b) (x:=x) (e:=e) (z:=z) (i:=i) (o:=k*256) (n:=256) (op:=op) (H:=H) h.byt hx hl (by rw [h.len];omega)
 unfold byC at h1;rw [hl,h.len,qo3 k 256] at h1;unfold putB;rw [hl,qo3 k 256];exact h1
theorem wbk0 (i e:Nat) (op:Bool) (H:AH){b:Bk}(h:BkOk b):wrN (some (.cells (.byt 16384 0) e 16384 op false)) i 0 16384 (bkC b) H=some (H.put i (.cells (bkC b) e 16384 op false)):=by
 have h1:=wrN_b (l:=zeroB) (x:=b) (e:=e) (z:=16384) (i:=i) (o:=0) (n:=16384) (op:=op) (H:=H) zeroB_ok.byt h.byt h.len (by rw [zeroB_ok.len];decide)
 unfold byC at h1;rw [h.len,zeroB_ok.len,zim,qp5,qk1,qw3 (by rw [zeroB_ok.len];decide),qy1] at h1
 exact h1
theorem zij1 {H:AH}[hn:HN H]{b:Bk}(h:BkOk b){f t:Nat}(ht:t<=64) (hf:f<=1000000):FnE lookM 74 [bkA b,.int .i64 f,.int .i64 t] H fun r H'=>r=bkA (cutK b f (t - f))/\HX H H':=by
 refine fI Tryz.f74 ?_;have hlo:=hn.lo;have F:=J2 @zfd @z100;refine uT ?_;refine rc_l (fun n T H'=> ∃j,n+j=t - f/\HX H H'/\H.next+2<=H'.next/\H'.get H.next=some (.cells (bkC (cutK b f j)) 100 16384 false false)/\H'.get (H.next+1)=some (.cells (.byt 16384 0) 100 16384 false false) /\
  gT T 2= .int .i64 t/\gT T 3= .ptr H.next 0/\gT T 6= .ptr (H.next+1) 0/\gT T 7= .int .i64 (f+j:Nat)) (t - f) ?_ ?_
 ·exact ⟨0,oM,hxt,qn _,by rw [zlo1];simp (maxSteps:=1000000) (disch:=first|assumption|omega|rfl|(simp only [nx];omega)|(simp only [lens]<;>omega)) only [rq,rq2,zsi,lsE_s,qz3,qu3,Nat.reduceEqDiff,Nat.reduceAdd,reduceIte,reduceCtorEq,ne_eq,qb3,qu2,qh5,qb5],zaa _,vT0,vT0,vT0,wT0⟩
 rintro n T H1 ⟨j,hnj,hx1,hn1,g0,g1,t2,t3,t6,t7⟩;haveI:=hx1.hn;have hlo1:H1.lo=H.lo:=hx1.lo;have e01:=hEq_f (oM:H.next≠H.next+1)
 cases n with
 |zero =>
  have d1:decide (((f+j:Nat):Int)<t)=false:=qp oM
  have hj:j=t - f:=oM
  rw [hj] at g0;have hok:=zaj h (f:=f) ht;have ha:=fun e z op ro=>znl hok e z op ro
  have hw:=fun i e op H=>wbk0 i e op H hok
  have F:=J11 @t2 @t3 @t6 @t7 @d1 @g0 @g1 @ha @zfd @hw @ld100;refine uT ?_;have K:=hx1;exact hxk
 |succ n =>
  have d1:decide (((f+j:Nat):Int)<t)=true:=qo oM
  have hok:=zgb1 h (f:=f) (j:=j) oM
  have hw:=wbk hok (Byt.zero 256) qh3 (k:=f+j) oM
  rw [zdl,cutK_s h.len oM] at hw
  have hix:=ixA_n (n:=64) (z:=256) (i:=H.next) (o:=0) (k:=f+j) oM
  have F:=J10 @t2 @t3 @t6 @t7 @d1 @bu89 @zfd @hix @g0 @hw;refine uT ?_;exact ⟨n,oM,j+1,oM,HX.put hx1 (qn _) _,hn1,rfl,g1,by push_cast;rw [Int.add_assoc]⟩
def mdL (nn:Int) (v lv:AV) (mb:Nat):List AV:= [.int .i64 nn,v,.int .i64 0,.int .i64 0,.int .i64 0,.int .i64 0,lv,.map mb]
abbrev mdx (nn:Int) (v lv:AV) (mb:Nat):ABlk:=.cells (.lst (mdL nn v lv mb)) 63 8 false false
theorem md_0 (nn:Int) (v lv:AV) (mb:Nat):nth (mdL nn v lv mb) 0=some (.int .i64 nn):=rfl
theorem md_1 (nn:Int) (v lv:AV) (mb:Nat):nth (mdL nn v lv mb) 1=some v:=rfl
theorem md_7 (nn:Int) (v lv:AV) (mb:Nat):nth (mdL nn v lv mb) 7=some (.map mb):=rfl
theorem md_t (nn:Int) (v lv:AV) (mb:Nat) (e z:Nat) (op ro:Bool):sbB (some (.cells (.lst (mdL nn v lv mb)) e z op ro)) 0 7=some (tbA nn v lv):=by
 rw [sbB_l];rfl
theorem nil23 (i o:Nat) (xo yo:Operand):binF .eql (evBin lookM .eql 23 xo yo) (.ptr i o) .nilPtr=some (.bool false):=kR
theorem nil61 (i:Nat) (xo yo:Operand):binF .eql (evBin lookM .eql 61 xo yo) (.map i) .nilMap=some (.bool false):=kR
def MpR (H:AH) (mb:Nat) (f:Int->Bk):Prop:=mb<H.next/\ ∃es c kv,H.get mb=some (.map es c)/\IsM es kv/\NdK kv/\ ∀k,(lkK k kv).getD (.bag 16384 0)=bkA (f k)/\BkOk (f k)
structure MdR (H:AH) (b mb:Nat) (s:Ms) (v lv:AV):Prop where
 lt:b<H.next
 box:H.get b=some (mdx s.t.nx v lv mb)
 rd:RdR H v s.t.rs
 lv:LvD H lv
 mp:MpR H mb s.b
theorem MdR.sl {H:AH}{b mb:Nat}{s:Ms}{v lv:AV}(h:MdR H b mb s v lv):SlRc H v (nl s.t.rs):=h.rd.sl
theorem MdR.ne {H:AH}{b mb:Nat}{s:Ms}{v lv:AV}(h:MdR H b mb s v lv):b≠mb:=fun e=>by
 obtain ⟨_,es,c,kv,hg,_⟩:=h.mp;subst e;have hg':=h.box;rw [hg] at hg';cases hg'
theorem MdR.hx {H H':AH}{b mb:Nat}{s:Ms}{v lv:AV}(h:MdR H b mb s v lv) (hx:HX H H'):MdR H' b mb s v lv:=by
 obtain ⟨h1,es,c,kv,hg,h2⟩:=h.mp;exact ⟨qa1 h.lt hx.next,(hx.get h.lt).trans h.box,h.rd.hq (hx.hp fun _=>True) fun _ _ _ _ _ _=>trivial,h.lv.hx hx,qa1 h1 hx.next,es,c,kv,(hx.get h1).trans hg,h2⟩
theorem zqu {H:AH}[hn:HN H]{b mb:Nat}{s:Ms}{v lv:AV}(h:MdR H b mb s v lv):FnE lookM 27 [.ptr b 0] H fun r H'=>r= .bool false/\HX H H':=by
 refine fI Tryz.f27 ?_;have hb:=h.box;have F:=J4 @nil23 @nil61 @hb @md_7;refine uT ?_;exact HX.refl _
theorem rcz_bu:zua lookM 84 (zipF [] [])=some (.agg (rcL (.nilSl,Rc0))):=kR
theorem zpr {H:AH}[hn:HN H]{b mb:Nat}{s:Ms}{v lv:AV}{nm:ByteArray}(h:MdR H b mb s v lv) (hlen:s.t.rs.length<=900) :
  FnE lookM 46 [.ptr b 0,.str nm] H fun r H'=>r= .tup [.agg (rcL (.nilSl,recO s.t nm)),.bool (hasB nm s.t.rs)]/\HX H H':=by
 refine fI Tryz.f46 ?_;have hlo:=hn.lo;have hb:=h.box;have hlt:=h.lt;have e1:=hEq_f (oM:b≠H.next)
 have F:=J3 @hb @md_t @e1;refine uT ?_;refine cR_at (fun H1=>HX H H1/\H1.next=H.next+1/\ ∃l,l.length=44/\H1.get H.next=some (.cells (.lst l) 84 44 false false)) ?_ ?_
 ·exact ⟨hxt,rfl,_,rfl,zaa _⟩
 rintro H1 ⟨hx1,hn1,zl,hzl,g1⟩;haveI:=hx1.hn;refine cR_f (zbi (h.hx hx1).sl hlen) ?_;rintro r2 H2 ⟨rfl,hx2⟩;have hx02:=hx1.trans hx2;have hn2:=hx2.next;have g1:=(hx2.get (i:=H.next) oM).trans g1
 have hb2:=(h.hx hx02).box;haveI:=hx02.hn;have hlo2:H2.lo=H.lo:=hx02.lo;unfold recO;cases a2:hasB nm s.t.rs with
 |false =>
  have hw:=fun i op H=>wrN_l (l:=zl) (lv:=rcL (.nilSl,Rc0)) (e:=84) (z:=44) (i:=i) (n:=44) (op:=op) (H:=H) hzl rfl rfl
  have F:=J6 @rcz_bu @zra @g1 @hw @zzd @ld44;refine uX ?_;exact HX.put hx02 oM _
 |true =>
  obtain ⟨q1,q2⟩:=zeb a2;have h2:=h.hx hx02;have hix:=ix44 (z:=44) (q:=fndI nm s.t.rs) h2.sl.is (by rw [zhc];exact q1)
  have hld:=h2.sl.agg (nl_at q1);have hw:=fun i op H=>wrN_l (l:=zl) (lv:=rcL (AV.nilSl,get s.t.rs (fndI nm s.t.rs))) (e:=84) (z:=44) (i:=i) (n:=44) (op:=op) (H:=H) hzl rfl (zbc _ rfl)
  have F:=J9 @hb2 @md_1 @hix @hld @zra @g1 @hw @zzd @ld44;refine uT ?_;exact HX.put hx02 oM _
structure Bd (t:Tb):Prop where
 len:t.rs.length<=900
 nm:∀r,r∈t.rs->r.nm.size<=100000
 nx:0<=t.nx/\t.nx<=4294967296
theorem MdR.tb {H:AH}{b mb:Nat}{s:Ms}{v lv:AV}(h:MdR H b mb s v lv) (hb:Bd s.t):TbIn H s.t v lv:=⟨h.sl,h.lv.lv,hb.len,hb.nm,hb.nx⟩
set_option maxHeartbeats 16000000 in
theorem zhb1 {H:AH}[hn:HN H]{b mb:Nat}{s:Ms}{v lv:AV}{o:Od}{ov bv:AV}(h:MdR H b mb s v lv) (hd:Bd s.t) (hs:o.nm.size<=100000) (hto:o.to.size<=100000) :
  FnE lookM 133 [.ptr b 0,odA o ov bv] H fun r H'=>TbR H' r (chgT s.t o)/\HX H H':=by
 refine fI Tryz.f133 ?_;have hlo:=hn.lo;have hb:=h.box;have hlt:=h.lt;have e0:=hEq_f (oM:b≠H.next)
 have e1:=hEq_f (oM:b≠H.next+1)
 have e01:=hEq_f (oM:H.next≠H.next+1)
 have o1:=o0;have F:=J4 @zvf @zdb @od_0 @e01;refine uT ?_;cases a1:decide (o.op=1) with
 |true =>
  have e:=qe a1;have ec:chgT s.t o=makeT s.t o.nm o.n:=by unfold chgT;simp only [e];rfl
  rw [ec];have F:=J10 @od_0 @od_1 @od_2 @od_3 @od_4 @hb @md_t @e0 @e1 @e01;refine uT ?_;refine cR_at (fun H1=>HX H H1/\H1.next=H.next+2/\H1.get (H.next+1)=some (tbx 0 .nilSl .nilSl)) ?_ ?_
  ·exact ⟨hxt,rfl,zaa _⟩
  rintro H1 ⟨hx1,hn1,g1⟩;haveI:=hx1.hn;refine cR_f (make_ok ((h.hx hx1).tb hd) hs) ?_;rintro r2 H2 ⟨ht2,hx2⟩;have hx02:=hx1.trans hx2;have g1:=(hx2.get (i:=H.next+1) oM).trans g1
  haveI:=hx02.hn;have hlo2:H2.lo=H.lo:=hx02.lo;rcases ht2 with ⟨e,he,h1,rfl⟩|⟨t2,v2,l2,h1,rfl,h3,h4⟩
  ·have F:=J5 @g1 @zda @zba @zha @ld7;refine uT ?_
   exact ⟨.inl ⟨e,he,h1,rfl⟩,HX.put hx02 oM _⟩
  ·have o2:=zbb (nn:=t2.nx) (v:=v2) (lv:=l2) (RdR.one h3) (OwnS.one h4).1
   have F:=J5 @g1 @zda @zba @zha @ld7;refine uT ?_;obtain ⟨p1,p2⟩:=TbR.put h3 h4 g1 (tbx t2.nx v2 l2);exact ⟨.inr ⟨t2,v2,l2,h1,rfl,p1,p2⟩,HX.put hx02 oM _⟩
 |false =>
 have n1:¬o.op=1:=qf a1;refine uT0 ?_;cases a2:decide (o.op=2) with
 |true =>
  have e:=qe a2;have ec:chgT s.t o=snapT s.t o.nm:=by unfold chgT;simp only [e];rfl
  rw [ec];have F:=J10 @od_0 @od_1 @od_2 @od_3 @od_4 @hb @md_t @e0 @e1 @e01;refine uT ?_;refine cR_at (fun H1=>HX H H1/\H1.next=H.next+2/\H1.get (H.next+1)=some (tbx 0 .nilSl .nilSl)) ?_ ?_
  ·exact ⟨hxt,rfl,zaa _⟩
  rintro H1 ⟨hx1,hn1,g1⟩;haveI:=hx1.hn;refine cR_f (zjn1 ((h.hx hx1).tb hd) hs) ?_;rintro r2 H2 ⟨ht2,hx2⟩;have hx02:=hx1.trans hx2;have g1:=(hx2.get (i:=H.next+1) oM).trans g1
  haveI:=hx02.hn;have hlo2:H2.lo=H.lo:=hx02.lo;rcases ht2 with ⟨e,he,h1,rfl⟩|⟨t2,v2,l2,h1,rfl,h3,h4⟩
  ·have F:=J5 @g1 @zda @zba @zha @ld7;refine uT ?_
   exact ⟨.inl ⟨e,he,h1,rfl⟩,HX.put hx02 oM _⟩
  ·have o2:=zbb (nn:=t2.nx) (v:=v2) (lv:=l2) (RdR.one h3) (OwnS.one h4).1
   have F:=J5 @g1 @zda @zba @zha @ld7;refine uT ?_;obtain ⟨p1,p2⟩:=TbR.put h3 h4 g1 (tbx t2.nx v2 l2);exact ⟨.inr ⟨t2,v2,l2,h1,rfl,p1,p2⟩,HX.put hx02 oM _⟩
 |false =>
 have n2:¬o.op=2:=qf a2;refine uT0 ?_;cases a3:decide (o.op=3) with
 |true =>
  have e:=qe a3;have ec:chgT s.t o=zxn s.t o.nm o.to:=by unfold chgT;simp only [e];rfl
  rw [ec];have F:=J10 @od_0 @od_1 @od_2 @od_3 @od_4 @hb @md_t @e0 @e1 @e01;refine uT ?_;refine cR_at (fun H1=>HX H H1/\H1.next=H.next+2/\H1.get (H.next+1)=some (tbx 0 .nilSl .nilSl)) ?_ ?_
  ·exact ⟨hxt,rfl,zaa _⟩
  rintro H1 ⟨hx1,hn1,g1⟩;haveI:=hx1.hn;refine cR_f (znf1 ((h.hx hx1).tb hd) hs hto) ?_;rintro r2 H2 ⟨ht2,hx2⟩;have hx02:=hx1.trans hx2;have g1:=(hx2.get (i:=H.next+1) oM).trans g1
  haveI:=hx02.hn;have hlo2:H2.lo=H.lo:=hx02.lo;rcases ht2 with ⟨e,he,h1,rfl⟩|⟨t2,v2,l2,h1,rfl,h3,h4⟩
  ·have F:=J5 @g1 @zda @zba @zha @ld7;refine uT ?_
   exact ⟨.inl ⟨e,he,h1,rfl⟩,HX.put hx02 oM _⟩
  ·have o2:=zbb (nn:=t2.nx) (v:=v2) (lv:=l2) (RdR.one h3) (OwnS.one h4).1
   have F:=J5 @g1 @zda @zba @zha @ld7;refine uT ?_;obtain ⟨p1,p2⟩:=TbR.put h3 h4 g1 (tbx t2.nx v2 l2);exact ⟨.inr ⟨t2,v2,l2,h1,rfl,p1,p2⟩,HX.put hx02 oM _⟩
 |false =>
 have n3:¬o.op=3:=qf a3;refine uT0 ?_;cases a4:decide (o.op=4) with
 |true =>
  have e:=qe a4;have ec:chgT s.t o=rollT s.t o.nm:=by unfold chgT;simp only [e];rfl
  rw [ec];have F:=J10 @od_0 @od_1 @od_2 @od_3 @od_4 @hb @md_t @e0 @e1 @e01;refine uT ?_;refine cR_at (fun H1=>HX H H1/\H1.next=H.next+2/\H1.get (H.next+1)=some (tbx 0 .nilSl .nilSl)) ?_ ?_
  ·exact ⟨hxt,rfl,zaa _⟩
  rintro H1 ⟨hx1,hn1,g1⟩;haveI:=hx1.hn;refine cR_f (zon1 ((h.hx hx1).tb hd) hs) ?_;rintro r2 H2 ⟨ht2,hx2⟩;have hx02:=hx1.trans hx2;have g1:=(hx2.get (i:=H.next+1) oM).trans g1
  haveI:=hx02.hn;have hlo2:H2.lo=H.lo:=hx02.lo;rcases ht2 with ⟨e,he,h1,rfl⟩|⟨t2,v2,l2,h1,rfl,h3,h4⟩
  ·have F:=J5 @g1 @zda @zba @zha @ld7;refine uT ?_
   exact ⟨.inl ⟨e,he,h1,rfl⟩,HX.put hx02 oM _⟩
  ·have o2:=zbb (nn:=t2.nx) (v:=v2) (lv:=l2) (RdR.one h3) (OwnS.one h4).1
   have F:=J5 @g1 @zda @zba @zha @ld7;refine uT ?_;obtain ⟨p1,p2⟩:=TbR.put h3 h4 g1 (tbx t2.nx v2 l2);exact ⟨.inr ⟨t2,v2,l2,h1,rfl,p1,p2⟩,HX.put hx02 oM _⟩
 |false =>
 have n4:¬o.op=4:=qf a4;refine uT0 ?_;cases a5:decide (o.op=5) with
 |true =>
  have e:=qe a5;have ec:chgT s.t o=dropT s.t o.nm:=by unfold chgT;simp only [e];rfl
  rw [ec];have F:=J10 @od_0 @od_1 @od_2 @od_3 @od_4 @hb @md_t @e0 @e1 @e01;refine uT ?_;refine cR_at (fun H1=>HX H H1/\H1.next=H.next+2/\H1.get (H.next+1)=some (tbx 0 .nilSl .nilSl)) ?_ ?_
  ·exact ⟨hxt,rfl,zaa _⟩
  rintro H1 ⟨hx1,hn1,g1⟩;haveI:=hx1.hn;refine cR_f (zsn1 ((h.hx hx1).tb hd) hs) ?_;rintro r2 H2 ⟨ht2,hx2⟩;have hx02:=hx1.trans hx2;have g1:=(hx2.get (i:=H.next+1) oM).trans g1
  haveI:=hx02.hn;have hlo2:H2.lo=H.lo:=hx02.lo;rcases ht2 with ⟨e,he,h1,rfl⟩|⟨t2,v2,l2,h1,rfl,h3,h4⟩
  ·have F:=J5 @g1 @zda @zba @zha @ld7;refine uT ?_
   exact ⟨.inl ⟨e,he,h1,rfl⟩,HX.put hx02 oM _⟩
  ·have o2:=zbb (nn:=t2.nx) (v:=v2) (lv:=l2) (RdR.one h3) (OwnS.one h4).1
   have F:=J5 @g1 @zda @zba @zha @ld7;refine uT ?_;obtain ⟨p1,p2⟩:=TbR.put h3 h4 g1 (tbx t2.nx v2 l2);exact ⟨.inr ⟨t2,v2,l2,h1,rfl,p1,p2⟩,HX.put hx02 oM _⟩
 |false =>
 have n5:¬o.op=5:=qf a5;refine uT0 ?_;cases a6:decide (o.op=6) with
 |true =>
  have e:=qe a6;have ec:chgT s.t o=renT s.t o.nm o.to:=by unfold chgT;simp only [e];rfl
  rw [ec];have F:=J10 @od_0 @od_1 @od_2 @od_3 @od_4 @hb @md_t @e0 @e1 @e01;refine uT ?_;refine cR_at (fun H1=>HX H H1/\H1.next=H.next+2/\H1.get (H.next+1)=some (tbx 0 .nilSl .nilSl)) ?_ ?_
  ·exact ⟨hxt,rfl,zaa _⟩
  rintro H1 ⟨hx1,hn1,g1⟩;haveI:=hx1.hn;refine cR_f (renf_ok ((h.hx hx1).tb hd) hs hto) ?_;rintro r2 H2 ⟨ht2,hx2⟩;have hx02:=hx1.trans hx2;have g1:=(hx2.get (i:=H.next+1) oM).trans g1
  haveI:=hx02.hn;have hlo2:H2.lo=H.lo:=hx02.lo;rcases ht2 with ⟨e,he,h1,rfl⟩|⟨t2,v2,l2,h1,rfl,h3,h4⟩
  ·have F:=J5 @g1 @zda @zba @zha @ld7;refine uT ?_
   exact ⟨.inl ⟨e,he,h1,rfl⟩,HX.put hx02 oM _⟩
  ·have o2:=zbb (nn:=t2.nx) (v:=v2) (lv:=l2) (RdR.one h3) (OwnS.one h4).1
   have F:=J5 @g1 @zda @zba @zha @ld7;refine uT ?_;obtain ⟨p1,p2⟩:=TbR.put h3 h4 g1 (tbx t2.nx v2 l2);exact ⟨.inr ⟨t2,v2,l2,h1,rfl,p1,p2⟩,HX.put hx02 oM _⟩
 |false =>
 have n6:¬o.op=6:=qf a6;refine uT0 ?_;cases a7:decide (o.op=7) with
 |true =>
  have e:=qe a7;have ec:chgT s.t o=sizeT s.t o.nm o.n:=by unfold chgT;simp only [e];rfl
  rw [ec];have F:=J10 @od_0 @od_1 @od_2 @od_3 @od_4 @hb @md_t @e0 @e1 @e01;refine uT ?_;refine cR_at (fun H1=>HX H H1/\H1.next=H.next+2/\H1.get (H.next+1)=some (tbx 0 .nilSl .nilSl)) ?_ ?_
  ·exact ⟨hxt,rfl,zaa _⟩
  rintro H1 ⟨hx1,hn1,g1⟩;haveI:=hx1.hn;refine cR_f (resz_ok ((h.hx hx1).tb hd) hs) ?_;rintro r2 H2 ⟨ht2,hx2⟩;have hx02:=hx1.trans hx2;have g1:=(hx2.get (i:=H.next+1) oM).trans g1
  haveI:=hx02.hn;have hlo2:H2.lo=H.lo:=hx02.lo;rcases ht2 with ⟨e,he,h1,rfl⟩|⟨t2,v2,l2,h1,rfl,h3,h4⟩
  ·have F:=J5 @g1 @zda @zba @zha @ld7;refine uT ?_
   exact ⟨.inl ⟨e,he,h1,rfl⟩,HX.put hx02 oM _⟩
  ·have o2:=zbb (nn:=t2.nx) (v:=v2) (lv:=l2) (RdR.one h3) (OwnS.one h4).1
   have F:=J5 @g1 @zda @zba @zha @ld7;refine uT ?_;obtain ⟨p1,p2⟩:=TbR.put h3 h4 g1 (tbx t2.nx v2 l2);exact ⟨.inr ⟨t2,v2,l2,h1,rfl,p1,p2⟩,HX.put hx02 oM _⟩
 |false =>
 have n7:¬o.op=7:=qf a7;refine uT0 ?_;have ec:chgT s.t o=limT s.t o.nm o.n o.m:=by unfold chgT;rw [qg n1,qg n2,qg n3,qg n4,qg n5,qg n6,qg n7]
 rw [ec];have F:=J10 @od_0 @od_1 @od_2 @od_3 @od_4 @hb @md_t @e0 @e1 @e01;refine uT ?_;refine cR_at (fun H1=>HX H H1/\H1.next=H.next+2/\H1.get (H.next+1)=some (tbx 0 .nilSl .nilSl)) ?_ ?_
 ·exact ⟨hxt,rfl,zaa _⟩
 rintro H1 ⟨hx1,hn1,g1⟩;haveI:=hx1.hn;refine cR_f (lim_ok ((h.hx hx1).tb hd) hs) ?_;rintro r2 H2 ⟨ht2,hx2⟩;have hx02:=hx1.trans hx2;have g1:=(hx2.get (i:=H.next+1) oM).trans g1
 haveI:=hx02.hn;have hlo2:H2.lo=H.lo:=hx02.lo;rcases ht2 with ⟨e,he,h1,rfl⟩|⟨t2,v2,l2,h1,rfl,h3,h4⟩
 ·have F:=J5 @g1 @zda @zba @zha @ld7;refine uT ?_
  exact ⟨.inl ⟨e,he,h1,rfl⟩,HX.put hx02 oM _⟩
 ·have o2:=zbb (nn:=t2.nx) (v:=v2) (lv:=l2) (RdR.one h3) (OwnS.one h4).1
  have F:=J5 @g1 @zda @zba @zha @ld7;refine uT ?_;obtain ⟨p1,p2⟩:=TbR.put h3 h4 g1 (tbx t2.nx v2 l2);exact ⟨.inr ⟨t2,v2,l2,h1,rfl,p1,p2⟩,HX.put hx02 oM _⟩
theorem u61:lookM.under 61=some (.map 3 100):=kR
theorem uI3:lookM.under 3=some (.int .i64):=kR
theorem zz100:lookM.zero 100=some (.bag 16384 0):=kR
theorem MpR.at {H:AH}{mb:Nat}{f:Int->Bk}(h:MpR H mb f) (k:Int):zjb lookM 61 (.map mb) (.int .i64 k) false H=some (bkA (f k)):=by
 obtain ⟨_,es,c,kv,hg,hm,_,hf⟩:=h;rw [zjm1 u61 uI3 zz100 k hg hm,(hf k).1]
theorem MpR.ok {H:AH}{mb:Nat}{f:Int->Bk}(h:MpR H mb f) (k:Int):BkOk (f k):=by
 obtain ⟨_,es,c,kv,hg,hm,_,hf⟩:=h;exact (hf k).2
theorem MpR.hp {H H':AH}{mb:Nat}{f:Int->Bk}(h:MpR H mb f){p:Nat->Prop}(hx:HP p H H') (hp:p mb):MpR H' mb f:=by
 obtain ⟨h1,es,c,kv,hg,h2⟩:=h;exact ⟨qa1 h1 hx.next,es,c,kv,(hx.get h1 hp).trans hg,h2⟩
theorem MpR.up {H:AH}[hn:HN H]{mb:Nat}{f:Int->Bk}(h:MpR H mb f) (k:Int){x:Bk}(hx:BkOk x) (hlo:H.lo<=mb) :
  ∃H',unitF (zoa lookM 61 (.map mb) (.int .i64 k) (bkA x) H)=some (.undef,H')/\MpR H' mb (setK f k x)/\HP (·≠ mb) H H'/\H'.next=H.next:=by
 obtain ⟨h1,es,c,kv,hg,hm,hnd,hf⟩:=h;obtain ⟨es',c',h2,h3⟩:=zlw u61 uI3 k (bkA x) hg hlo hm;refine ⟨H.put mb (.map es' c'),by rw [h2];rfl,⟨h1,es',c',upK k (bkA x) kv,zfa _ _,h3,hnd.up,fun j=> ?_⟩,HP.put _ _ _,rfl⟩
 rw [lkK_up];unfold setK;by_cases e:j=k
 ·rw [qj e,qj e];exact ⟨rfl,hx⟩
 ·rw [qg e,qg e];exact hf j
theorem zrw {α:Type}:∀(l:List α) (j:Nat),zdi l j=l.eraseIdx j:=by
 intro l
 induction l with
 |nil=>intro j;cases j<;>rfl
 |cons a l ih =>
  intro j;cases j with
  |zero=>rfl
  |succ j=>show a::zdi l j=_;rw [ih j];rfl
theorem MpR.del {H:AH}[hn:HN H]{mb:Nat}{f:Int->Bk}(h:MpR H mb f) (k:Int) (hlo:H.lo<=mb) :
  ∃H',zea .delete lookM [61,3] [.map mb,.int .i64 k] H=some (.undef,H')/\MpR H' mb (setK f k zeroB)/\HP (·≠ mb) H H'/\H'.next=H.next:=by
 obtain ⟨h1,es,c,kv,hg,hm,hnd,hf⟩:=h;have hfin:∀j,(lkK j (delK k kv)).getD (.bag 16384 0)=bkA (setK f k zeroB j)/\BkOk (setK f k zeroB j):=fun j=>by
  rw [zqi1 k kv hnd];unfold setK;by_cases e:j=k
  ·rw [qj e,qj e]
   exact ⟨by show AV.bag 16384 0= .bag 16384 (Nb zeroB);rw [zim],zeroB_ok⟩
  ·rw [qg e,qg e];exact hf j
 have hd:=hm.del k;have hev:∀r,zyf lookM 61 (.map mb) (.int .i64 k) H=some r->zea .delete lookM [61,3] [.map mb,.int .i64 k] H=some (.undef,r):=fun r hr=>by
  show (match zyf lookM 61 (.map mb) (.int .i64 k) H with|some H'=>some (AV.undef,H')|none=>none)=_
  rw [hr]
 cases hi:idxK k kv with
 |none =>
  rw [hi] at hd;refine ⟨H,hev _ ?_,⟨h1,es,c,delK k kv,hg,hd,hnd.del,hfin⟩,HP.refl _ _,rfl⟩;unfold zyf;simp only [u61,hg,show Nat.ble H.lo mb=true from qh hlo,zue1 uI3 k hm,hi,qp4]
 |some j =>
  rw [hi] at hd;refine ⟨H.put mb (.map (es.eraseIdx j) c),hev _ ?_,⟨h1,es.eraseIdx j,c,delK k kv,zfa _ _,hd,hnd.del,hfin⟩,HP.put _ _ _,rfl⟩;unfold zyf;simp only [u61,hg,show Nat.ble H.lo mb=true from qh hlo,zue1 uI3 k hm,hi,qd4,zrw]
abbrev rpL (e:Int) (n b:AV):List AV:= [.int .i64 e,n,b]
abbrev rpA (e:Int) (n b:AV):AV:=.agg [.int .i64 e,n,b]
abbrev rpx (e:Int) (n b:AV):ABlk:=.cells (.lst (rpL e n b)) 37 3 false false
theorem zgb (e:Int) (n b:AV):AV.toC (rpA e n b)= .lst (rpL e n b):=rfl
theorem rp_bu (e:Int):zua lookM 37 (zipF [0] [.int .i64 e])=some (rpA e .nilSl .nilSl):=kR
theorem zlj:zua lookM 37 (zipF [] [])=some (rpA 0 .nilSl .nilSl):=kR
theorem znb (e:Int) (n b:AV) (t z:Nat) (op ro:Bool):sbB (some (.cells (.lst (rpL e n b)) t z op ro)) 0 3=some (rpA e n b):=zah rfl
theorem rp_w (e e2:Int) (n b n2 b2:AV) (i t:Nat) (op:Bool) (H:AH) (h1:n2.oneCell=true) (h2:b2.oneCell=true):wrN (some (.cells (.lst (rpL e n b)) t 3 op false)) i 0 3 (.lst (rpL e2 n2 b2)) H=some (H.put i (.cells (.lst (rpL e2 n2 b2)) t 3 op false)):=wrN_l rfl rfl (by show (true && (n2.oneCell && (b2.oneCell && true)))=true;rw [h1,h2];rfl)
theorem ld3 (i o:Nat) (H:AH):zvb lookM 37 (.ptr i o) H=ldN 3 (.ptr i o) H:=zdh kR kR
theorem rp_w0 (e e2:Int) (i t:Nat) (op:Bool) (H:AH):wrN (some (.cells (.lst (rpL e .nilSl .nilSl)) t 3 op false)) i 0 3 (.lst (rpL e2 .nilSl .nilSl)) H=some (H.put i (.cells (.lst (rpL e2 .nilSl .nilSl)) t 3 op false)):=wrN_l rfl rfl rfl
theorem md_w {nn n2:Int}{v lv v2 l2:AV}{mb i e:Nat}{op:Bool}{H:AH}(ho:(tbL n2 v2 l2).all AV.oneCell=true):wrN (some (.cells (.lst (mdL nn v lv mb)) e 8 op false)) i 0 7 (.lst (tbL n2 v2 l2)) H=some (H.put i (.cells (.lst (mdL n2 v2 l2 mb)) e 8 op false)):=wrN_p rfl ho (by show 0+7<=8;decide)
theorem rc_n0 (p:AV×Rc):nth (rcL p) 0=some (.int .i64 p.2.id):=rfl
theorem MdR.set {H H':AH}{b mb:Nat}{s:Ms}{v lv:AV}{f':Int->Bk}{t2:Tb}{v2 l2:AV}(hb:b<H'.next) (hg:H'.get b=some (mdx t2.nx v2 l2 mb)) (hr:RdR H' v2 t2.rs) (hl:LvD H' l2) (hm:MpR H' mb f'):MdR H' b mb ⟨t2,f'⟩ v2 l2:=⟨hb,hg,hr,hl,hm⟩
def DoesR (H H':AH) (b mb:Nat) (r:AV) (o:Rp×Ms):Prop:=r=rpA o.1.err .nilSl .nilSl/\(∃v lv,MdR H' b mb o.2 v lv)/\HP (fun i=>i≠b/\i≠mb) H H'
theorem bR_at {x:AV}{L:Lk}{a b:C2}{s:List Kf}{T:Tr AV}{H:AH}{Q:PostC}(P:Tr AV->AH->Prop) (hp:P T H) (hk:∀T H,P T H->bR x L a b s T H Q):bR x L a b s T H Q:=hk T H hp
theorem RdR.sep {H H':AH}{v:AV}{rs:List Rc}(h:RdR H v rs){q:Nat->Prop}(hp:HP q H H') (hq:∀j cc e op ro,H.get j=some (.cells cc e 44 op ro)->q j):RdR H' v rs:=by
 rcases h with h|⟨j,c,op,cs,rfl,hj,hr,hc⟩
 ·exact .inl h
 ·obtain ⟨cc,hg,hcc⟩:=id hr
  exact .inr ⟨j,c,op,cs,rfl,qa1 hj hp.next,hr.hp hp hj (hq _ _ _ _ _ hg),hc⟩
theorem LvD.sep {H H':AH}{lv:AV}(h:LvD H lv){q:Nat->Prop}(hp:HP q H H') (hq:∀j cc e op ro,H.get j=some (.cells cc e 1 op ro)->q j):LvD H' lv:=by
 obtain ⟨j,op,rfl,hr,hj⟩:=h;obtain ⟨cc,hg,hc⟩:=id hr;exact ⟨j,op,rfl,hr.hp hp hj (hq _ _ _ _ _ hg),qa1 hj hp.next⟩
set_option maxHeartbeats 32000000 in
theorem zbg1 {H:AH}[hn:HN H]{b mb:Nat}{s:Ms}{v lv:AV}{o:Od}{ov bv:AV}(h:MdR H b mb s v lv) (hd:Bd s.t) (hs:o.nm.size<=100000) (hto:o.to.size<=100000) (hblo:H.lo<=b) (hmlo:H.lo<=mb)
  (hop:1<=o.op) (hop2:o.op<=8) :
  FnE lookM 132 [odA o ov bv,.ptr b 0] H fun r H'=>DoesR H H' b mb r (zie true s o):=by
 refine fJ Tryz.f132 o132 ?_;have hlo:=hn.lo;have hlt:=h.lt;have hmlt:=h.mp.1;have hbm:=h.ne;have hsp:= @FnX.p _ _ _ _ (zlg o.nm oM)
 have F:=J3 @zvf @zdb @zgh;refine uT ?_;clear F;refine cR_at (fun H1=>HX H H1/\H1.next=H.next+2/\H1.get H.next=some (.cells (.lst (odL o ov bv)) 107 7 false false)/\H1.get (H.next+1)=some (rpx 0 .nilSl .nilSl)) ?_ ?_
 ·exact ⟨hxt,rfl,by rw [zmf _ (oM:H.next≠H.next+1),zaa],zaa _⟩
 rintro H1 ⟨hx1,hn1,g0,g1⟩;haveI:=hx1.hn;have g1'0:=g1;refine cR_f (zhb1 (h.hx hx1) hd hs hto) ?_;rintro r2 H2 ⟨ht2,hx2⟩;have hx02:=hx1.trans hx2;have hn2:=hx2.next;have g0:=(hx2.get (i:=H.next) oM).trans g0
 have g1:=(hx2.get (i:=H.next+1) oM).trans g1
 haveI:=hx02.hn;have hlo2:H2.lo=H.lo:=hx02.lo;have o1:=o0;have e1:=hEq_f (oM:H.next+1≠H2.next)
 have e0:=hEq_f (oM:H.next≠H2.next)
 unfold zie;have g1':H1.get (H.next+1)=some (rpx 0 .nilSl .nilSl):=g1'0;rcases ht2 with ⟨e,he,h1,rfl⟩|⟨t2,v2,l2,h1,rfl,h3,h4⟩
 ·have d1:decide (e≠0)=true:=qo he
  have F:=J11 @zba @zdb @zha @g1 @e1 @d1 @rp_bu @zgb @rp_w0 @znb @ld3;refine uT ?_;clear F;rw [h1];refine ⟨rfl,⟨v,lv,h.hx ?_⟩,HX.hp (p:=fun i=>i≠b/\i≠mb) ?_⟩<;>(have K:=hx02;exact hxk)
 rw [h1];have o2:=zbb (nn:=t2.nx) (v:=v2) (lv:=l2) (RdR.one h3) (OwnS.one h4).1;have hb2:=(h.hx hx02).box;have eb:=hEq_f (oM:b≠H2.next)
 have F:=J10 @zba @zdb @zha @g0 @hb2 @eb @e0 @e1 @md_0 @od_1;refine uT ?_;clear F;refine cR_at (fun H3=>HX H2 H3/\H3.next=H2.next+1/\H3.get H2.next=some (tbx t2.nx v2 l2)) ?_ ?_
 ·exact ⟨hxt,rfl,zfa _ _⟩
 rintro H3 ⟨hx3,hn3,g2⟩;have hx03:=hx02.trans hx3;haveI:=hx03.hn;refine cR_f (zpr (nm:=o.nm) (h.hx hx03) hd.len) ?_;rintro r4 H4 ⟨rfl,hx4⟩;have hx04:=hx03.trans hx4;have hn4:=hx4.next;have hx24:=hx3.trans hx4;have g0:=(hx24.get (i:=H.next) oM).trans g0
 have g1:=(hx24.get (i:=H.next+1) oM).trans g1
 have g2:=(hx4.get (i:=H2.next) oM).trans g2
 haveI:=hx04.hn;have hlo4:H4.lo=H.lo:=hx04.lo;have e0:=hEq_f (oM:H.next≠H4.next)
 have hone4:=zbc (AV.nilSl,recO s.t o.nm) rfl;have F:=J5 @zra @g0 @e0 @od_1 @hsp;refine uT ?_;clear F;refine cR_at (fun H5=>HX H4 H5/\H5.next=H4.next+1/\H5.get H4.next=some (.cells (.lst (rcL (.nilSl,recO s.t o.nm))) 84 44 false false)) ?_ ?_
 ·exact ⟨hxt,rfl,zfa _ _⟩
 rintro H5 ⟨hx5,hn5,g4⟩;have hx05:=hx04.trans hx5;haveI:=hx05.hn;refine cR_f (zpr (nm:=splA o.nm) (h.hx hx05) hd.len) ?_;rintro r6 H6 ⟨rfl,hx6⟩;have hx06:=hx05.trans hx6;have hn6:=hx6.next;have hx46:=hx5.trans hx6;have g0:=(hx46.get (i:=H.next) oM).trans g0
 have g1:=(hx46.get (i:=H.next+1) oM).trans g1
 have g2:=(hx46.get (i:=H2.next) oM).trans g2
 have g4:=(hx6.get (i:=H4.next) oM).trans g4
 haveI:=hx06.hn;have hlo6:H6.lo=H.lo:=hx06.lo;have e0:=hEq_f (oM:H.next≠H6.next)
 have hone6:=zbc (AV.nilSl,recO s.t (splA o.nm)) rfl;have F:=J4 @zra @g0 @e0 @od_0;refine uT ?_;clear F;refine bR_at (fun T H7=>HX H6 H7/\H7.next=H6.next+1/\H7.get H6.next=some (.cells (.lst (rcL (.nilSl,recO s.t (splA o.nm)))) 84 44 false false) /\
  gT T 1= .ptr b 0/\gT T 2= .ptr H.next 0/\gT T 4= .ptr (H.next+1) 0/\gT T 5= .ptr H2.next 0/\gT T 7= .int .i64 s.t.nx/\gT T 8= .ptr H4.next 0/\gT T 13= .ptr H6.next 0/\gT T 55= .int .i64 o.op) ?_ ?_
 ·exact ⟨hxt,rfl,zfa _ _,vT0,vT0,vT0,vT0,vT0,vT0,vT0,vT0⟩
 rintro T H7 ⟨hx7,hn7,g6,y1,y2,y4,y5,y7,y8,y13,y55⟩;have hx07:=hx06.trans hx7;have hn7':=hx7.next;have g0:=(hx7.get (i:=H.next) oM).trans g0
 have g1:=(hx7.get (i:=H.next+1) oM).trans g1
 have g2:=(hx7.get (i:=H2.next) oM).trans g2
 have g4:=(hx7.get (i:=H4.next) oM).trans g4
 haveI:=hx07.hn;have hlo7:H7.lo=H.lo:=hx07.lo;have h7:=h.hx hx07;have hb7:=h7.box;have hx27:HX H2 H7:=((hx24.trans hx5).trans hx6).trans hx7;obtain ⟨es7,c7,kv7,gm7,_⟩:=h7.mp.2;have g1h:=(hx02.get (i:=b) oM).trans h.box
 have fin:∀(H8:AH) (f':Int->Bk),HP (·≠ mb) H7 H8->MpR H8 mb f'->chgB true s o=f' ->
   DoesR H ((H8.put b (mdx t2.nx v2 l2 mb)).put (H.next+1) (rpx 0 .nilSl .nilSl)) b mb (rpA 0 .nilSl .nilSl) (match ((some t2,0):Res) with|(some t,_)=>(er 0,⟨t,chgB true s o⟩)|(none,e)=>(er e,s)):=by
  intro H8 f' hp8 hm8 hc;have hn8:=hp8.next;haveI:HN H8:=hp8.hn;have k1:HP (·≠ b) H8 (H8.put b (mdx t2.nx v2 l2 mb)):=HP.put _ _ _;have k2:HP (·≠ H.next+1) (H8.put b (mdx t2.nx v2 l2 mb)) ((H8.put b (mdx t2.nx v2 l2 mb)).put (H.next+1) (rpx 0 .nilSl .nilSl)):=HP.put _ _ _;have k12:HP (fun i=>i≠b/\i≠H.next+1) H8 ((H8.put b (mdx t2.nx v2 l2 mb)).put (H.next+1) (rpx 0 .nilSl .nilSl)):=k1.trans k2 fun i _ hi=>hi
  have k7:HP (fun i=>i≠mb/\(i≠b/\i≠H.next+1)) H7 ((H8.put b (mdx t2.nx v2 l2 mb)).put (H.next+1) (rpx 0 .nilSl .nilSl)):=hp8.trans k12 fun i _ hi=>hi
  have kk:HP (fun i=>i≠mb/\(i≠b/\i≠H.next+1)) H2 ((H8.put b (mdx t2.nx v2 l2 mb)).put (H.next+1) (rpx 0 .nilSl .nilSl)):=(hx27.hp (fun _=>True)).trans k7 fun i _ hi=>⟨trivial,hi⟩
  have k0:HP (fun i=>i≠b/\i≠mb) H ((H8.put b (mdx t2.nx v2 l2 mb)).put (H.next+1) (rpx 0 .nilSl .nilSl)):=(hx07.hp (fun _=>True)).trans k7 fun i hi hh=>⟨trivial,hh.2,hh.1,oM⟩
  have g1b:=(hx2.get (i:=H.next+1) oM).trans (show H1.get (H.next+1)=_ from g1')
  have sep:∀(z:Nat),z≠8->z≠3-> ∀j cc e op ro,H2.get j=some (.cells cc e z op ro)->(j≠mb/\(j≠b/\j≠H.next+1)):=fun z z8 z3 j cc e op ro hg=>by
   refine ⟨fun e=> ?_,fun e=> ?_,fun e=> ?_⟩
   ·subst e
    obtain ⟨es,c,kv,gm,_⟩:=(h.hx hx02).mp.2;rw [hg] at gm;cases gm
   ·subst e
    rw [hg] at g1h;cases g1h;exact z8 rfl
   ·subst e
    rw [hg] at g1b;cases g1b;exact z3 rfl
  refine ⟨rfl,⟨v2,l2,?_⟩,k0⟩;show MdR _ b mb ⟨t2,chgB true s o⟩ v2 l2
  rw [hc];refine ⟨by have:=k0.next;omega,?_,(h3.sep kk (sep 44 dC dC)),(h4.lvd.sep kk (sep 1 dC dC)),(hm8.hp k12 ⟨fun e=>hbm e.symm,oM⟩)⟩
  rw [zgc _ oM]
  exact zfa _ _
 have hb8:∀H8,HP (·≠ mb) H7 H8->H8.get b=some (mdx s.t.nx v lv mb):=fun H8 hp=>(hp.get oM hbm).trans hb7
 have hg18:∀H8,HP (·≠ mb) H7 H8->H8.get (H.next+1)=some (rpx 0 .nilSl .nilSl):=fun H8 hp=>(hp.get oM oM).trans g1
 have hg28:∀H8,HP (·≠ mb) H7 H8->H8.get H2.next=some (tbx t2.nx v2 l2):=fun H8 hp=>(hp.get oM oM).trans g2
 have hlo8:∀H8,HP (·≠ mb) H7 H8->H8.lo=H.lo:=fun H8 hp=>hp.lo.trans hlo7
 have hlk:=fun k=>h7.mp.at k
 have ebr:=hEq_f (oM:H.next+1≠b)
 clear hx7 hx6 hx5 hx4 hx3 hx46 hx24 eb e0 e1;cases a1:decide (o.op=1) with
 |true =>
  have e:=qe a1;have ec:chgB true s o=setK s.b s.t.nx zeroB:=by unfold chgB;simp only [e];rfl
  obtain ⟨H8,w8,m8,hp8,hn8⟩:=h7.mp.up s.t.nx (x:=zeroB) zeroB_ok oM
  rw [show bkA zeroB= .bag 16384 0 from by show AV.bag 16384 (Nb zeroB)=_;rw [zim]] at w8
  have p1:=hb8 H8 hp8;have p2:=hg18 H8 hp8;have p3:=hg28 H8 hp8;have p4:=hlo8 H8 hp8;haveI:HN H8:=hp8.hn;have F:=J16 @y1 @y2 @y4 @y5 @y7 @y8 @y13 @y55 @hb7 @md_7 @g2 @g4 @g6 @rc_n0 @hlk (J16 @bu100 @w8 @zda @zba @md_w @o2 @p1 @p2 @p3 @p4 @ebr @zlj @zgb @rp_w0 @znb @ld3);refine uT ?_;clear F;exact fin H8 _ hp8 m8 ec
 |false =>
 have n1:¬o.op=1:=qf a1;have F:=@y55;refine uT ?_;clear F;cases a2:decide (o.op=2) with
 |true =>
  have e:=qe a2;have ec:chgB true s o=setK s.b s.t.nx (s.b (recO s.t (splA o.nm)).id):=by unfold chgB;simp only [e];rfl
  obtain ⟨H8,w8,m8,hp8,hn8⟩:=h7.mp.up s.t.nx (x:=(s.b (recO s.t (splA o.nm)).id)) (h7.mp.ok _) oM
  have p1:=hb8 H8 hp8;have p2:=hg18 H8 hp8;have p3:=hg28 H8 hp8;have p4:=hlo8 H8 hp8;haveI:HN H8:=hp8.hn;have F:=J16 @y1 @y2 @y4 @y5 @y7 @y8 @y13 @y55 @hb7 @md_7 @g2 @g4 @g6 @rc_n0 @hlk (J16 @bu100 @w8 @zda @zba @md_w @o2 @p1 @p2 @p3 @p4 @ebr @zlj @zgb @rp_w0 @znb @ld3);refine uT ?_;clear F;exact fin H8 _ hp8 m8 ec
 |false =>
 have n2:¬o.op=2:=qf a2;have F:=@y55;refine uT ?_;clear F;cases a3:decide (o.op=3) with
 |true =>
  have e:=qe a3;have ec:chgB true s o=setK s.b s.t.nx (s.b (recO s.t o.nm).id):=by unfold chgB;simp only [e];rfl
  obtain ⟨H8,w8,m8,hp8,hn8⟩:=h7.mp.up s.t.nx (x:=(s.b (recO s.t o.nm).id)) (h7.mp.ok _) oM
  have p1:=hb8 H8 hp8;have p2:=hg18 H8 hp8;have p3:=hg28 H8 hp8;have p4:=hlo8 H8 hp8;haveI:HN H8:=hp8.hn;have F:=J16 @y1 @y2 @y4 @y5 @y7 @y8 @y13 @y55 @hb7 @md_7 @g2 @g4 @g6 @rc_n0 @hlk (J16 @bu100 @w8 @zda @zba @md_w @o2 @p1 @p2 @p3 @p4 @ebr @zlj @zgb @rp_w0 @znb @ld3);refine uT ?_;clear F;exact fin H8 _ hp8 m8 ec
 |false =>
 have n3:¬o.op=3:=qf a3;have F:=@y55;refine uT ?_;clear F;cases a4:decide (o.op=4) with
 |true =>
  have e:=qe a4;have ec:chgB true s o=setK s.b (recO s.t (splA o.nm)).id (s.b (recO s.t o.nm).id):=by unfold chgB;simp only [e];rfl
  obtain ⟨H8,w8,m8,hp8,hn8⟩:=h7.mp.up (recO s.t (splA o.nm)).id (x:=(s.b (recO s.t o.nm).id)) (h7.mp.ok _) oM
  have p1:=hb8 H8 hp8;have p2:=hg18 H8 hp8;have p3:=hg28 H8 hp8;have p4:=hlo8 H8 hp8;haveI:HN H8:=hp8.hn;have F:=J16 @y1 @y2 @y4 @y5 @y7 @y8 @y13 @y55 @hb7 @md_7 @g2 @g4 @g6 @rc_n0 @hlk (J16 @bu100 @w8 @zda @zba @md_w @o2 @p1 @p2 @p3 @p4 @ebr @zlj @zgb @rp_w0 @znb @ld3);refine uT ?_;clear F;exact fin H8 _ hp8 m8 ec
 |false =>
 have n4:¬o.op=4:=qf a4;have F:=@y55;refine uT ?_;clear F;cases a5:decide (o.op=5) with
 |true =>
  have e:=qe a5;have ec:chgB true s o=setK s.b (recO s.t o.nm).id zeroB:=by unfold chgB;simp only [e];rfl
  obtain ⟨H8,w8,m8,hp8,hn8⟩:=h7.mp.del (recO s.t o.nm).id oM
  have p1:=hb8 H8 hp8;have p2:=hg18 H8 hp8;have p3:=hg28 H8 hp8;have p4:=hlo8 H8 hp8;haveI:HN H8:=hp8.hn;have F:=J16 @y1 @y2 @y4 @y5 @y7 @y8 @y13 @y55 @hb7 @md_7 @g2 @g4 @g6 @rc_n0 @hlk (J16 @bu100 @w8 @zda @zba @md_w @o2 @p1 @p2 @p3 @p4 @ebr @zlj @zgb @rp_w0 @znb @ld3);refine uT ?_;clear F;exact fin H8 _ hp8 m8 ec
 |false =>
 have n5:¬o.op=5:=qf a5;have F:=@y55;refine uT ?_;clear F;cases a6:decide (o.op=6) with
 |true =>
  have e:=qe a6;have ec:chgB true s o=s.b:=by unfold chgB;simp only [e];rfl
  have F:=J16 @y1 @y2 @y4 @y5 @y7 @y8 @y13 @y55 @hb7 @md_7 @g2 @g4 @g6 @rc_n0 @hlk (J12 @bu100 @g1 @zda @zba @md_w @o2 @ebr @zlj @zgb @rp_w0 @znb @ld3);refine uT ?_;clear F;exact fin H7 _ (HP.refl _ _) h7.mp ec
 |false =>
 have n6:¬o.op=6:=qf a6;cases a7:decide (o.op=7) with
 |true =>
  have e:=qe a7;have ec:chgB true s o=setK s.b (recO s.t o.nm).id (cutK (s.b (recO s.t o.nm).id) o.n.toNat (64 - o.n.toNat)):=by unfold chgB;simp only [e];rfl
  have hwn:wi o.n 1 64=true:=by
   have hc:chgT s.t o=sizeT s.t o.nm o.n:=by unfold chgT;simp only [e];rfl
   rw [hc] at h1;cases hw:wi o.n 1 64 with
   |true=>rfl
   |false=>unfold sizeT zrd at h1;rw [hw,qq2,ql3] at h1;cases h1
  rw [wi_d,qm,qs,qs] at hwn;obtain ⟨n,hn⟩:∃n:Nat,o.n=n:=⟨o.n.toNat,oM⟩
  rw [hn,qg2] at ec;have F:=J11 @y1 @y2 @y8 @y55 @hb7 @md_7 @g4 @rc_n0 @hlk @g0 @od_3;refine uT ?_;clear F;refine rk_cw (js:= [H4.next,b]) (R:=fun r H'=>r=bkA (cutK (s.b (recO s.t o.nm).id) n (64 - n))/\HX H7 H') ?_ ?_ ?_
  ·rw [zsc]
   refine zga (o:=0) ?_ (zga (o:=7) ?_ zza)<;>(exact vT0)
  ·have F:=@hn;refine uT ?_;clear F
   exact zij1 (h7.mp.ok _) (qn 64) oM
  rintro r9 H9 ⟨rfl,hx9⟩;haveI:=hx9.hn;refine ⟨zcb hx9 _ fun i hi=> ?_,?_⟩
  ·simp only [qe1,qv4,qk6] at hi
   rcases hi with rfl|rfl
   ·exact ⟨oM,_,_,_,_,_,g4⟩
   ·exact ⟨oM,_,_,_,_,_,hb7⟩
  have h9:=h7.hx hx9;have hlo9:H9.lo=H.lo:=hx9.lo.trans hlo7;obtain ⟨H8,w8,m8,hp98,hn8⟩:=h9.mp.up (recO s.t o.nm).id (x:=cutK (s.b (recO s.t o.nm).id) n (64 - n)) (zaj (h7.mp.ok _) (qn 64)) oM
  have hp8:HP (·≠ mb) H7 H8:=(hx9.hp (fun _=>True)).trans hp98 fun i _ hi=>⟨trivial,hi⟩
  have p1:=hb8 H8 hp8;have p2:=hg18 H8 hp8;have p3:=hg28 H8 hp8;have p4:=hlo8 H8 hp8;haveI:HN H8:=hp8.hn;have F:=J16 @zhd @y1 @y2 @y4 @y5 @y7 @y8 @y13 @y55 @hb7 @md_7 @g2 @g4 @g6 @rc_n0 (J16 @hlk @bu100 @w8 @zda @zba @md_w @o2 @p1 @p2 @p3 @p4 @ebr @zlj @zgb @rp_w0 (J2 @znb @ld3));refine uT ?_;clear F;exact fin H8 _ hp8 m8 ec
 |false =>
 have n7:¬o.op=7:=qf a7;have e:o.op=8:=oM
 have ec:chgB true s o=s.b:=by unfold chgB;simp only [e];rfl
 have F:=J16 @y1 @y2 @y4 @y5 @y7 @y8 @y13 @y55 @hb7 @md_7 @g2 @g4 @g6 @rc_n0 @hlk (J12 @bu100 @g1 @zda @zba @md_w @o2 @ebr @zlj @zgb @rp_w0 @znb @ld3);refine uT ?_;clear F;exact fin H7 _ (HP.refl _ _) h7.mp ec
theorem _root_.Go.Ev.OwnS.is {H:AH}{s:AV}{n e z N:Nat}{cs:List AV}(h:OwnS H s n e z cs N):IsSl H s n:=h.slZ.is
def RpR (H:AH) (r:AV) (p:Rp) (N:Nat):Prop:= ∃nv bv,r=rpA p.err nv bv/\SlZ H nv p.n.length 1 (p.n.map fun x:Int=>AV.int .i64 x)/\OwnS H bv p.b.length 5 1 (p.b.map fun x:Nat=>AV.int .u8 (.ofNat x)) N/\ ∀j,j<N->blkNe nv j/\blkNe bv j
theorem zib1 (H:AH) (z:Nat):SlZ H .nilSl 0 z []:=⟨by simp,.inl ⟨rfl,rfl⟩⟩
theorem RpR.err {H:AH}{e:Int}{N:Nat}:RpR H (rpA e .nilSl .nilSl) (er e) N:=⟨_,_,rfl,zib1 H 1,OwnS.nil _ _ _ _,fun j _=>⟨zka _,zka _⟩⟩
theorem slZ_put {H:AH}[HN H]{v:AV}{n z:Nat}{cs:List AV}(h:SlZ H v n z cs){i:Nat}(hi:blkNe v i) (b:ABlk):SlZ (H.put i b) v n z cs:=h.hp (HP.put H i b) fun j o c op hj e=>by subst e;exact hi _ _ _ _ hj
theorem RpR.put {H:AH}[HN H]{r:AV}{p:Rp}{N:Nat}(h:RpR H r p N){i:Nat}(hi:i<N) (b:ABlk):RpR (H.put i b) r p N:=by
 obtain ⟨nv,bv,hr,h1,h2,h3⟩:=h;exact ⟨nv,bv,hr,slZ_put h1 (h3 i hi).1 b,OwnS.hq h2 (HP.put _ _ _) fun j o n c op e=>by intro hj;subst hj;exact (h3 _ hi).2 _ _ _ _ e,h3⟩
theorem RpR.hx {H H':AH}{r:AV}{p:Rp}{N:Nat}(h:RpR H r p N) (hx:HX H H'):RpR H' r p N:=by
 obtain ⟨nv,bv,hr,h1,h2,h3⟩:=h;exact ⟨nv,bv,hr,h1.hx hx,h2.hx hx,h3⟩
theorem RpR.le {H:AH}{r:AV}{p:Rp}{N M:Nat}(h:RpR H r p N) (hm:M<=N):RpR H r p M:=by
 obtain ⟨nv,bv,hr,h1,h2,h3⟩:=h;exact ⟨nv,bv,hr,h1,OwnS.le h2 hm,fun j hj=>h3 j oM⟩
theorem one_q (n:Int) (H:AH):bsF 1 1 (.int .i64 0) 3 (zipF [0] [.int .i64 n]) H=some (.sl H.next 0 1 1 false,H.new (.cells (.lst [.int .i64 n]) 3 1 false false)):=bs1_q rfl rfl rfl
theorem zcg1 (i:Nat) (op:Bool):zua lookM 37 (zipF [1] [.sl i 0 1 1 op])=some (rpA 0 (.sl i 0 1 1 op) .nilSl):=kR
theorem rp_wN (e e2:Int) (i t j:Nat) (op op2:Bool) (H:AH):wrN (some (.cells (.lst (rpL e .nilSl .nilSl)) t 3 op false)) i 0 3 (.lst (rpL e2 (.sl j 0 1 1 op2) .nilSl)) H=some (H.put i (.cells (.lst (rpL e2 (.sl j 0 1 1 op2) .nilSl)) t 3 op false)):=wrN_l rfl rfl rfl
theorem zdg1 {H:AH}[hn:HN H]{b mb:Nat}{s:Ms}{v lv:AV}{x:Rc}(h:MdR H b mb s v lv) :
  FnE lookM 57 [.agg (rcL (.nilSl,x)),.ptr b 0] H fun r H'=>RpR H' r ⟨0, [(usedB (s.b x.id):Int)], []⟩ H.next/\HX H H':=by
 refine fI Tryz.f57 ?_;have hlo:=hn.lo;have hlt:=h.lt;have hb:=h.box;have e0:=hEq_f (oM:b≠H.next)
 have e1:=hEq_f (oM:b≠H.next+1)
 have e01:=hEq_f (oM:H.next≠H.next+1)
 have hlk:=fun k=>((h.hx ((HX.new H (.cells (.lst (rcL (.nilSl,x))) 112 44 false false)).trans (HX.new _ (rpx 0 .nilSl .nilSl)))).mp).at k
 have F:=J9 @zra @zgb @hb @md_7 @e0 @e1 @e01 @rc_n0 @hlk;refine uT ?_;refine cR_at (fun H1=>HX H H1/\H1.next=H.next+2/\H1.get (H.next+1)=some (rpx 0 .nilSl .nilSl)) ?_ ?_
 ·exact ⟨hxt,rfl,zaa _⟩
 rintro H1 ⟨hx1,hn1,g1⟩;haveI:=hx1.hn;refine cR_f (zou (h.mp.ok _)) ?_;rintro r2 H2 ⟨rfl,hx2⟩;have hx02:=hx1.trans hx2;have hn2:=hx2.next;have g1:=(hx2.get (i:=H.next+1) oM).trans g1
 haveI:=hx02.hn;have hlo2:H2.lo=H.lo:=hx02.lo;have e12:=hEq_f (oM:H.next+1≠H2.next)
 have F:=J8 @one_q @zcg1 @zgb @g1 @e12 @rp_wN @znb @ld3;refine uT ?_;refine ⟨⟨_,_,rfl,?_,OwnS.nil _ _ _ _,fun j hj=>⟨zla oM,zka _⟩⟩,by have K:=hx02;exact hxk⟩
 have hr:Row ((H2.new (.cells (.lst [.int .i64 (usedB (s.b x.id):Int)]) 3 1 false false)).put (H.next+1) (rpx 0 (.sl H2.next 0 1 1 false) .nilSl)) H2.next false false 3 1 [.int .i64 (usedB (s.b x.id):Int)] :=
  ⟨.lst [.int .i64 (usedB (s.b x.id):Int)],by rw [zgc _ oM];exact zaa _,rfl⟩
 exact hr.slZ (n:=1) (c:=1) (op':=false) (by show H2.next<H2.next+1;omega) rfl
def shS (s:Ms) (nm:ByteArray) (n:Int) (x:Rc):Int:=if x.kd=1/\x.nm≠nm then n+max (x.rs - (usedB (s.b x.id):Int)) 0 else n
theorem zru (s:Ms) (nm:ByteArray):zyk s nm=s.t.rs.foldl (shS s nm) 0:=rfl
theorem shS_le (s:Ms) (nm:ByteArray){x:Rc}(hx:x.rs<=1000000) (n:Int):n<=shS s nm n x/\shS s nm n x<=n+1000000:=by
 unfold shS;split<;>omega
theorem rc_n2 (p:AV×Rc):nth (rcL p) 2=some (.int .i64 p.2.kd):=rfl
theorem zwf (p:AV×Rc):nth (rcL p) 43=some (.int .i64 p.2.rs):=rfl
set_option maxHeartbeats 16000000 in
theorem zeg1 {H:AH}[hn:HN H]{b mb:Nat}{s:Ms}{v lv:AV}{o:Od}{ov bv:AV}(h:MdR H b mb s v lv) (hd:Bd s.t) (hrs:∀r,r∈s.t.rs-> -1000000<=r.rs/\r.rs<=1000000) :
  FnE lookM 201 [odA o ov bv,.ptr b 0] H fun r H'=>RpR H' r ⟨0, [zyk s o.nm], []⟩ H.next/\HX H H':=by
 refine fJ Tryz.f201 o201 ?_;have hlo:=hn.lo;have hlt:=h.lt;have hb:=h.box;have e0:=hEq_f (oM:b≠H.next)
 have e1:=hEq_f (oM:b≠H.next+1)
 have e01:=hEq_f (oM:H.next≠H.next+1)
 have hl:∀H',fstO (zea .len lookM [49] [v] H')=some (.int .i64 s.t.rs.length):=fun H'=>by have:=zwc (H':=H') uRs h.sl.is;rwa [zhc] at this
 have hlen:=hd.len;have F:=J8 @zvf @zgb @hb @md_1 @e0 @e1 @e01 @hl;refine uT ?_;refine rc_j o201 (fun n T H'=> ∃q c,n+q=s.t.rs.length/\HX H H'/\H.next+2<=H'.next/\c=(s.t.rs.take q).foldl (shS s o.nm) 0/\0<=c/\c<=1000000*(q:Int) /\
  H'.get H.next=some (.cells (.lst (odL o ov bv)) 108 7 false false)/\H'.get (H.next+1)=some (rpx 0 .nilSl .nilSl) /\
  gT T 1= .ptr b 0/\gT T 2= .ptr H.next 0/\gT T 4= .ptr (H.next+1) 0/\gT T 5= .int .i64 c/\gT T 12=v/\gT T 13= .int .i64 s.t.rs.length/\gT T 14= .int .i64 q) s.t.rs.length ?_ ?_
 ·exact ⟨0,0,rfl,hxt,qn _,by simp,oM,by simp,by rw [zmf _ (oM:H.next≠H.next+1),zaa],zaa _,vT0,vT0,vT0,vT0,vT0,vT0,wT0⟩
 rintro n T H1 ⟨q,c,hnq,hx1,hn1,hc,hc0,hcq,g0,g1,t1,t2,t4,t5,t12,t13,t14⟩;haveI:=hx1.hn;have hlo1:H1.lo=H.lo:=hx1.lo;cases n with
 |zero =>
  have hq:q=s.t.rs.length:=oM
  rw [hq,qm6,← zru] at hc;have d1:decide ((q:Int)<(s.t.rs.length:Int))=false:=qp oM
  have e12:=hEq_f (oM:H.next+1≠H1.next)
  have F:=J16 @t1 @t2 @t4 @t5 @t12 @t13 @t14 @d1 @one_q @zcg1 @zgb @g1 @e12 @rp_wN @znb @ld3;refine uT ?_;refine ⟨⟨_,_,rfl,?_,OwnS.nil _ _ _ _,fun j hj=>⟨zla oM,zka _⟩⟩,by have K:=hx1;exact hxk⟩
  rw [← hc];have hr:Row ((H1.new (.cells (.lst [.int .i64 c]) 3 1 false false)).put (H.next+1) (rpx 0 (.sl H1.next 0 1 1 false) .nilSl)) H1.next false false 3 1 [.int .i64 c] :=
   ⟨.lst [.int .i64 c],by rw [zgc _ oM];exact zaa _,rfl⟩
  exact hr.slZ (n:=1) (c:=1) (op':=false) (by show H1.next<H1.next+1;omega) rfl
 |succ n =>
  have hq:q<s.t.rs.length:=oM
  have h1:=h.hx hx1;have hix:=ix44 (z:=44) (q:=q) h1.sl.is (by rw [zhc];exact hq)
  have hld:=h1.sl.agg (nl_at hq);have d1:decide ((q:Int)<(s.t.rs.length:Int))=true:=qo oM
  have hone:=zbc (AV.nilSl,get s.t.rs q) rfl;have hxr:=hrs _ (zfm hq);have hst:=shS_le s o.nm hxr.2 c;have hb1:=h1.box;have hu64:usedB (s.b (get s.t.rs q).id)<=64:=zmd _ 64 0;have e0':=hEq_f (oM:H.next≠H1.next)
  have eb':=hEq_f (oM:b≠H1.next)
  have hc':shS s o.nm c (get s.t.rs q)=(s.t.rs.take (q+1)).foldl (shS s o.nm) 0:=by
   rw [qi4,get_lt hq,qi3,List.foldl_append,← hc];rfl
  unfold shS at hc' hst;cases a1:decide ((get s.t.rs q).kd=1) with
  |false =>
   have n1:=qf a1;rw [qg (fun x=>n1 x.1)] at hc'
   have F:=J13 @t1 @t2 @t4 @t5 @t12 @t13 @t14 @d1 @hix @hld @zra @rc_n2 @a1;refine uT ?_;exact ⟨n,oM,q+1,c,oM,by have K:=hx1;exact hxk,oM,hc',hc0,by push_cast;omega,g0,g1,rfl,by push_cast;rfl⟩
  |true =>
  have y1:=qe a1;cases a2:decide ((get s.t.rs q).nm=o.nm) with
  |true =>
   have y2:=qe a2;rw [qg (fun x=>x.2 y2)] at hc'
   have F:=J16 @t1 @t2 @t4 @t5 @t12 @t13 @t14 @d1 @hix @hld @zra @rc_n2 @rc_1 @a1 @e0' (J4 @g0 @od_1 @zsd @a2);refine uT ?_;exact ⟨n,oM,q+1,c,oM,by have K:=hx1;exact hxk,oM,hc',hc0,by push_cast;omega,g1,rfl,by push_cast;rfl⟩
  |false =>
   have y2:=qf a2;rw [qj ⟨y1,y2⟩] at hc' hst;have hlk:∀(bk bk':ABlk) (k:Int),zjb lookM 61 (.map mb) (.int .i64 k) false ((H1.new bk).put H1.next bk')=some (bkA (s.b k)):=fun bk bk' k=>((h.hx (hx1.putN bk bk')).mp).at k
   have F:=J16 @t1 @t2 @t4 @t5 @t12 @t13 @t14 @d1 @hix @hld @zra @rc_n0 @rc_n2 @zwf @rc_1 (J10 @a1 @e0' @eb' @hb1 @md_7 @g0 @od_1 @zsd @a2 @hlk);refine uT ?_;refine rk_at (fun H2=>HX H1 H2/\H1.next+1<=H2.next/\H2.get H1.next=some (.cells (.lst (rcL (.nilSl,get s.t.rs q))) 84 44 false false)) ?_ ?_
   ·exact ⟨hxt,qn _,zfa _ _⟩
   rintro H2 ⟨hx2,hn2,g2⟩;have hx02:=hx1.trans hx2;haveI:=hx02.hn;refine rk_cw (js:= [H1.next]) (R:=fun r H'=>r= .int .i64 (usedB (s.b (get s.t.rs q).id):Nat)/\HX H2 H') ?_ ?_ ?_
   ·rw [zsc]
    refine zga (o:=43) ?_ zza<;>(exact vT0)
   ·refine uT0 ?_
    exact zou (h.mp.ok _)
   rintro r3 H3 ⟨rfl,hx3⟩;refine ⟨zcb hx3 _ fun i hi=> ?_,?_⟩
   ·simp only [qn1] at hi
    subst hi;exact ⟨oM,_,_,_,_,_,g2⟩
   have hx13:=hx2.trans hx3;have g0:=(hx13.get (i:=H.next) oM).trans g0
   have g1:=(hx13.get (i:=H.next+1) oM).trans g1
   have em:(if (get s.t.rs q).rs - (usedB (s.b (get s.t.rs q).id):Int)<0 then (0:Int) else (get s.t.rs q).rs - (usedB (s.b (get s.t.rs q).id):Int))=max ((get s.t.rs q).rs - (usedB (s.b (get s.t.rs q).id):Int)) 0:=by
    split<;>omega
   have F:=J9 @zhd @t1 @t2 @t4 @t5 @t12 @t13 @t14 @em;refine uT ?_;exact ⟨n,oM,q+1,_,oM,hx1.trans hx13,by have:=hx13.next;omega,hc',oM,by push_cast;omega,g0,g1,rfl,by push_cast;rfl⟩
theorem zmo1 {H:AH}[hn:HN H]{mb:Nat}{es:Es}{c:Nat}(hg:H.get mb=some (.map es c)):FnE lookM 48 [.map mb] H fun r H'=>r= .map H.next/\H'=H.new (.map es c):=by
 refine fI Tryz.f48 ?_;have hx:FnE lookM 69 [.ifc 61 (.map mb)] H fun r H'=>r= .ifc 61 (.map H.next)/\H'=H.new (.map es c) :=
  zcm (show lookM.ext 69=some zuj from rfl) (by
   show (match H.get mb with|some (.map es clock)=>some (AV.ifc 61 (.map H.next),H.new (.map es clock))|_=>none)=some (AV.ifc 61 (.map H.next),H.new (.map es c))
   rw [hg])
 have mi:zsa lookM 61 (.map mb)=some (.ifc 61 (.map mb)):=kR
 have ma:∀i,ztd lookM (.ifc 61 (.map i)) 61 false=some (.map i):=fun i=>kR
 have F:=J2 @nil61 @mi;refine uT ?_;refine cR_f hx ?_;rintro r H2 ⟨rfl,rfl⟩;have F:=@ma;exact vT
theorem MdR.mpNew {H:AH}[hn:HN H]{mb:Nat}{f:Int->Bk}(h:MpR H mb f):∃es c,H.get mb=some (.map es c)/\MpR (H.new (.map es c)) H.next f:=by
 obtain ⟨h1,es,c,kv,hg,h2⟩:=h;exact ⟨es,c,hg,qc1 _,es,c,kv,zaa _,h2⟩
theorem cp_bu (nn:Int) (v lv:AV) (mb:Nat):zua lookM 63 (zipF [0,1] [tbA nn v lv,.map mb])=some (.agg (mdL nn v lv mb)):=kR
theorem cp_toC (nn:Int) (v lv:AV) (mb:Nat):AV.toC (.agg (mdL nn v lv mb))= .lst (mdL nn v lv mb):=rfl
theorem copy_ok {H:AH}[hn:HN H]{b mb:Nat}{s:Ms}{v lv:AV}(h:MdR H b mb s v lv) :
  FnE lookM 18 [.ptr b 0] H fun r H'=>(∃b2 mb2,r= .ptr b2 0/\H.next<=b2/\H.next<=mb2/\MdR H' b2 mb2 s v lv)/\HX H H':=by
 refine fJ Tryz.f18 o18 ?_;have hlo:=hn.lo;refine uT0 ?_;refine cR_f (zqu h) ?_;rintro r1 H1 ⟨rfl,hx1⟩;haveI:=hx1.hn;have h1:=h.hx hx1;have hn1:=hx1.next;have hb:=h1.box;have F:=J3 @hb @md_t @md_7;refine uT ?_;obtain ⟨es,c,hg,hm⟩:=MdR.mpNew h1.mp;refine rk_cw (js:= [b]) (R:=fun r H'=>r= .map H1.next/\H'=H1.new (.map es c)) ?_ ?_ ?_
 ·rw [zsc]
  refine zga (o:=0) ?_ zza<;>(exact vT0)
 ·refine uT0 ?_
  exact zmo1 hg
 rintro r2 H2 ⟨rfl,rfl⟩;have hx2:HX H1 (H1.new (.map es c)):=HX.new _ _;refine ⟨zcb hx2 _ fun i hi=> ?_,?_⟩
 ·simp only [qn1] at hi
  subst hi;exact ⟨h1.lt,_,_,_,_,_,hb⟩
 have F:=J3 @zhd @cp_bu @cp_toC;refine uT ?_;have hx3:HX (H1.new (.map es c)) ((H1.new (.map es c)).new (mdx s.t.nx v lv H1.next)):=HX.new _ _;have h3:=h.hx ((hx1.trans hx2).trans hx3);exact ⟨⟨H1.next+1,H1.next,rfl,oM,hn1,⟨qc1 _,zaa _,h3.rd,h3.lv,hm.hp (hx3.hp fun _=>True) trivial⟩⟩,(hx1.trans hx2).trans hx3⟩
theorem mk_q (H:AH):zzv H=some (.map H.next,H.new (.map [] 0)):=zsh (.map [] 0) (fun m H'=>some (.map m,H')) H
theorem mp0 {H:AH}[hn:HN H]:MpR (H.new (.map [] 0)) H.next fun _=>zeroB :=
 ⟨qc1 _, [],0, [],zaa _,rfl,List.nodup_nil,fun k=>⟨by show AV.bag 16384 0= .bag 16384 (Nb zeroB);rw [zim],zeroB_ok⟩⟩
theorem mnew_ok {H:AH}[hn:HN H]:FnE lookM 5 [] H fun r H'=>(∃b mb v lv,r= .ptr b 0/\H.next<=b/\H.next<=mb/\MdR H' b mb M0 v lv)/\HX H H':=by
 refine fI Tryz.f5 ?_;have hlo:=hn.lo;refine uT0 ?_;refine cR_f zav ?_;rintro r1 H1 ⟨lv,rfl,hl1,hx1⟩;haveI:=hx1.hn;have hn1:=hx1.next;have hlo1:H1.lo<=H1.next:=HN.lo;have o2:=zbb (nn:=1) (v:=.nilSl) (lv:=lv) rfl hl1.one.1;have F:=J7 @zba @zdb @zha @zda @mk_q @cp_bu @cp_toC;refine uT ?_;have hx2:HX H1 (((H1.new (tbx 0 .nilSl .nilSl)).put H1.next (tbx 1 .nilSl lv))):=hxt;haveI:=hx2.hn;have hx3:HX (((H1.new (tbx 0 .nilSl .nilSl)).put H1.next (tbx 1 .nilSl lv))) (((H1.new (tbx 0 .nilSl .nilSl)).put H1.next (tbx 1 .nilSl lv)).new (.map [] 0)):=HX.new _ _;have hm:=mp0 (H:=(H1.new (tbx 0 .nilSl .nilSl)).put H1.next (tbx 1 .nilSl lv))
 haveI:=hx3.hn;have hx4:HX (((H1.new (tbx 0 .nilSl .nilSl)).put H1.next (tbx 1 .nilSl lv)).new (.map [] 0)) ((((H1.new (tbx 0 .nilSl .nilSl)).put H1.next (tbx 1 .nilSl lv)).new (.map [] 0)).new (mdx 1 .nilSl lv (H1.next+1))):=HX.new _ _;have hxx:=(hx2.trans hx3).trans hx4;exact ⟨⟨H1.next+2,H1.next+1,.nilSl,lv,rfl,oM,oM,⟨qc1 _,zaa _,.inl ⟨rfl,rfl⟩,hl1.hx hxx,hm.hp (hx4.hp fun _=>True) trivial⟩⟩,hx1.trans hxx⟩
def kindA (o:Od) (lv bv:AV):AV:=if o.op<=8 then .ifc 107 (odA o lv bv) else if o.op=16 then .ifc 108 (odA o lv bv) else if 12<=o.op/\o.op<=15 then .ifc 74 (odA o lv bv) else .nilIfc
theorem kb1 (o:Od) (lv bv:AV):zua lookM 107 (zipF [0] [odA o lv bv])=some (odA o lv bv):=kR
theorem kb2 (o:Od) (lv bv:AV):zua lookM 108 (zipF [0] [odA o lv bv])=some (odA o lv bv):=kR
theorem kb3 (o:Od) (lv bv:AV):zua lookM 74 (zipF [0] [odA o lv bv])=some (odA o lv bv):=kR
theorem ki1 (o:Od) (lv bv:AV):zsa lookM 107 (odA o lv bv)=some (.ifc 107 (odA o lv bv)):=kR
theorem ki2 (o:Od) (lv bv:AV):zsa lookM 108 (odA o lv bv)=some (.ifc 108 (odA o lv bv)):=kR
theorem ki3 (o:Od) (lv bv:AV):zsa lookM 74 (odA o lv bv)=some (.ifc 74 (odA o lv bv)):=kR
theorem kind_ok {H:AH}[hn:HN H]{o:Od}{lv bv:AV}:FnE lookM 29 [odA o lv bv] H fun r H'=>r=kindA o lv bv/\HX H H':=by
 refine fI Tryz.f29 ?_;have hlo:=hn.lo;have hx:HX H (H.new (odx o lv bv)):=HX.new _ _;unfold kindA;have F:=J2 @zvf @od_0;refine uT ?_;cases a1:decide (o.op<=8) with
 |true =>
  rw [qj (qe a1)];have F:=J3 @zgh @kb1 @ki1;refine uT ?_;exact hx
 |false =>
 rw [qg (qf a1)];have F:=@od_0;refine uT ?_;cases a2:decide (o.op=16) with
 |true =>
  rw [qj (qe a2)];have F:=J3 @zgh @kb2 @ki2;refine uT ?_;exact hx
 |false =>
 rw [qg (qf a2)];have F:=@od_0;refine uT ?_;cases a3:decide (12<=o.op) with
 |false =>
  rw [qg (fun x=>qf a3 x.1)]
  refine uT0 ?_;exact hx
 |true =>
 have F:=@od_0;refine uT ?_;cases a4:decide (o.op<=15) with
 |false =>
  rw [qg (fun x=>qf a4 x.2)]
  refine uT0 ?_;exact hx
 |true =>
 rw [qj ⟨qe a3,qe a4⟩];have F:=J3 @zgh @kb3 @ki3;refine uT ?_;exact hx
theorem eqI (N M:Nat):evEq lookM 39 89 (.bag 256 N) (.bag 256 M)=some (Nat.beq (Nat.mod N (Ce.pw 256)) (Nat.mod M (Ce.pw 256))):=kR
theorem zjj1 {b:Bk}(h:BkOk b){k:Nat}(hk:k<64):ztc lookM 89 (bkC b) (k*256)=some (.bag 256 (Nb (atB b k))):=by
 have hsub:=sub_b h.byt (o:=k*256) (n:=256) (by rw [h.len];omega)
 unfold byC at hsub;rw [h.len] at hsub;unfold ztc;simp only [a89,s89,hsub];show some (AV.bag 256 (Nb (List.take 256 (List.drop (k*256) b))))=_
 unfold atB;rw [qo3 256 k]
theorem eqN {a b:List Nat}(ha:Byt a) (hb:Byt b) (la:a.length=256) (lb:b.length=256):Nat.beq (Nat.mod (Nb a) (Ce.pw 256)) (Nat.mod (Nb b) (Ce.pw 256))=decide (a=b):=by
 have h1:∀{l:List Nat},Byt l->l.length=256->Nat.mod (Nb l) (Ce.pw 256)=Nb l:=fun {l} h hl=>by
  show Nb l%Ce.pw 256=_
  rw [pw_eq];exact qs4 (by have:=Nb_lt h;rwa [hl] at this)
 rw [h1 ha la,h1 hb lb];by_cases e:a=b
 ·rw [qo e,e];exact qr2 _
 ·rw [qp e]
  exact qf3.2 fun hbq=>e (zjo1 ha hb (by rw [la,lb]) (qi hbq))
theorem zqr {a b:Bk}(ha:BkOk a) (hb:BkOk b):∀(n i:Nat),i+n<=64->zxf (evEq lookM 39 89) (ztc lookM 89 (bkC a)) (ztc lookM 89 (bkC b)) 256 n i=some ((List.range' i n).all fun k=>decide (atB a k=atB b k))
 |0,i,_=>rfl
 |n+1,i,hi=>by
  show (match ztc lookM 89 (bkC a) (i*256),ztc lookM 89 (bkC b) (i*256) with
   |some x,some y=>(match evEq lookM 39 89 x y with
    |some true=>zxf (evEq lookM 39 89) (ztc lookM 89 (bkC a)) (ztc lookM 89 (bkC b)) 256 n (i+1)
    |r=>r)
   |_,_=>none)=_
  rw [zjj1 ha oM,zjj1 hb oM]
  show (match evEq lookM 39 89 (.bag 256 (Nb (atB a i))) (.bag 256 (Nb (atB b i))) with
    |some true=>zxf (evEq lookM 39 89) (ztc lookM 89 (bkC a)) (ztc lookM 89 (bkC b)) 256 n (i+1)
    |r=>r)=_
  rw [eqI,eqN (znu ha.byt i) (znu hb.byt i) (zvp ha.len oM) (zvp hb.len oM),List.range'_succ,ql7]
  cases decide (atB a i=atB b i) with
  |false=>rfl
  |true=>rw [qo2];exact zqr ha hb n (i+1) oM
theorem atB_all {a b:Bk}(ha:BkOk a) (hb:BkOk b) (h:∀k,k<64->atB a k=atB b k):a=b:=by
 refine qm3 fun i=> ?_
 rcases qf2 i 16384 with hi|hi
 ·have h1:=qj4 (fun l:List Nat=>l[i%256]?) (h (i / 256) oM)
  unfold atB at h1;simp only [List.getElem?_take,qj2] at h1;rw [qj (qb6 _ dC),qj (qb6 _ dC),Nat.div_add_mod] at h1
  exact h1
 ·rw [qx1 (by rw [ha.len];exact hi),qx1 (by rw [hb.len];exact hi)]
theorem all100 {a b:Bk}(ha:BkOk a) (hb:BkOk b):((List.range' 0 64).all fun k=>decide (atB a k=atB b k))=decide (a=b):=by
 rw [ql2,qb1,qs];constructor
 ·intro h
  exact atB_all ha hb fun k hk=>qe (h k (by rw [List.mem_range'_1];omega))
 ·rintro rfl k _
  exact qo rfl
theorem eq100 {a b:Bk}(ha:BkOk a) (hb:BkOk b):evEq lookM 40 100 (bkA a) (bkA b)=some (decide (a=b)):=by
 rw [← all100 ha hb,← zqr ha hb 64 0 oM]
 show (match lookM.under 100 with
  |some (.array n e)=>(match lookM.size e with
   |some s=>(match zsw (lookM.isAgg e) s (evEq lookM 39 e (.int .u8 0) (.int .u8 0)) n (bkC a) (bkC b) with
    |some r=>some r
    |none=>zxf (evEq lookM 39 e) (ztc lookM e (bkC a)) (ztc lookM e (bkC b)) s n 0)
   |none=>none)
  |_=>none)=_
 rw [u100];simp only [s89,a89];rfl
theorem pl100:lookM.plainEq 100=true:=kR
theorem ne100 {a b:Bk}(ha:BkOk a) (hb:BkOk b) (xo yo:Operand):binF .neq (evBin lookM .neq 100 xo yo) (bkA a) (bkA b)=some (.bool (!decide (a=b))):=by
 rw [zyl];unfold evBin;simp only [pl100,eq100 ha hb]
def sameR (a b:Ms) (i:Nat):Bool:=decide ((get a.t.rs i).nm=(get b.t.rs i).nm) && (decide ((get a.t.rs i).kd=(get b.t.rs i).kd) && (decide ((get a.t.rs i).sz=(get b.t.rs i).sz) &&
   (decide ((get a.t.rs i).qu=(get b.t.rs i).qu) && (decide ((get a.t.rs i).rs=(get b.t.rs i).rs) && decide (a.b (get a.t.rs i).id=b.b (get b.t.rs i).id)))))
theorem rc_n3 (p:AV×Rc):nth (rcL p) 3=some (.int .i64 p.2.sz):=rfl
theorem zaf (p:AV×Rc):nth (rcL p) 42=some (.int .i64 p.2.qu):=rfl
theorem zjb1 (a b:Ms):sameM a b=(decide (a.t.rs.length=b.t.rs.length) && (List.range a.t.rs.length).all (sameR a b)):=rfl
set_option maxHeartbeats 16000000 in
theorem same_ok {H:AH}[hn:HN H]{b mb b2 mb2:Nat}{s s2:Ms}{v lv v2 lv2:AV}(h:MdR H b mb s v lv) (h2:MdR H b2 mb2 s2 v2 lv2) (hd:Bd s.t) :
  FnE lookM 19 [.ptr b 0,.ptr b2 0] H fun r H'=>r= .bool (sameM s s2)/\HX H H':=by
 refine fI Tryz.f19 ?_;have hlo:=hn.lo;have hl:∀H',fstO (zea .len lookM [49] [v] H')=some (.int .i64 s.t.rs.length):=fun H'=>by have:=zwc (H':=H') uRs h.sl.is;rwa [zhc] at this
 have hl2:∀H',fstO (zea .len lookM [49] [v2] H')=some (.int .i64 s2.t.rs.length):=fun H'=>by have:=zwc (H':=H') uRs h2.sl.is;rwa [zhc] at this
 refine uT0 ?_;refine cR_f (zqu h) ?_;rintro r1 H1 ⟨rfl,hx1⟩;haveI:=hx1.hn;refine uT0 ?_;refine cR_f (zqu (h2.hx hx1)) ?_;rintro r2 H2 ⟨rfl,hx2⟩;have hx02:=hx1.trans hx2;haveI:=hx02.hn;have hb:=(h.hx hx02).box;have hb2:=(h2.hx hx02).box;rw [zjb1];by_cases el:s.t.rs.length=s2.t.rs.length
 ·have d1:decide (¬(s.t.rs.length:Int)=(s2.t.rs.length:Int))=false:=qp oM
  rw [qo el,qo2];have F:=J6 @hb @hb2 @md_1 @hl @hl2 @d1;refine uT ?_;refine rc_l (fun n T H'=> ∃q,n+q=s.t.rs.length/\HX H H'/\(List.range q).all (sameR s s2)=true/\gT T 0= .ptr b 0/\gT T 1= .ptr b2 0/\gT T 33=v/\gT T 34= .int .i64 s.t.rs.length/\gT T 35= .int .i64 q) s.t.rs.length ?_ ?_
  ·exact ⟨0,rfl,hx02,rfl,vT0,vT0,vT0,vT0,wT0⟩
  rintro n T H3 ⟨q,hnq,hx3,hall,t0,t1,t33,t34,t35⟩;haveI:=hx3.hn;have hn3:=hx3.next;have hlo3:H3.lo<=H3.next:=HN.lo;have hlen:=hd.len;cases n with
  |zero =>
   have hq:q=s.t.rs.length:=oM
   rw [hq] at hall;have d2:decide ((q:Int)<(s.t.rs.length:Int))=false:=qp oM
   rw [hall];have F:=J6 @t0 @t1 @t33 @t34 @t35 @d2;refine uT ?_;exact hx3
  |succ n =>
   have d2:decide ((q:Int)<(s.t.rs.length:Int))=true:=qo oM
   have k1:=h.hx hx3;have hone:=zbc (AV.nilSl,get s.t.rs q) rfl;have hone2:=zbc (AV.nilSl,get s2.t.rs q) rfl;have hix:=ix44 (z:=44) (q:=q) k1.sl.is (by rw [zhc];omega)
   have hld:=k1.sl.agg (nl_at (oM:q<s.t.rs.length))
   have hix2:=ix44 (z:=44) (q:=q) (h2.hx hx3).sl.is (by rw [zhc];omega)
   have hld2:∀bk bk',ldN 44 (elA 44 v2 q) ((H3.new bk).put H3.next bk')=some (.agg (rcL (AV.nilSl,get s2.t.rs q))):=fun bk bk'=>(h2.hx (hx3.putN bk bk')).sl.agg (nl_at (oM:q<s2.t.rs.length))
   have hbx2:=(h2.hx hx3).box;have lt2:=h2.lt;have eb2:=hEq_f (oM:b2≠H3.next)
   have F:=J16 @t0 @t1 @t33 @t34 @t35 @d2 @hix @hld @zra @hbx2 @eb2 @md_1 @hix2 @hld2 @rc_1 @zsd;refine uT ?_;have e67:=hEq_f (oM:H3.next≠H3.next+1)
   have hx5:∀b1 b1' b3 b3',HX H ((((H3.new b1).put H3.next b1').new b3).put (H3.next+1) b3'):=fun b1 b1' b3 b3'=>by have K:=hx3;exact hxk
   have no:sameR s s2 q=false-> ∀H',HX H H'->AV.bool false= .bool ((List.range s.t.rs.length).all (sameR s s2))/\HX H H':=fun hs H' hx'=>by
    refine ⟨?_,hx'⟩;have:(List.range s.t.rs.length).all (sameR s s2)=false:=by
     rw [List.all_eq_false];exact ⟨q,qc3.2 oM,by rw [hs];decide⟩
    rw [this]
   have yes:sameR s s2 q=true->(List.range (q+1)).all (sameR s s2)=true:=fun hs=>by
    rw [List.range_succ,qd6,hall,ql7,hs];rfl
   unfold sameR at no yes;cases x1:decide ((get s.t.rs q).nm=(get s2.t.rs q).nm) with
   |false =>
    rw [x1,qq2] at no;have F:=@x1;refine uT ?_;exact no rfl _ (hx5 _ _ _ _)
   |true =>
   have F:=J3 @x1 @rc_n2 @e67;refine uT ?_;cases x2:decide ((get s.t.rs q).kd=(get s2.t.rs q).kd) with
   |false =>
    rw [x1,x2] at no;have e2:decide (¬(get s.t.rs q).kd=(get s2.t.rs q).kd)=true:=qo (qf x2);have F:=J6 @rc_n2 @rc_n3 @zaf @zwf @e67 @e2;refine uT ?_;exact no rfl _ (hx5 _ _ _ _)
   |true =>
   have f2:decide (¬(get s.t.rs q).kd=(get s2.t.rs q).kd)=false:=qp fun x=>x (qe x2)
   have F:=J6 @rc_n2 @rc_n3 @zaf @zwf @e67 @f2;refine uT ?_;cases x3:decide ((get s.t.rs q).sz=(get s2.t.rs q).sz) with
   |false =>
    rw [x1,x2,x3] at no;have e3:decide (¬(get s.t.rs q).sz=(get s2.t.rs q).sz)=true:=qo (qf x3);have F:=J6 @rc_n2 @rc_n3 @zaf @zwf @e67 @e3;refine uT ?_;exact no rfl _ (hx5 _ _ _ _)
   |true =>
   have f3:decide (¬(get s.t.rs q).sz=(get s2.t.rs q).sz)=false:=qp fun x=>x (qe x3)
   have F:=J6 @rc_n2 @rc_n3 @zaf @zwf @e67 @f3;refine uT ?_;cases x4:decide ((get s.t.rs q).qu=(get s2.t.rs q).qu) with
   |false =>
    rw [x1,x2,x3,x4] at no;have e4:decide (¬(get s.t.rs q).qu=(get s2.t.rs q).qu)=true:=qo (qf x4);have F:=J6 @rc_n2 @rc_n3 @zaf @zwf @e67 @e4;refine uT ?_;exact no rfl _ (hx5 _ _ _ _)
   |true =>
   have f4:decide (¬(get s.t.rs q).qu=(get s2.t.rs q).qu)=false:=qp fun x=>x (qe x4)
   have F:=J6 @rc_n2 @rc_n3 @zaf @zwf @e67 @f4;refine uT ?_;cases x5:decide ((get s.t.rs q).rs=(get s2.t.rs q).rs) with
   |false =>
    rw [x1,x2,x3,x4,x5] at no;have e5:decide (¬(get s.t.rs q).rs=(get s2.t.rs q).rs)=true:=qo (qf x5);have F:=J6 @rc_n2 @rc_n3 @zaf @zwf @e67 @e5;refine uT ?_;exact no rfl _ (hx5 _ _ _ _)
   |true =>
   have f5:decide (¬(get s.t.rs q).rs=(get s2.t.rs q).rs)=false:=qp fun x=>x (qe x5)
   have F:=J6 @rc_n2 @rc_n3 @zaf @zwf @e67 @f5;refine uT ?_;have hb3:=k1.box;have lt1:=h.lt;have eb3:=hEq_f (oM:b≠H3.next)
   have eb4:=hEq_f (oM:b≠H3.next+1)
   have eb5:=hEq_f (oM:b2≠H3.next+1)
   have hlk:∀b1 b1' b3 b3' (k:Int),zjb lookM 61 (.map mb) (.int .i64 k) false ((((H3.new b1).put H3.next b1').new b3).put (H3.next+1) b3')=some (bkA (s.b k)):=fun b1 b1' b3 b3' k=>(h.hx (hx5 b1 b1' b3 b3')).mp.at k
   have hlk2:∀b1 b1' b3 b3' (k:Int),zjb lookM 61 (.map mb2) (.int .i64 k) false ((((H3.new b1).put H3.next b1').new b3).put (H3.next+1) b3')=some (bkA (s2.b k)):=fun b1 b1' b3 b3' k=>(h2.hx (hx5 b1 b1' b3 b3')).mp.at k
   have hne:=fun xo yo=>ne100 (h.mp.ok (get s.t.rs q).id) (h2.mp.ok (get s2.t.rs q).id) xo yo
   have F:=J14 @t0 @t1 @hb3 @hbx2 @eb2 @eb3 @eb4 @eb5 @e67 @md_7 @rc_n0 @hlk @hlk2 @hne;refine uT ?_;cases x6:decide (s.b (get s.t.rs q).id=s2.b (get s2.t.rs q).id) with
   |false =>
    rw [x1,x2,x3,x4,x5,x6] at no;have F:=@x6;refine uT ?_;exact no rfl _ (hx5 _ _ _ _)
   |true =>
    rw [x1,x2,x3,x4,x5,x6] at yes;have F:=J6 @x6 @t0 @t1 @t33 @t34 @t35;refine uT ?_;exact ⟨n,oM,q+1,oM,hx5 _ _ _ _,yes rfl,by push_cast;rfl⟩
 ·have d1:decide (¬(s.t.rs.length:Int)=(s2.t.rs.length:Int))=true:=qo oM
  rw [qp el,qq2];have F:=J6 @hb @hb2 @md_1 @hl @hl2 @d1;refine uT ?_;exact hx02
abbrev u8L (l:List Nat):List AV:=l.map fun x:Nat=>AV.int .u8 (.ofNat x)
theorem sl89 (i o:Nat):zxa lookM 89 false false false [.ptr i o]=some (.sl i o 256 256 false):=kR
theorem u8_one (l:List Nat):(u8L l).all AV.oneCell=true:=qb1.2 fun y hy=>by obtain ⟨x,_,rfl⟩:=qd3.1 hy;rfl
theorem bk_row {H:AH}{j e z:Nat}{op:Bool}{b:Bk}(h:BkOk b) (hg:H.get j=some (.cells (bkC b) e z op false)):Row H j false op e z (u8L b):=by
 refine ⟨bkC b,hg,?_⟩;have:=byC_l h.byt;unfold byC at this
 rwa [h.len] at this
theorem bk_sl {H:AH}{j e z:Nat}{op:Bool}{b:Bk}(h:BkOk b) (hj:j<H.next) (hg:H.get j=some (.cells (bkC b) e z op false)){k:Nat}(hk:k<64):SlZ H (.sl j (k*256) 256 256 false) 256 1 (u8L (atB b k)):=by
 refine ⟨by rw [qt3,zvp h.len hk],.inr ⟨j,k*256,256,false,false,op,e,z,u8L b,rfl,hj,bk_row h hg,by rw [qt3,h.len];omega,?_⟩⟩
 unfold atB u8L;rw [qm5,qn5,qo3 256 k,qx4]
theorem zkj1 (b:Bk) (i j:Nat):someB b i (j+1)=someB b i j ++ atB b (i+j):=by
 unfold someB atB;rw [show 256*(j+1)=256*j+256 from oM,qt7,qk3,show 256*(i+j)=256*i+256*j from oM]
theorem zsu {b:Bk}(h:b.length=16384){i j:Nat}(hj:i+j<=64):(someB b i j).length=256*j:=by
 unfold someB;rw [qd1,qb2];omega
theorem some_ok {H:AH}[hn:HN H]{b mb:Nat}{s:Ms}{v lv:AV}{x:Rc}{i n:Nat}(h:MdR H b mb s v lv) (hi:i+n<=64) :
  FnE lookM 47 [.ptr b 0,.agg (rcL (.nilSl,x)),.int .i64 i,.int .i64 n] H fun r H'=>OwnS H' r (256*n) 5 1 (u8L (someB (s.b x.id) i n)) H.next/\HX H H':=by
 refine fJ Tryz.f47 o47 ?_;have hlo:=hn.lo;have hlt:=h.lt;have hb:=h.box;have e0:=hEq_f (oM:b≠H.next)
 have hlk:∀bk k,zjb lookM 61 (.map mb) (.int .i64 k) false (H.new bk)=some (bkA (s.b k)):=fun bk k=>((h.hx (HX.new H bk)).mp).at k
 have hbo:=h.mp.ok x.id;have hw:=fun i e op H=>wbk0 i e op H hbo
 have F:=J11 @zra @hb @md_7 @e0 @rc_n0 @hlk @zyi @zzi @z100 @zfd @hw;refine uT ?_;generalize s.b x.id=B at *
 refine rc_j o47 (fun m T H'=> ∃j out,m+j=n/\HX H H'/\H.next+2<=H'.next/\H'.get (H.next+1)=some (.cells (bkC B) 100 16384 false false) /\
  OwnS H' out (256*j) 5 1 (u8L (someB B i j)) (H.next+2)/\gT T 2= .int .i64 i/\gT T 9=out/\gT T 10= .ptr (H.next+1) 0/\gT T 19= .int .i64 n/\gT T 20= .int .i64 j) n ?_ ?_
 ·refine ⟨0,.nilSl,rfl,hxt,qn _,zfa _ _,?_,vT0,vT0,vT0,vT0,wT0⟩
  have:someB B i 0= []:=by unfold someB;rw [Nat.mul_zero,qp5]
  rw [this];exact OwnS.nil _ _ _ _
 rintro m T H1 ⟨j,out,hmj,hx1,hn1,g1,ho,t2,t9,t10,t19,t20⟩;haveI:=hx1.hn;have hlo1:H1.lo=H.lo:=hx1.lo;cases m with
 |zero =>
  have hj:j=n:=oM
  rw [hj] at ho;have d1:decide ((j:Int)<(n:Int))=false:=qp oM
  have F:=J6 @t2 @t9 @t10 @t19 @t20 @d1;refine uT ?_;exact ⟨OwnS.le ho oM,hx1⟩
 |succ m =>
  have d1:decide ((j:Int)<(n:Int))=true:=qo oM
  have hix:=ixA_n (n:=64) (z:=256) (i:=H.next+1) (o:=0) (k:=i+j) oM
  have hcast:((i:Int)+(j:Int))=((i+j:Nat):Int):=by push_cast;rfl
  have hsl:=bk_sl hbo oM g1 (k:=i+j) oM
  obtain ⟨out2,H2,a1,ho2,hp2,hn2,hne2⟩:=OwnS.app (b:=1) ho hsl (u8_one _) oM oM oM oM
  have F:=J11 @t2 @t9 @t10 @t19 @t20 @d1 @hcast @hix @zkw @sl89 @a1;refine uT ?_;have hnb:blkNe out (H.next+1):=by
   rcases ho.2 with ⟨rfl,_⟩|⟨q,op,rfl,_,hq,_⟩
   ·exact zka _
   ·exact zla oM
  have g2:=(hp2.get (i:=H.next+1) oM hnb).trans g1
  refine ⟨m,oM,j+1,out2,oM,HX.hp2 hx1 hp2 fun q hq=> ?_,by have:=hp2.next;omega,g2,?_,rfl,by push_cast;rfl⟩
  ·rcases ho.2 with ⟨rfl,_⟩|⟨q2,op,rfl,_,hq2,_⟩
   ·exact zka _
   ·exact zla oM
  ·rw [zkj1,show u8L (someB B i j ++ atB B (i+j))=u8L (someB B i j) ++ u8L (atB B (i+j)) from qe3,show 256*(j+1)=256*j+256 from oM]
   exact ho2
end HS
end
