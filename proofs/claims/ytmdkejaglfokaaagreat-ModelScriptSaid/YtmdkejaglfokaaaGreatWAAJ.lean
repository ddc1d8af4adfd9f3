import Derived.Test.YtmdkejaglfokaaaGreatWAAG
import Derived.Test.YtmdkejaglfokaaaGreatWAAI
import Derived.Test.YtmdkejaglfokaaaGreatWAAF
import Derived.Test.YtmdkejaglfokaaaGreatWAAE
noncomputable section
set_option maxHeartbeats 8000000
set_option linter.unusedSimpArgs false
set_option linter.unusedVariables false
open Go Go.Ev Go.Proofs Go.RowKit
namespace HS
set_option maxRecDepth 100000
open HS.Md
theorem join4 {x u:Bool}{G C:Prop}(h0:u=true->C->G) (h1:u=false->x=false->C->G) (h2:u=false->x=true->G) (hc:(x=false\/u=true)->C):G:=by
 cases u with
 |true=>exact h0 rfl (hc (.inr rfl))
 |false =>
  cases x with
  |false=>exact h1 rfl rfl (hc (.inl rfl))
  |true=>exact h2 rfl rfl
set_option maxHeartbeats 16000000 in
theorem zuo1 {H:AH}[hn:HN H](op:Int):FnE lookM 59 [.int .i64 op] H fun r H'=>r=usA (usesO op)/\HX H H':=by
 refine fI Tryz.f59 ?_;have hlo:=hn.lo;have fin:∀(u:AV) (H':AH),u=usA (usesO op)->HX H H'->u=usA (usesO op)/\HX H H':=fun _ _ a b=>⟨a,b⟩
 have F:=J12 @zsb @zxb @us_w @us_b0 @us_b1 @us_b2 @us_b3 @us_b4 @us_b5 @us_b6 @us_b7 @ld6;refine uT ?_;clear F;cases a1:decide (op=1) with
 |true =>
  have e:=qg a1;have F:=J12 @zsb @zxb @us_w @us_b0 @us_b1 @us_b2 @us_b3 @us_b4 @us_b5 @us_b6 @us_b7 @ld6;refine uT ?_;clear F;exact fin _ _ (by rw [e];rfl) (hxt)
 |false =>
 have n1:¬op=1:=qh a1;have F:=J12 @zsb @zxb @us_w @us_b0 @us_b1 @us_b2 @us_b3 @us_b4 @us_b5 @us_b6 @us_b7 @ld6;refine uT ?_;clear F;cases a7:decide (op=7) with
 |true =>
  have e:=qg a7;have F:=J12 @zsb @zxb @us_w @us_b0 @us_b1 @us_b2 @us_b3 @us_b4 @us_b5 @us_b6 @us_b7 @ld6;refine uT ?_;clear F;exact fin _ _ (by rw [e];rfl) (hxt)
 |false =>
 have n7:¬op=7:=qh a7;have F:=J12 @zsb @zxb @us_w @us_b0 @us_b1 @us_b2 @us_b3 @us_b4 @us_b5 @us_b6 @us_b7 @ld6;refine uT ?_;clear F;cases a2:decide (op=2) with
 |true =>
  have e:=qg a2;have F:=J12 @zsb @zxb @us_w @us_b0 @us_b1 @us_b2 @us_b3 @us_b4 @us_b5 @us_b6 @us_b7 @ld6;refine uT ?_;clear F;exact fin _ _ (by rw [e];rfl) (hxt)
 |false =>
 have n2:¬op=2:=qh a2;have F:=J12 @zsb @zxb @us_w @us_b0 @us_b1 @us_b2 @us_b3 @us_b4 @us_b5 @us_b6 @us_b7 @ld6;refine uT ?_;clear F;cases a4:decide (op=4) with
 |true =>
  have e:=qg a4;have F:=J12 @zsb @zxb @us_w @us_b0 @us_b1 @us_b2 @us_b3 @us_b4 @us_b5 @us_b6 @us_b7 @ld6;refine uT ?_;clear F;exact fin _ _ (by rw [e];rfl) (hxt)
 |false =>
 have n4:¬op=4:=qh a4;have F:=J12 @zsb @zxb @us_w @us_b0 @us_b1 @us_b2 @us_b3 @us_b4 @us_b5 @us_b6 @us_b7 @ld6;refine uT ?_;clear F;cases a5:decide (op=5) with
 |true =>
  have e:=qg a5;have F:=J12 @zsb @zxb @us_w @us_b0 @us_b1 @us_b2 @us_b3 @us_b4 @us_b5 @us_b6 @us_b7 @ld6;refine uT ?_;clear F;exact fin _ _ (by rw [e];rfl) (hxt)
 |false =>
 have n5:¬op=5:=qh a5;have F:=J12 @zsb @zxb @us_w @us_b0 @us_b1 @us_b2 @us_b3 @us_b4 @us_b5 @us_b6 @us_b7 @ld6;refine uT ?_;clear F;cases a9:decide (op=9) with
 |true =>
  have e:=qg a9;have F:=J12 @zsb @zxb @us_w @us_b0 @us_b1 @us_b2 @us_b3 @us_b4 @us_b5 @us_b6 @us_b7 @ld6;refine uT ?_;clear F;exact fin _ _ (by rw [e];rfl) (hxt)
 |false =>
 have n9:¬op=9:=qh a9;have F:=J12 @zsb @zxb @us_w @us_b0 @us_b1 @us_b2 @us_b3 @us_b4 @us_b5 @us_b6 @us_b7 @ld6;refine uT ?_;clear F;cases a15:decide (op=15) with
 |true =>
  have e:=qg a15;have F:=J12 @zsb @zxb @us_w @us_b0 @us_b1 @us_b2 @us_b3 @us_b4 @us_b5 @us_b6 @us_b7 @ld6;refine uT ?_;clear F;exact fin _ _ (by rw [e];rfl) (hxt)
 |false =>
 have n15:¬op=15:=qh a15;have F:=J12 @zsb @zxb @us_w @us_b0 @us_b1 @us_b2 @us_b3 @us_b4 @us_b5 @us_b6 @us_b7 @ld6;refine uT ?_;clear F;cases a16:decide (op=16) with
 |true =>
  have e:=qg a16;have F:=J12 @zsb @zxb @us_w @us_b0 @us_b1 @us_b2 @us_b3 @us_b4 @us_b5 @us_b6 @us_b7 @ld6;refine uT ?_;clear F;exact fin _ _ (by rw [e];rfl) (hxt)
 |false =>
 have n16:¬op=16:=qh a16;have F:=J12 @zsb @zxb @us_w @us_b0 @us_b1 @us_b2 @us_b3 @us_b4 @us_b5 @us_b6 @us_b7 @ld6;refine uT ?_;clear F;cases a3:decide (op=3) with
 |true =>
  have e:=qg a3;have F:=J12 @zsb @zxb @us_w @us_b0 @us_b1 @us_b2 @us_b3 @us_b4 @us_b5 @us_b6 @us_b7 @ld6;refine uT ?_;clear F;exact fin _ _ (by rw [e];rfl) (hxt)
 |false =>
 have n3:¬op=3:=qh a3;have F:=J12 @zsb @zxb @us_w @us_b0 @us_b1 @us_b2 @us_b3 @us_b4 @us_b5 @us_b6 @us_b7 @ld6;refine uT ?_;clear F;cases a6:decide (op=6) with
 |true =>
  have e:=qg a6;have F:=J12 @zsb @zxb @us_w @us_b0 @us_b1 @us_b2 @us_b3 @us_b4 @us_b5 @us_b6 @us_b7 @ld6;refine uT ?_;clear F;exact fin _ _ (by rw [e];rfl) (hxt)
 |false =>
 have n6:¬op=6:=qh a6;have F:=J12 @zsb @zxb @us_w @us_b0 @us_b1 @us_b2 @us_b3 @us_b4 @us_b5 @us_b6 @us_b7 @ld6;refine uT ?_;clear F;cases a10:decide (op=10) with
 |true =>
  have e:=qg a10;have F:=J12 @zsb @zxb @us_w @us_b0 @us_b1 @us_b2 @us_b3 @us_b4 @us_b5 @us_b6 @us_b7 @ld6;refine uT ?_;clear F;exact fin _ _ (by rw [e];rfl) (hxt)
 |false =>
 have n10:¬op=10:=qh a10;have F:=J12 @zsb @zxb @us_w @us_b0 @us_b1 @us_b2 @us_b3 @us_b4 @us_b5 @us_b6 @us_b7 @ld6;refine uT ?_;clear F;cases a8:decide (op=8) with
 |true =>
  have e:=qg a8;have F:=J12 @zsb @zxb @us_w @us_b0 @us_b1 @us_b2 @us_b3 @us_b4 @us_b5 @us_b6 @us_b7 @ld6;refine uT ?_;clear F;exact fin _ _ (by rw [e];rfl) (hxt)
 |false =>
 have n8:¬op=8:=qh a8;have F:=J12 @zsb @zxb @us_w @us_b0 @us_b1 @us_b2 @us_b3 @us_b4 @us_b5 @us_b6 @us_b7 @ld6;refine uT ?_;clear F;cases a12:decide (op=12) with
 |true =>
  have e:=qg a12;have F:=J12 @zsb @zxb @us_w @us_b0 @us_b1 @us_b2 @us_b3 @us_b4 @us_b5 @us_b6 @us_b7 @ld6;refine uT ?_;clear F;exact fin _ _ (by rw [e];rfl) (hxt)
 |false =>
 have n12:¬op=12:=qh a12;have F:=J12 @zsb @zxb @us_w @us_b0 @us_b1 @us_b2 @us_b3 @us_b4 @us_b5 @us_b6 @us_b7 @ld6;refine uT ?_;clear F;cases a14:decide (op=14) with
 |true =>
  have e:=qg a14;have F:=J12 @zsb @zxb @us_w @us_b0 @us_b1 @us_b2 @us_b3 @us_b4 @us_b5 @us_b6 @us_b7 @ld6;refine uT ?_;clear F;exact fin _ _ (by rw [e];rfl) (hxt)
 |false =>
 have n14:¬op=14:=qh a14;have F:=J12 @zsb @zxb @us_w @us_b0 @us_b1 @us_b2 @us_b3 @us_b4 @us_b5 @us_b6 @us_b7 @ld6;refine uT ?_;clear F;cases a11:decide (op=11) with
 |true =>
  have e:=qg a11;have F:=J12 @zsb @zxb @us_w @us_b0 @us_b1 @us_b2 @us_b3 @us_b4 @us_b5 @us_b6 @us_b7 @ld6;refine uT ?_;clear F;exact fin _ _ (by rw [e];rfl) (hxt)
 |false =>
 have n11:¬op=11:=qh a11;have F:=J12 @zsb @zxb @us_w @us_b0 @us_b1 @us_b2 @us_b3 @us_b4 @us_b5 @us_b6 @us_b7 @ld6;refine uT ?_;clear F;cases a13:decide (op=13) with
 |true =>
  have e:=qg a13;have F:=J12 @zsb @zxb @us_w @us_b0 @us_b1 @us_b2 @us_b3 @us_b4 @us_b5 @us_b6 @us_b7 @ld6;refine uT ?_;clear F;exact fin _ _ (by rw [e];rfl) (hxt)
 |false =>
 have n13:¬op=13:=qh a13;have F:=J12 @zsb @zxb @us_w @us_b0 @us_b1 @us_b2 @us_b3 @us_b4 @us_b5 @us_b6 @us_b7 @ld6;refine uT ?_;clear F;cases a18:decide (op=18) with
 |true =>
  have e:=qg a18;have F:=J12 @zsb @zxb @us_w @us_b0 @us_b1 @us_b2 @us_b3 @us_b4 @us_b5 @us_b6 @us_b7 @ld6;refine uT ?_;clear F;exact fin _ _ (by rw [e];rfl) (hxt)
 |false =>
 have n18:¬op=18:=qh a18;have F:=J12 @zsb @zxb @us_w @us_b0 @us_b1 @us_b2 @us_b3 @us_b4 @us_b5 @us_b6 @us_b7 @ld6;refine uT ?_;clear F;cases a20:decide (op=20) with
 |true =>
  have e:=qg a20;have F:=J12 @zsb @zxb @us_w @us_b0 @us_b1 @us_b2 @us_b3 @us_b4 @us_b5 @us_b6 @us_b7 @ld6;refine uT ?_;clear F;exact fin _ _ (by rw [e];rfl) (hxt)
 |false =>
 have n20:¬op=20:=qh a20;have F:=J12 @zsb @zxb @us_w @us_b0 @us_b1 @us_b2 @us_b3 @us_b4 @us_b5 @us_b6 @us_b7 @ld6;refine uT ?_;clear F;cases a21:decide (op=21) with
 |true =>
  have e:=qg a21;have F:=J12 @zsb @zxb @us_w @us_b0 @us_b1 @us_b2 @us_b3 @us_b4 @us_b5 @us_b6 @us_b7 @ld6;refine uT ?_;clear F;exact fin _ _ (by rw [e];rfl) (hxt)
 |false =>
 have n21:¬op=21:=qh a21;have F:=J12 @zsb @zxb @us_w @us_b0 @us_b1 @us_b2 @us_b3 @us_b4 @us_b5 @us_b6 @us_b7 @ld6;refine uT ?_;clear F;refine fin _ _ ?_ (hxt);unfold usesO;rw [qd oM,qd oM,qd oM,qd oM,qd oM,qd oM,qd oM]
 rfl
set_option maxHeartbeats 32000000 in
theorem zow {H:AH}[hn:HN H]{o:Od}{lv bv:AV}(h:OdIn H o lv bv) :
  FnE lookM 31 [odA o lv bv] H fun r H'=>r= .int .i64 (ordI o)/\HX H H':=by
 refine fI Tryz.f31 ?_;have hlo:=hn.lo;have hw:=fun n=> @FnX.p _ _ _ _ (zcb1 n)
 have hl:=fun H'=>h.l.1.1 uTs H'
 have hb:=fun H'=>h.b.1 uBs H'
 have F:=J2 @zke @od_0;refine uT ?_;clear F;refine cR_at (fun H1=>HX H H1/\H1.next=H.next+1/\H1.get H.next=some (odx o lv bv)) ?_ ?_
 ·exact ⟨hxt,rfl,zaa _⟩
 rintro H1 ⟨hx1,hn1,g0⟩;haveI:=hx1.hn;refine cR_f (zuo1 o.op) ?_;rintro r2 H2 ⟨rfl,hx2⟩;have hx02:=hx1.trans hx2;have hn2:=hx2.next;have g0:=(hx2.get (i:=H.next) oM).trans g0
 haveI:=hx02.hn;have no:¬OrdP o-> ∀H',HX H H'->AV.int .i64 2= .int .i64 (ordI o)/\HX H H':=fun h H' hx'=>⟨by rw [zrj1 h],hx'⟩
 generalize hu:usesO o.op=u at *
 obtain ⟨u1,u2,u3,u4,u5,u6⟩:=u;have hua:usA (u1,u2,u3,u4,u5,u6)=us6A u1 u2 u3 u4 u5 u6:=rfl;rw [hua];have hlo2:H2.lo<=H2.next:=HN.lo;have F:=J2 @zsb @us_w;refine uT ?_;clear F;have hx3:HX H ((H2.new (.cells (.lst (us6 false false false false false false)) 103 6 false false)).put H2.next (.cells (.lst (us6 u1 u2 u3 u4 u5 u6)) 103 6 false false)):=by have K:=hx02;exact hxk
 have gu:((H2.new (.cells (.lst (us6 false false false false false false)) 103 6 false false)).put H2.next (.cells (.lst (us6 u1 u2 u3 u4 u5 u6)) 103 6 false false)).get H2.next=some (.cells (.lst (us6 u1 u2 u3 u4 u5 u6)) 103 6 false false):=zia _ _;have g3:((H2.new (.cells (.lst (us6 false false false false false false)) 103 6 false false)).put H2.next (.cells (.lst (us6 u1 u2 u3 u4 u5 u6)) 103 6 false false)).get H.next=some (odx o lv bv):=by have F:=@g0;exact vT
 generalize ((H2.new (.cells (.lst (us6 false false false false false false)) 103 6 false false)).put H2.next (.cells (.lst (us6 u1 u2 u3 u4 u5 u6)) 103 6 false false))=H3 at *
 haveI:=hx3.hn;have F:=J2 @g0 @od_0;refine uT ?_;clear F;cases a1:decide (o.op<1) with
 |true=>refine uT0 ?_;exact no (fun h=>h.op1 (qg a1)) _ hx3
 |false =>
 have F:=J2 @g3 @od_0;refine uT ?_;clear F;cases a2:decide (24<o.op) with
 |true=>refine uT0 ?_;exact no (fun h=>h.op2 (qg a2)) _ hx3
 |false =>
 have F:=J3 @g3 @od_1 @ls9;refine uT ?_;clear F;cases a7:decide (48<(o.nm.size:Int)) with
 |true=>refine uT0 ?_;exact no (fun h=>by have:=h.nm;unfold longB at this;rw [this] at a7;cases a7) _ hx3
 |false =>
 have F:=J3 @g3 @od_2 @ls9;refine uT ?_;clear F;cases a8:decide (48<(o.to.size:Int)) with
 |true=>refine uT0 ?_;exact no (fun h=>by have:=h.to;unfold longB at this;rw [this] at a8;cases a8) _ hx3
 |false =>
 have F:=J3 @g3 @od_3 @hw;refine uT ?_;clear F;cases a3:wi o.n 0 maxN with
 |false=>refine uT0 ?_;exact no (fun h=>by rw [h.n] at a3;cases a3) _ hx3
 |true =>
 have F:=J3 @g3 @od_4 @hw;refine uT ?_;clear F;cases a4:wi o.m 0 maxN with
 |false=>refine uT0 ?_;exact no (fun h=>by rw [h.m] at a4;cases a4) _ hx3
 |true =>
 have F:=J3 @g3 @od_5 @hl;refine uT ?_;clear F;cases a5:decide (16<(o.l.length:Int)) with
 |true=>refine uT0 ?_;exact no (fun h=>h.l (qg a5)) _ hx3
 |false =>
 have F:=J3 @g3 @od_6 @hb;refine uT ?_;clear F;cases a6:decide (16384<(o.b.length:Int)) with
 |true=>refine uT0 ?_;exact no (fun h=>h.b (qg a6)) _ hx3
 |false =>
 refine uT0 ?_;refine rc_l (fun n T H'=> ∃q,n+q=o.l.length/\H'=H3/\gT T 1= .ptr H.next 0/\gT T 3= .ptr H2.next 0/\gT T 4= .int .i64 q/\(o.l.take q).any longB=false) o.l.length ?_ ?_
 ·exact ⟨0,rfl,rfl,vT0,vT0,by refine uT0 ?_;rfl,by simp⟩
 rintro n T H' ⟨q,hnq,rfl,t1,t3,t4,hall⟩;cases n with
 |succ n =>
  have hq:q<o.l.length:=oM
  have hk:o.l[q]? =some o.l[q]:=qo hq;have hix:=ix44 (z:=1) (q:=q) (h.l.is oM) hq
  have hld:=SlT.at (h.l.hx hx3) hk;have hll:=h.ll;generalize o.l[q]=s at *
  cases asz:decide (48<(s.size:Int)) with
  |true =>
   have F:=J10 @g3 @od_5 @hl @t1 @t3 @t4 @hix @hld @ls9 @asz;refine uT ?_;clear F;exact no (fun h=>by have:=zqp (f:=longB) hk asz;rw [h.ls] at this;cases this) _ hx3
  |false =>
   have F:=J10 @g3 @od_5 @hl @t1 @t3 @t4 @hix @hld @ls9 @asz;refine uT ?_;clear F;exact ⟨n,oM,q+1,oM,by push_cast;rfl,by rw [zyh hk,hall];exact asz⟩
 |zero =>
 rw [qx oM] at hall
 have a9:=hall;have g4:=g3;have hx04:=hx3;obtain ⟨x1,hX1⟩:∃x,(!decide (o.nm=⟨#[]⟩))=x:=⟨_,rfl⟩
 obtain ⟨x2,hX2⟩:∃x,(!decide (o.to=⟨#[]⟩))=x:=⟨_,rfl⟩
 obtain ⟨x3,hX3⟩:∃x,decide (¬o.n=0)=x:=⟨_,rfl⟩
 obtain ⟨x4,hX4⟩:∃x,decide (¬o.m=0)=x:=⟨_,rfl⟩
 obtain ⟨x5,hX5⟩:∃x,decide (0<(o.l.length:Int))=x:=⟨_,rfl⟩
 obtain ⟨x6,hX6⟩:∃x,decide (0<(o.b.length:Int))=x:=⟨_,rfl⟩
 have p1:o.nm=⟨#[]⟩->x1=false:=fun h=>by rw [← hX1,qk h];rfl
 have p2:o.to=⟨#[]⟩->x2=false:=fun h=>by rw [← hX2,qk h];rfl
 have p3:o.n=0->x3=false:=fun h=>by rw [← hX3];exact qq fun x=>x h
 have p4:o.m=0->x4=false:=fun h=>by rw [← hX4];exact qq fun x=>x h
 have p5:¬0<(o.l.length:Int)->x5=false:=fun h=>by rw [← hX5];exact qq h
 have p6:¬0<(o.b.length:Int)->x6=false:=fun h=>by rw [← hX6];exact qq h
 have q1:x1=false->o.nm=⟨#[]⟩:=fun h=>by
  rw [← hX1] at h;cases e:decide (o.nm=⟨#[]⟩) with
  |true=>exact qg e
  |false=>rw [e] at h;cases h
 have q2:x2=false->o.to=⟨#[]⟩:=fun h=>by
  rw [← hX2] at h;cases e:decide (o.to=⟨#[]⟩) with
  |true=>exact qg e
  |false=>rw [e] at h;cases h
 have q3:x3=false->o.n=0:=fun h=>by
  rw [← hX3] at h;exact qf6.1 (qh h)
 have q4:x4=false->o.m=0:=fun h=>by
  rw [← hX4] at h;exact qf6.1 (qh h)
 have q5:x5=false-> ¬0<(o.l.length:Int):=fun h=>by
  rw [← hX5] at h;exact qh h
 have q6:x6=false-> ¬0<(o.b.length:Int):=fun h=>by
  rw [← hX6] at h;exact qh h
 have yes:(x1=false\/u1=true)->(x2=false\/u2=true)->(x3=false\/u3=true)->(x4=false\/u4=true)->(x5=false\/u5=true)->(x6=false\/u6=true)-> ∀H',HX H H'->AV.int .i64 0= .int .i64 (ordI o)/\HX H H':=fun k1 k2 k3 k4 k5 k6 H' hx'=>by
  refine ⟨?_,hx'⟩;rw [zdb1];exact ⟨qh a1,qh a2,a3,a4,qh a5,qh a6,a7,a8,a9,by rw [hu];exact k1.imp q1 id,by rw [hu];exact k2.imp q2 id,by rw [hu];exact k3.imp q3 id,by rw [hu];exact k4.imp q4 id,by rw [hu];exact k5.imp q5 id,by rw [hu];exact k6.imp q6 id⟩
 have n1:x1=true->u1=false-> ¬OrdP o:=fun hx hv h=>by
  have:=h.u1;rw [hu] at this;rcases this with e|e
  ·rw [p1 e] at hx;cases hx
  ·have e:u1=true:=e
   rw [hv] at e;cases e
 have n2:x2=true->u2=false-> ¬OrdP o:=fun hx hv h=>by
  have:=h.u2;rw [hu] at this;rcases this with e|e
  ·rw [p2 e] at hx;cases hx
  ·have e:u2=true:=e
   rw [hv] at e;cases e
 have n3:x3=true->u3=false-> ¬OrdP o:=fun hx hv h=>by
  have:=h.u3;rw [hu] at this;rcases this with e|e
  ·rw [p3 e] at hx;cases hx
  ·have e:u3=true:=e
   rw [hv] at e;cases e
 have n4:x4=true->u4=false-> ¬OrdP o:=fun hx hv h=>by
  have:=h.u4;rw [hu] at this;rcases this with e|e
  ·rw [p4 e] at hx;cases hx
  ·have e:u4=true:=e
   rw [hv] at e;cases e
 have n5:x5=true->u5=false-> ¬OrdP o:=fun hx hv h=>by
  have:=h.u5;rw [hu] at this;rcases this with e|e
  ·rw [p5 e] at hx;cases hx
  ·have e:u5=true:=e
   rw [hv] at e;cases e
 have n6:x6=true->u6=false-> ¬OrdP o:=fun hx hv h=>by
  have:=h.u6;rw [hu] at this;rcases this with e|e
  ·rw [p6 e] at hx;cases hx
  ·have e:u6=true:=e
   rw [hv] at e;cases e
 have F:=J8 @g3 @od_5 @hl @t1 @t3 @t4 @gu @us_0;refine uT ?_;clear F;refine gR_at (fun T=>gT T 1= .ptr H.next 0/\gT T 3= .ptr H2.next 0/\gT T 69= .bool (!u1)) ?_ ?_
 ·exact ⟨by have F:=@t1;exact vT,by have F:=@t3;exact vT,vT0⟩
 clear t1 t3 t4;rintro T ⟨t1,t3,tX⟩;refine join4 (x:=x1) (u:=u1) (C:= ∀T,gT T 1= .ptr H.next 0->gT T 3= .ptr H2.next 0->gT T 74= .bool false->gT T 78= .bool (!u2)->gR (.bool (!u2)) true lookM ?d0 ?b0 ?k0 ?s0 T H' ?Q0) (fun hv hC=> ?_) (fun hv hx hC=> ?_) (fun hv hx=> ?_) (fun k1=> ?_)
 case refine_1 =>
  have F:=J6 @gu @us_1 @hv @t1 @t3 @tX;refine uT ?_;clear F;refine hC _ ?_ ?_ ?_ ?_
  ·have F:=@t1;exact vT
  ·have F:=@t3;exact vT
  ·exact vT0
  ·exact vT0
 case refine_2 =>
  have F:=J11 @gu @us_1 @hv @g3 @od_1 @ztd @hX1 @hx @t1 @t3 @tX;refine uT ?_;clear F;refine hC _ ?_ ?_ ?_ ?_
  ·have F:=@t1;exact vT
  ·have F:=@t3;exact vT
  ·exact vT0
  ·exact vT0
 case refine_3 =>
  have F:=J9 @hv @g3 @od_1 @ztd @hX1 @hx @t1 @t3 @tX;refine uT ?_;clear F;exact no (n1 hx hv) _ hx04
 intro T t1 t3 tA tX;refine join4 (x:=x2) (u:=u2) (C:= ∀T,gT T 1= .ptr H.next 0->gT T 3= .ptr H2.next 0->gT T 84= .bool false->gT T 88= .bool (!u3)->gR (.bool (!u3)) true lookM ?d1 ?b1 ?k1 ?s1 T H' ?Q1) (fun hv hC=> ?_) (fun hv hx hC=> ?_) (fun hv hx=> ?_) (fun k2=> ?_)
 case refine_1 =>
  have F:=J7 @gu @us_2 @hv @t1 @t3 @tA @tX;refine uT ?_;clear F;refine hC _ ?_ ?_ ?_ ?_
  ·have F:=@t1;exact vT
  ·have F:=@t3;exact vT
  ·exact vT0
  ·exact vT0
 case refine_2 =>
  have F:=J12 @gu @us_2 @hv @g3 @od_2 @ztd @hX2 @hx @t1 @t3 @tA @tX;refine uT ?_;clear F;refine hC _ ?_ ?_ ?_ ?_
  ·have F:=@t1;exact vT
  ·have F:=@t3;exact vT
  ·exact vT0
  ·exact vT0
 case refine_3 =>
  have F:=J10 @hv @g3 @od_2 @ztd @hX2 @hx @t1 @t3 @tA @tX;refine uT ?_;clear F;exact no (n2 hx hv) _ hx04
 intro T t1 t3 tA tX;refine join4 (x:=x3) (u:=u3) (C:= ∀T,gT T 1= .ptr H.next 0->gT T 3= .ptr H2.next 0->gT T 94= .bool false->gT T 98= .bool (!u4)->gR (.bool (!u4)) true lookM ?d2 ?b2 ?k2 ?s2 T H' ?Q2) (fun hv hC=> ?_) (fun hv hx hC=> ?_) (fun hv hx=> ?_) (fun k3=> ?_)
 case refine_1 =>
  have F:=J7 @gu @us_3 @hv @t1 @t3 @tA @tX;refine uT ?_;clear F;refine hC _ ?_ ?_ ?_ ?_
  ·have F:=@t1;exact vT
  ·have F:=@t3;exact vT
  ·exact vT0
  ·exact vT0
 case refine_2 =>
  have F:=J11 @gu @us_3 @hv @g3 @od_3 @hX3 @hx @t1 @t3 @tA @tX;refine uT ?_;clear F;refine hC _ ?_ ?_ ?_ ?_
  ·have F:=@t1;exact vT
  ·have F:=@t3;exact vT
  ·exact vT0
  ·exact vT0
 case refine_3 =>
  have F:=J9 @hv @g3 @od_3 @hX3 @hx @t1 @t3 @tA @tX;refine uT ?_;clear F;exact no (n3 hx hv) _ hx04
 intro T t1 t3 tA tX;refine join4 (x:=x4) (u:=u4) (C:= ∀T,gT T 1= .ptr H.next 0->gT T 3= .ptr H2.next 0->gT T 104= .bool false->gT T 108= .bool (!u5)->gR (.bool (!u5)) true lookM ?d3 ?b3 ?k3 ?s3 T H' ?Q3) (fun hv hC=> ?_) (fun hv hx hC=> ?_) (fun hv hx=> ?_) (fun k4=> ?_)
 case refine_1 =>
  have F:=J7 @gu @us_4 @hv @t1 @t3 @tA @tX;refine uT ?_;clear F;refine hC _ ?_ ?_ ?_ ?_
  ·have F:=@t1;exact vT
  ·have F:=@t3;exact vT
  ·exact vT0
  ·exact vT0
 case refine_2 =>
  have F:=J11 @gu @us_4 @hv @g3 @od_4 @hX4 @hx @t1 @t3 @tA @tX;refine uT ?_;clear F;refine hC _ ?_ ?_ ?_ ?_
  ·have F:=@t1;exact vT
  ·have F:=@t3;exact vT
  ·exact vT0
  ·exact vT0
 case refine_3 =>
  have F:=J9 @hv @g3 @od_4 @hX4 @hx @t1 @t3 @tA @tX;refine uT ?_;clear F;exact no (n4 hx hv) _ hx04
 intro T t1 t3 tA tX;refine join4 (x:=x5) (u:=u5) (C:= ∀T,gT T 1= .ptr H.next 0->gT T 3= .ptr H2.next 0->gT T 115= .bool false->gT T 119= .bool (!u6)->gR (.bool (!u6)) true lookM ?d4 ?b4 ?k4 ?s4 T H' ?Q4) (fun hv hC=> ?_) (fun hv hx hC=> ?_) (fun hv hx=> ?_) (fun k5=> ?_)
 case refine_1 =>
  have F:=J7 @gu @us_5 @hv @t1 @t3 @tA @tX;refine uT ?_;clear F;refine hC _ ?_ ?_ ?_ ?_
  ·have F:=@t1;exact vT
  ·have F:=@t3;exact vT
  ·exact vT0
  ·exact vT0
 case refine_2 =>
  have F:=J12 @gu @us_5 @hv @g3 @od_5 @hl @hX5 @hx @t1 @t3 @tA @tX;refine uT ?_;clear F;refine hC _ ?_ ?_ ?_ ?_
  ·have F:=@t1;exact vT
  ·have F:=@t3;exact vT
  ·exact vT0
  ·exact vT0
 case refine_3 =>
  have F:=J10 @hv @g3 @od_5 @hl @hX5 @hx @t1 @t3 @tA @tX;refine uT ?_;clear F;exact no (n5 hx hv) _ hx04
 intro T t1 t3 tA tX;cases hv:u6 with
 |true =>
  have F:=J5 @hv @t1 @t3 @tA @tX;refine uT ?_;clear F;exact yes k1 k2 k3 k4 k5 (.inr hv) _ hx04
 |false =>
  cases hx:x6 with
  |false =>
   have F:=J10 @hv @g3 @od_6 @hb @hX6 @hx @t1 @t3 @tA @tX;refine uT ?_;clear F;exact yes k1 k2 k3 k4 k5 (.inl hx) _ hx04
  |true =>
   have F:=J10 @hv @g3 @od_6 @hb @hX6 @hx @t1 @t3 @tA @tX;refine uT ?_;clear F;exact no (n6 hx hv) _ hx04
structure OdW (H:AH) (o:Od) (lv bv:AV):Prop where
 l:SlT H lv o.l
 b:LenV bv o.b.length
theorem OdW.hx {H H':AH}{o:Od}{lv bv:AV}(h:OdW H o lv bv) (hx:HX H H'):OdW H' o lv bv:=⟨h.l.hx hx,h.b⟩
def big (s:ByteArray):Bool:=decide (100<(s.size:Int))
def longO (o:Od):Bool:=(o.l.take 31).any big || (big o.nm || (big o.to || (decide (30<(o.l.length:Int)) || decide (17000<(o.b.length:Int)))))
theorem zag1 {H:AH}[hn:HN H]{o:Od}{lv bv:AV}(h:OdW H o lv bv) :
  FnE lookM 23 [odA o lv bv] H fun r H'=>r= .bool (longO o)/\HX H H':=by
 refine fI Tryz.f23 ?_;have hlo:=hn.lo;have hl:=fun H'=>h.l.1.1 uTs H'
 have hb:=fun H'=>h.b.1 uBs H'
 have F:=@zke;refine uT ?_;refine rc_l (fun n T H'=> ∃q,n+q=min o.l.length 31/\H'=H.new (odx o lv bv)/\gT T 1= .ptr H.next 0/\gT T 3= .int .i64 q/\(o.l.take q).any big=false) (min o.l.length 31) ?_ ?_
 ·exact ⟨0,rfl,rfl,vT0,by refine uT0 ?_;rfl,by simp⟩
 rintro n T H' ⟨q,hnq,rfl,t1,t3,hall⟩;have hx1:HX H (H.new (odx o lv bv)):=HX.new _ _;have g1:(H.new (odx o lv bv)).get H.next=some (odx o lv bv):=zaa _;generalize H.new (odx o lv bv)=H1 at *
 unfold longO;cases n with
 |zero =>
  have hall2:(o.l.take 31).any big=false:=by
   rcases qi2 o.l.length 31 with h2|h2
   ·rw [qx oM]
    rw [qx oM] at hall
    exact hall
   ·have:q=31:=oM
    rw [← this];exact hall
  rw [hall2,Bool.false_or];unfold big;have stop:(decide ((q:Int)<(o.l.length:Int))=false)\/(decide ((q:Int)<(o.l.length:Int))=true/\decide ((q:Int)<31)=false):=by
   rcases qi2 q o.l.length with h2|h2
   ·exact .inr ⟨qk oM,qq oM⟩
   ·exact .inl (qq oM)
  have rest:∀T,gT T 1= .ptr H.next 0->RC lookM (C2.seq (.reg (fa_ 1 (tO 1) 22<|l_ (tO 22) 23<|le_ lookM 9 (tO 23) 24<|b_ lookM .gtr 3 (.tmp 24) (.const (.int .i64 (100))) 25<| .done)) .ret) [] T H1 (fun _ _ _=>True)->True:=fun _ _ _=>trivial
  rcases stop with s1|⟨s1,s2⟩
  all_goals
   cases a1:decide (100<(o.nm.size:Int)) with
   |true=>first|(have F:=J12 @t1 @t3 @g1 @od_1 @od_2 @od_5 @od_6 @hl @hb @ls9 @s1 @a1;refine uT ?_;exact ⟨rfl,hx1⟩)|(have F:=J13 @t1 @t3 @g1 @od_1 @od_2 @od_5 @od_6 @hl @hb @ls9 @s1 @s2 @a1;refine uT ?_;exact ⟨rfl,hx1⟩)|(have F:=J13 @t1 @t3 @g1 @od_1 @od_2 @od_5 @od_6 @hl @hb @ls9 @s1 @s2 @a1;refine uT ?_;exact hx1)
   |false =>
   cases a2:decide (100<(o.to.size:Int)) with
   |true=>first|(have F:=J13 @t1 @t3 @g1 @od_1 @od_2 @od_5 @od_6 @hl @hb @ls9 @s1 @a1 @a2;refine uT ?_;exact ⟨rfl,hx1⟩)|(have F:=J14 @t1 @t3 @g1 @od_1 @od_2 @od_5 @od_6 @hl @hb @ls9 @s1 @s2 @a1 @a2;refine uT ?_;exact ⟨rfl,hx1⟩)|(have F:=J14 @t1 @t3 @g1 @od_1 @od_2 @od_5 @od_6 @hl @hb @ls9 @s1 @s2 @a1 @a2;refine uT ?_;exact hx1)
   |false =>
   cases a3:decide (30<(o.l.length:Int)) with
   |true=>first|(have F:=J14 @t1 @t3 @g1 @od_1 @od_2 @od_5 @od_6 @hl @hb @ls9 @s1 @a1 @a2 @a3;refine uT ?_;exact ⟨rfl,hx1⟩)|(have F:=J15 @t1 @t3 @g1 @od_1 @od_2 @od_5 @od_6 @hl @hb @ls9 @s1 @s2 @a1 @a2 @a3;refine uT ?_;exact ⟨rfl,hx1⟩)|(have F:=J15 @t1 @t3 @g1 @od_1 @od_2 @od_5 @od_6 @hl @hb @ls9 @s1 @s2 @a1 @a2 @a3;refine uT ?_;exact hx1)
   |false=>first|(have F:=J14 @t1 @t3 @g1 @od_1 @od_2 @od_5 @od_6 @hl @hb @ls9 @s1 @a1 @a2 @a3;refine uT ?_;exact ⟨rfl,hx1⟩)|(have F:=J15 @t1 @t3 @g1 @od_1 @od_2 @od_5 @od_6 @hl @hb @ls9 @s1 @s2 @a1 @a2 @a3;refine uT ?_;exact ⟨rfl,hx1⟩)|(have F:=J15 @t1 @t3 @g1 @od_1 @od_2 @od_5 @od_6 @hl @hb @ls9 @s1 @s2 @a1 @a2 @a3;refine uT ?_;exact hx1)
 |succ n =>
  have hq:q<o.l.length:=oM
  have hk:o.l[q]? =some o.l[q]:=qo hq;have hix:=ix44 (z:=1) (q:=q) (h.l.is oM) hq
  have hld:=SlT.at (h.l.hx hx1) hk;have s1:decide ((q:Int)<(o.l.length:Int))=true:=qk oM
  have s2:decide ((q:Int)<31)=true:=qk oM
  have hk31:(o.l.take 31)[q]? =some o.l[q]:=by rw [List.getElem?_take,qi oM];exact hk
  generalize o.l[q]=s at *
  cases as1:decide (100<(s.size:Int)) with
  |true =>
   have hT:(o.l.take 31).any big=true:=zqp (f:=big) hk31 as1;rw [hT,Bool.true_or];have F:=J11 @g1 @od_5 @hl @t1 @t3 @hix @hld @ls9 @as1 @s1 @s2;refine uT ?_;exact hx1
  |false =>
   have F:=J11 @g1 @od_5 @hl @t1 @t3 @hix @hld @ls9 @as1 @s1 @s2;refine uT ?_;exact ⟨n,oM,q+1,oM,by push_cast;rfl,by rw [zyh hk,hall];exact as1⟩
abbrev Ot:=Od×AV×AV
abbrev otL (p:Ot):List AV:=odL p.1 p.2.1 p.2.2
theorem zcm (p:Ot):(otL p).length=7:=rfl
structure SlOd (H:AH) (v:AV) (l:List Ot):Prop where
 sl:SlZ H v l.length 7 (encC otL l)
 od:∀p,p∈l->OdW H p.1 p.2.1 p.2.2
theorem SlOd.hx {H H':AH}{v:AV}{l:List Ot}(h:SlOd H v l) (hx:HX H H'):SlOd H' v l:=⟨h.sl.hx hx,fun p hp=>(h.od p hp).hx hx⟩
theorem SlOd.is {H:AH}{v:AV}{l:List Ot}(h:SlOd H v l):IsSl H v l.length:=h.sl.is
theorem SlOd.at {H:AH}{v:AV}{l:List Ot}(h:SlOd H v l){k:Nat}{p:Ot}(hk:l[k]? =some p):OdW H p.1 p.2.1 p.2.2:=h.od p (qy.2 ⟨k,hk⟩)
theorem SlOd.agg {H:AH}{v:AV}{l:List Ot}(h:SlOd H v l){k:Nat}{p:Ot}(hk:l[k]? =some p):ldN 7 (elA 7 v k) H=some (odA p.1 p.2.1 p.2.2):=by
 obtain ⟨c,h1,h2⟩:=SlZ.rdN h.sl (qp.1 hk).1;rw [zof zcm hk] at h2;rw [h1,zuy (x:=.int .i64 p.1.op) (l:=(otL p).tail) (by rw [h2];rfl) (fun n hn=>by cases hn)]
 rfl
theorem SlOd.fld {H:AH}{v:AV}{l:List Ot}(h:SlOd H v l){k j:Nat}{p:Ot}{x:AV}(hk:l[k]? =some p) (hx:(otL p)[j]? =some x):ld1 (elB 7 v k j) H=some x :=
 SlZ.rd h.sl (qp.1 hk).1 (by have:=(qp.1 hx).1;rwa [zcm] at this) ((zri zcm hk (by have:=(qp.1 hx).1;rwa [zcm] at this)).trans hx)
def longP (p:Ot):Bool:=longO p.1 || decide (2000<(p.1.b.length:Int))
def longL (l:List Ot):Bool:=l.any longP || decide (30<(l.length:Int))
theorem zvo1 {H:AH}[hn:HN H]{v:AV}{l:List Ot}(h:SlOd H v l) (hm:l.length<=9223372036854775807) :
  FnE lookM 7 [v] H fun r H'=>r= .bool (longL l)/\HX H H':=by
 refine fI Tryz.f7 ?_;have hlo:=hn.lo;have hl:=fun H'=>ztc (H':=H') uOs h.is
 refine uT0 ?_;refine rc_l (fun n T H'=> ∃q,n+q=l.length/\HX H H'/\gT T 0=v/\gT T 3= .int .i64 q/\(l.take q).any longP=false) l.length ?_ ?_
 ·exact ⟨0,rfl,HX.refl _,vT0,by refine uT0 ?_;rfl,by simp⟩
 rintro n T H1 ⟨q,hnq,hx1,t0,t3,hall⟩;unfold longL;haveI:=hx1.hn;cases n with
 |zero =>
  rw [qx oM] at hall
  rw [hall,Bool.false_or];have s1:decide ((q:Int)<(l.length:Int))=false:=qq oM
  have F:=J4 @t0 @t3 @hl @s1;refine uT ?_;exact hx1
 |succ n =>
  have hq:q<l.length:=oM
  have hk:l[q]? =some l[q]:=qo hq;have h1:=h.hx hx1;have hix:=ix44 (z:=7) (q:=q) h1.is hq;have hld:=h1.agg hk;have hfa:=fa_el h1.is hq 7 6;have s1:decide ((q:Int)<(l.length:Int))=true:=qk oM
  have hw:=SlOd.at h1 hk;generalize l[q]=p at *
  have F:=J6 @t0 @t3 @hl @s1 @hix @hld;refine uT ?_;refine cR_f (zag1 hw) ?_;rintro r2 H2 ⟨rfl,hx2⟩;have hx02:=hx1.trans hx2;have hf6:=(h.hx hx02).fld hk (j:=6) (x:=p.2.2) rfl;have hb:=fun H'=>hw.b.1 uBs H'
  cases a1:longO p.1 with
  |true =>
   have F:=J3 @t0 @t3 @a1;refine uT ?_;rw [zqp (f:=longP) hk (by unfold longP;rw [a1];rfl)]
   exact ⟨rfl,hx02⟩
  |false =>
  cases a2:decide (2000<(p.1.b.length:Int)) with
  |true =>
   have F:=J8 @t0 @t3 @a1 @hix @hfa @hf6 @hb @a2;refine uT ?_;rw [zqp (f:=longP) hk (by unfold longP;rw [a1,a2];rfl)]
   exact ⟨rfl,hx02⟩
  |false =>
   have F:=J8 @t0 @t3 @a1 @hix @hfa @hf6 @hb @a2;refine uT ?_;exact ⟨n,oM,q+1,oM,hx02,by push_cast;rfl,by rw [zyh hk,hall];unfold longP;rw [a1,a2];rfl⟩
theorem longL_f {l:List Ot}(h:longL l=false):l.length<=30/\ ∀p,p∈l->p.1.nm.size<=100/\p.1.to.size<=100/\p.1.l.length<=30/\p.1.b.length<=2000:=by
 unfold longL at h;rw [qv4] at h;refine ⟨by have:=qh h.2;omega,fun p hp=> ?_⟩
 have h1:=qh7.1 h.1 p hp;unfold longP longO big at h1;simp only [qa5,not_or,qs] at h1;omega
def zeb1:Code:=bodyN lookM 58
def f58l0:C2:=(.reg (m_ (tO 64) 10<| .done))
def f58b0:Code:=lpN zeb1 0
theorem zwo1:comp lookM f58b0=f58l0:=kR
def f58l1:C2:=(.block 2 (.seq (.reg (l_ (tO 9) 65<|q_ (ixA 64 256) (tO 8) (tO 65) 66<|ls_ (fun xs _=>zua lookM 89 false false false xs) [(tO 66)] (opN zeb1 13 2) 67<|m_ (tO 10) 68<|hn_ false (zda .copy lookM [30,30]) [(tO 67),(tO 68)] 69<| .done))
 (.reg (l_ (tO 9) 70<|b_ lookM .add 3 (.tmp 70) (.const (.int .i64 (1))) 71<|s1_ false lookM 3 (tO 9) (tO 71)<| .done))))
def f58b1:Code:=lpN zeb1 1
theorem zxo1:comp lookM f58b1=f58l1:=kR
def f58c:C2:=(.seq (.reg (bx_ false 113 51 (tO 0) 2<|al_ false (AV.toC (.agg [(.int .i64 (0)),.nilSl,.nilSl])) 37 3 4<| .done))
 (.seq (.reg (m_ (tO 1) 12<|nl_ (tO 12) 13<|fa_ 7 (tO 13) 14<|l_ (tO 14) 15<|fa_ 7 (tO 2) 16<|fa_ 0 (tO 16) 17<|l_ (tO 17) 18<|n_ (fun xs H=>zob lookM 61 (hd xs) (hd (tl xs)) false H) [(tO 15),(tO 18)] 19<|al_ true (zC lookM 100) 100 16384 5<|sN_ false 16384 (tO 5) (tO 19)<| .done))
 (.seq (.reg (fa_ 0 (tO 2) 20<|fa_ 3 (tO 20) 21<|l_ (tO 21) 22<|fa_ 0 (tO 2) 23<|fa_ 4 (tO 23) 24<|l_ (tO 24) 25<|m_ (tO 22) 6<|m_ (tO 25) 7<| .done))
 (.seq (.seq (.reg (fa_ 0 (tO 2) 26<|fa_ 0 (tO 26) 27<|l_ (tO 27) 28<|b_ lookM .eql 3 (.tmp 28) (.const (.int .i64 (13))) 29<| .done))
 (.cond (tO 29) (.reg (m_ (tO 6) 30<|fa_ 0 (tO 2) 31<|fa_ 6 (tO 31) 32<|l_ (tO 32) 33<|le_ lookM 30 (tO 33) 34<|b_ lookM .quo 3 (.tmp 34) (.const (.int .i64 (256))) 35<|b_ lookM .add 3 (.tmp 30) (.tmp 35) 36<|m_ (tO 36) 7<| .done)) .skip))
 (.seq (.block 0 (.seq (.reg (fa_ 7 (tO 2) 38<|fa_ 2 (tO 38) 39<|l_ (tO 39) 40<|b_ lookM .eql 3 (.tmp 40) (.const (.int .i64 (2))) 41<|m_ (tO 41) 37<| .done))
 (.cond (tO 37) (.seq (.reg (bu_ lookM 37 [0] [(.con (.int .i64 (18)))] 42<|sN_ false 3 (tO 4) (tO 42)<| .done))
 .ret) (.seq (.reg (m_ (tO 6) 44<|m_ (tO 7) 45<|b_ lookM .gtr 3 (.tmp 44) (.tmp 45) 46<|m_ (tO 46) 47<|o_ 47 false 48 (m_ (tO 7) 48)<|o_ 47 false 49 (fa_ 7 (tO 2) 49)<|o_ 47 false 50 (fa_ 3 (tO 49) 50)<|o_ 47 false 51 (l_ (tO 50) 51)<|o_ 47 false 52 (b_ lookM .gtr 3 (.tmp 48) (.tmp 51) 52)<|pk_ (tO 47) (.con (.bool true)) (tO 52) 53<|m_ (tO 53) 43<| .done))
 (.cond (tO 43) (.seq (.reg (bu_ lookM 37 [0] [(.con (.int .i64 (5)))] 54<|sN_ false 3 (tO 4) (tO 54)<| .done))
 .ret) .skip)))))
 (.seq (.reg (lN_ 16384 (tO 5) 55<|m_ (tO 6) 56<|m_ (tO 7) 57<|cl_ false 74 [(tO 55),(tO 56),(tO 57)] 58<|al_ false (zC lookM 100) 100 16384 8<|sN_ false 16384 (tO 8) (tO 58)<| .done))
 (.seq (.reg (m_ (tO 6) 59<|al_ false (AV.toC (.int .i64 (0))) 3 1 9<|s1_ false lookM 3 (tO 9) (tO 59)<| .done))
 (.seq (.seq (.reg (fa_ 0 (tO 2) 60<|fa_ 6 (tO 60) 61<|l_ (tO 61) 62<|cl_ false 75 [(tO 62),(.con (.int .i64 (256)))] 63<| .done))
 (.block 1 (.rng (tO 63) [64] f58b0 f58b1)))
 (.seq (.seq (.reg (lN_ 16384 (tO 8) 72<|cl_ false 73 [(tO 72)] 73<|m_ (tO 73) 11<| .done))
 (.seq (.reg (fa_ 0 (tO 2) 74<|fa_ 0 (tO 74) 75<|l_ (tO 75) 76<|b_ lookM .eql 3 (.tmp 76) (.const (.int .i64 (13))) 77<|m_ (tO 77) 78<|o_ 78 true 79 (m_ (tO 11) 79)<|o_ 78 true 80 (lN_ 16384 (tO 5) 80)<|o_ 78 true 81 (cl_ false 73 [(tO 80)] 81)<|o_ 78 true 82 (b_ lookM .gtr 3 (.tmp 79) (.tmp 81) 82)<|pk_ (tO 78) (tO 82) (.con (.bool false)) 83<|m_ (tO 83) 84<|o_ 84 true 85 (fa_ 7 (tO 2) 85)<|o_ 84 true 86 (fa_ 42 (tO 85) 86)<|o_ 84 true 87 (l_ (tO 86) 87)<|o_ 84 true 88 (b_ lookM .gtr 3 (.tmp 87) (.const (.int .i64 (0))) 88)<|pk_ (tO 84) (tO 88) (.con (.bool false)) 89<|m_ (tO 89) 90<|o_ 90 true 91 (m_ (tO 11) 91)<|o_ 90 true 92 (fa_ 7 (tO 2) 92)<|o_ 90 true 93 (fa_ 42 (tO 92) 93)<|o_ 90 true 94 (l_ (tO 93) 94)<|o_ 90 true 95 (b_ lookM .gtr 3 (.tmp 91) (.tmp 94) 95)<|pk_ (tO 90) (tO 95) (.con (.bool false)) 96<| .done))
 (.cond (tO 96) (.seq (.reg (bu_ lookM 37 [0] [(.con (.int .i64 (16)))] 97<|sN_ false 3 (tO 4) (tO 97)<| .done))
 .ret) .skip)))
 (.seq (.reg (m_ (tO 1) 98<|nl_ (tO 98) 99<|fa_ 7 (tO 99) 100<|l_ (tO 100) 101<|fa_ 7 (tO 2) 102<|fa_ 0 (tO 102) 103<|l_ (tO 103) 104<|lN_ 16384 (tO 8) 105<|hz_ false (fun xs H=>unitF (zqa lookM 61 (hd xs) (hd (tl xs)) (hd (tl (tl xs))) H)) [(tO 101),(tO 104),(tO 105)]<| .done))
 (.seq (.reg (bu_ lookM 37 [] [] 106<|sN_ false 3 (tO 4) (tO 106)<| .done))
 .ret)))))))))))
theorem f58_eq:fnF lookM 58=some ⟨107,f58c, [.cell 4 37]⟩:=kR
def f75body:Code:=bodyN lookM 75
def f75c:C2:=(.seq (.reg (bx_ false 30 1 (tO 0) 2<|bx_ false 3 1 (tO 1) 3<|m_ (.con .nilFn) 4<| .done))
 (.seq (.seq (.reg (l_ (tO 3) 5<|b_ lookM .lss 3 (.tmp 5) (.const (.int .i64 (1))) 6<| .done))
 (.cond (tO 6) (.reg (p_ (zva lookM 9) (.con (.str ⟨#[99,97,110,110,111,116,32,98,101,32,108,101,115,115,32,116,104,97,110,32,49]⟩)) 7<|K2.gh false (opN f75body 2 1) none<| .done)) .skip))
 (.seq (.reg (n_ (fun zs _=>some (.fn (.func 89) (zfn 0 zs) (restN 0 zs))) [(tO 2),(tO 3)] 8<|m_ (tO 8) 4<| .done))
 .ret)))
theorem f75_eq:fnF lookM 75=some ⟨9,f75c, [.tmp 4]⟩:=kR
end HS
namespace Go.Ev
open HS.Md
def Nb:List Nat->Nat
 | []=>0
 |x::l=>x+256*Nb l
def Byt (l:List Nat):Prop:= ∀x,x∈l->x<256
theorem Byt.app {a b:List Nat}(ha:Byt a) (hb:Byt b):Byt (a ++ b):=fun x hx=>(qp2.1 hx).elim (ha x) (hb x)
theorem Byt.take {l:List Nat}(h:Byt l) (n:Nat):Byt (l.take n):=fun x hx=>h x (qd5 hx)
theorem Byt.drop {l:List Nat}(h:Byt l) (n:Nat):Byt (l.drop n):=fun x hx=>h x (qt3 hx)
theorem Byt.zero (n:Nat):Byt (List.replicate n 0):=fun x hx=>by rw [List.eq_of_mem_replicate hx];decide
theorem Nb_lt:∀{l:List Nat},Byt l->Nb l<256 ^ l.length
 | [],_=>dC
 |x::l,h=>by
  have h1:=h x qq1;have h2:=Nb_lt (l:=l) fun y hy=>h y (qj1 _ hy)
  show x+256*Nb l<256 ^ (l.length+1)
  rw [Nat.pow_succ];omega
theorem zpw:∀(a b:List Nat),Nb (a ++ b)=Nb a+256 ^ a.length*Nb b
 | [],b=>by show Nb b=0+1*Nb b;omega
 |x::a,b=>by
  show x+256*Nb (a ++ b)=x+256*Nb a+256 ^ (a.length+1)*Nb b
  rw [zpw a b,Nat.pow_succ,qr7,← Nat.mul_assoc,qx3 256 (256 ^ a.length),qb6]
theorem zyk:∀n,Nb (List.replicate n 0)=0
 |0=>rfl
 |n+1=>by show 0+256*Nb (List.replicate n 0)=0;rw [zyk n]
theorem pw_eq (n:Nat):Ce.pw n=256 ^ n:=by
 show 2 ^ (8*n)=256 ^ n
 rw [qq7]
theorem Nb_div {a b:List Nat}(ha:Byt a):Nb (a ++ b) / 256 ^ a.length=Nb b:=by
 rw [zpw,qh6 _ _ (Nat.pow_pos dC),qy5 (Nb_lt ha),qy1]
theorem Nb_mod {a b:List Nat}(ha:Byt a):Nb (a ++ b)%256 ^ a.length=Nb a:=by
 rw [zpw,qw5,qb5 (Nb_lt ha)]
theorem zfb1 {l:List Nat}(h:Byt l){o:Nat}(ho:o<=l.length):Nb l / 256 ^ o=Nb (l.drop o):=by
 have:=Nb_div (a:=l.take o) (b:=l.drop o) (h.take o)
 rwa [qo4,qa1,qv3 ho] at this
theorem zgb1 {l:List Nat}(h:Byt l){o:Nat}(ho:o<=l.length):Nb l%256 ^ o=Nb (l.take o):=by
 have:=Nb_mod (a:=l.take o) (b:=l.drop o) (h.take o)
 rwa [qo4,qa1,qv3 ho] at this
theorem Nb_inj:∀{a b:List Nat},Byt a->Byt b->a.length=b.length->Nb a=Nb b->a=b
 | [], [],_,_,_,_=>rfl
 | [],y::b,_,_,h,_=>by cases h
 |x::a, [],_,_,h,_=>by cases h
 |x::a,y::b,ha,hb,hl,he=>by
  have h1:=ha x qq1;have h2:=hb y qq1;have he:x+256*Nb a=y+256*Nb b:=he;have hxy:x=y:=oM
  have hr:Nb a=Nb b:=oM
  have hl:a.length=b.length:=by simpa using hl
  rw [hxy,Nb_inj (fun z hz=>ha z (qj1 _ hz)) (fun z hz=>hb z (qj1 _ hz)) hl hr]
theorem zbo:∀{l:List Nat},Byt l->bytesL l.length (Nb l)=l.map fun x:Nat=>AV.int .u8 (.ofNat x)
 | [],_=>rfl
 |x::l,h=>by
  have h1:=h x qq1;show bytesL (l.length+1) (x+256*Nb l)=AV.int .u8 (.ofNat x)::l.map _
  show AV.int .u8 (.ofNat ((x+256*Nb l)%256))::bytesL l.length ((x+256*Nb l) / 256)=_
  rw [qw5,qb5 h1,qh6 _ _ dC,qy5 h1,qy1,zbo fun y hy=>h y (qj1 _ hy)]
abbrev byC (l:List Nat):Ce:=.byt l.length (Nb l)
theorem byC_l {l:List Nat}(h:Byt l):(byC l).l=l.map fun x:Nat=>AV.int .u8 (.ofNat x):=zbo h
theorem sub_b {l:List Nat}(h:Byt l){o n:Nat}(ho:o+n<=l.length):Ce.sub (byC l) o n=some (.byt n (Nb ((l.drop o).take n))):=by
 show brec none (some (Ce.byt n (Nat.mod (Nat.shiftRight (Nb l) (Nat.mul 8 o)) (Ce.pw n)))) (Nat.ble n (Nat.sub l.length o))=_
 rw [show Nat.ble n (Nat.sub l.length o)=true from qe (by show n<=l.length - o;omega)]
 show some (Ce.byt n (Nat.mod (Nb l >>> (8*o)) (Ce.pw n)))=_
 rw [qq6,pw_eq,show (2:Nat) ^ (8*o)=256 ^ o from by rw [qq7],zfb1 h oM]
 show some (Ce.byt n (Nb (l.drop o)%256 ^ n))=_
 rw [zgb1 (h.drop o) (by rw [qb2];omega)]
theorem over_b {l x:List Nat}(h:Byt l) (hx:Byt x){o:Nat}(ho:o+x.length<=l.length):Ce.over (byC x) (byC l) o=some (.byt l.length (Nb (l.take o ++ x ++ l.drop (o+x.length)))):=by
 show brec none (some (Ce.byt l.length (Nat.add (Nat.add (Nat.mod (Nb l) (Ce.pw o)) (Nat.mul (Nat.mod (Nb x) (Ce.pw x.length)) (Ce.pw o))) (Nat.mul (Nat.div (Nb l) (Ce.pw (Nat.add o x.length))) (Ce.pw (Nat.add o x.length)))))) (Nat.ble (Nat.add o x.length) l.length)=_
 rw [show Nat.ble (Nat.add o x.length) l.length=true from qe ho]
 show some (Ce.byt l.length (Nb l%Ce.pw o+Nb x%Ce.pw x.length*Ce.pw o+Nb l / Ce.pw (o+x.length)*Ce.pw (o+x.length)))=_
 rw [pw_eq,pw_eq,pw_eq,zgb1 h oM,qb5 (Nb_lt hx),zfb1 h oM,zpw,zpw,qr,qa1,qv3 (by omega:o<=l.length)]
 rw [qx3 (Nb x),qx3 (Nb (l.drop _))]
theorem sbB_b {l:List Nat}(h:Byt l){e z o n:Nat}{op ro:Bool}(ho:o+n<=l.length):sbB (some (.cells (byC l) e z op ro)) o n=some (.bag n (Nb ((l.drop o).take n))):=by
 show (match Ce.sub (byC l) o n with|some c'=>some c'.toV|none=>none)=_
 rw [sub_b h ho];rfl
theorem wrN_b {l x:List Nat}(h:Byt l) (hx:Byt x){e z i o n:Nat}{op:Bool}{H:AH}(hn:x.length=n) (ho:o+n<=l.length) :
  wrN (some (.cells (byC l) e z op false)) i o n (byC x) H=some (H.put i (.cells (.byt l.length (Nb (l.take o ++ x ++ l.drop (o+n)))) e z op false)):=by
 subst hn;show (match (byC x).one with
  |true=>(match Nat.beq (byC x).len x.length,Ce.over (byC x) (byC l) o with|true,some c'=>some (H.put i (.cells c' e z op false))|_,_=>none)
  |false=>none)=_
 rw [over_b h hx ho];show (match Nat.beq x.length x.length,some _ with|true,some c'=>some (H.put i (.cells c' e z op false))|_,_=>none)=_
 rw [show Nat.beq x.length x.length=true from qt2 _]
theorem zyo1 {l x:List Nat}{o:Nat}(ho:o+x.length<=l.length):(l.take o ++ x ++ l.drop (o+x.length)).length=l.length:=by
 rw [qr,qr,qa1,qb2];omega
end Go.Ev
namespace HS
set_option maxRecDepth 100000
open HS.Md
structure BkOk (b:Bk):Prop where
 len:b.length=16384
 byt:Byt b
abbrev bkA (b:Bk):AV:=.bag 16384 (Nb b)
abbrev bkC (b:Bk):Ce:=.byt 16384 (Nb b)
theorem zdd (n N:Nat):AV.toC (.bag n N)= .byt n N:=rfl
theorem zeroB_ok:BkOk zeroB:=⟨qk3,Byt.zero _⟩
theorem zdm:Nb zeroB=0:=zyk _
theorem zhb1 {b:Bk}(h:b.length=16384){k:Nat}(hk:k<64):(atB b k).length=256:=by
 unfold atB;rw [qa1,qb2];omega
theorem zsj1 {b:Bk}(h:Byt b) (k:Nat):Byt (atB b k):=(h.drop _).take _
theorem zjl {b:Bk}(h:BkOk b) (e z:Nat) (op ro:Bool):sbB (some (.cells (bkC b) e z op ro)) 0 16384=some (bkA b):=by
 have:=sbB_b h.byt (e:=e) (z:=z) (o:=0) (n:=16384) (op:=op) (ro:=ro) (by rw [h.len];decide)
 rw [qd3,qx (by rw [h.len];decide)] at this
 unfold byC at this
 rwa [h.len] at this
theorem eq89 (N M:Nat) (xo yo:Operand):binF .neq (evBin lookM .neq 89 xo yo) (.bag 256 N) (.bag 256 M)=some (.bool (!Nat.beq (Nat.mod N (Ce.pw 256)) (Nat.mod M (Ce.pw 256)))):=kR
theorem z89:zC lookM 89= .byt 256 0:=kR
theorem z100:zC lookM 100= .byt 16384 0:=kR
theorem bu89:zsa lookM 89 (zipF [] [])=some (.bag 256 0):=kR
theorem bu100:zsa lookM 100 (zipF [] [])=some (.bag 16384 0):=kR
theorem u100:lookM.under 100=some (.array 64 89):=kR
theorem s89:lookM.size 89=some 256:=kR
theorem u89:lookM.under 89=some (.array 256 5):=kR
theorem a89:lookM.isAgg 89=some true:=kR
theorem ix100 {b:Bk}(h:BkOk b){k:Nat}(hk:k<64):zxd lookM 100 (bkA b) (.int .i64 (k:Int))=some (.bag 256 (Nb (atB b k))):=by
 unfold zxd;have hsub:=sub_b h.byt (o:=k*256) (n:=256) (by rw [h.len];omega)
 unfold byC at hsub;rw [h.len] at hsub;simp only [show natOf (.int .i64 (k:Int))=some k from rfl,u100,s89,show AV.aggC (bkA b)=some (bkC b) from rfl,show Nat.blt k 64=true from qe hk]
 unfold ztf;simp only [u89,s89,hsub];simp only [a89];show some (AV.bag 256 (Nb (List.take 256 (List.drop (k*256) b))))=_
 unfold atB;rw [qx3 256 k]
theorem nz {l:List Nat}(h:Byt l) (hl:l.length=256):(!Nat.beq (Nat.mod (Nb l) (Ce.pw 256)) (Nat.mod 0 (Ce.pw 256)))= !decide (l=noB):=by
 have h1:Nat.mod (Nb l) (Ce.pw 256)=Nb l:=by
  show Nb l%Ce.pw 256=_
  rw [pw_eq];exact qb5 (by have:=Nb_lt h;rwa [hl] at this)
 have h2:∀k,Nat.mod 0 k=0:=fun k=>Nat.zero_mod k;rw [h1,h2];congr 1;by_cases e:l=noB
 ·rw [qk e,e]
  show Nat.beq (Nb (List.replicate 256 0)) 0=true
  rw [zyk];rfl
 ·rw [qq e]
  refine qf3.2 fun hb=>e ?_
  have hb:Nb l=0:=qf hb;exact Nb_inj h (Byt.zero 256) (by rw [hl];exact List.length_replicate.symm) (by rw [hb];exact (zyk 256).symm)
theorem w256 {x:List Nat}(hx:Byt x) (hl:x.length=256) (i e:Nat) (op:Bool) (H:AH):wrN (some (.cells (.byt 256 0) e 256 op false)) i 0 256 (.byt 256 (Nb x)) H=some (H.put i (.cells (.byt 256 (Nb x)) e 256 op false)):=by
 have h:=wrN_b (l:=List.replicate 256 0) (x:=x) (e:=e) (z:=256) (i:=i) (o:=0) (n:=256) (op:=op) (H:=H) (Byt.zero 256) hx hl (by rw [qk3];decide)
 unfold byC at h;rw [zyk,hl,qk3,qo5,qm1,ql4 (by rw [qk3];decide),qw1] at h
 exact h
theorem all256 {x:List Nat}(hx:Byt x) (hl:x.length=256) (e z:Nat) (op ro:Bool):sbB (some (.cells (.byt 256 (Nb x)) e z op ro)) 0 256=some (.bag 256 (Nb x)):=by
 have:=sbB_b hx (e:=e) (z:=z) (o:=0) (n:=256) (op:=op) (ro:=ro) (by rw [hl];decide)
 rw [qd3,qx (by rw [hl];decide)] at this
 unfold byC at this
 rwa [hl] at this
theorem zjd (b:Bk):∀(n k:Nat),zfg b k n<=n
 |0,_=>qo2 _
 |n+1,k=>by
  have:=zjd b n (k+1);show (if atB b k=noB then 0 else 1)+zfg b (k+1) n<=n+1
  split<;>omega
theorem znu {H:AH}[hn:HN H]{b:Bk}(h:BkOk b):FnE lookM 73 [bkA b] H fun r H'=>r= .int .i64 (usedB b:Nat)/\HX H H':=by
 refine fI Tryz.f73 ?_;have hlo:=hn.lo;have ha:=fun e z op ro=>zjl h e z op ro
 have F:=J2 @zdd @ha;refine uT ?_;have hx1:HX H (H.new (.cells (bkC b) 100 16384 false false)):=HX.new _ _;refine rc_l (fun n T H'=> ∃q c,n+q=64/\HX H H'/\c+zfg b q n=usedB b/\gT T 3= .int .i64 (c:Nat)/\gT T 6=bkA b/\gT T 7= .int .i64 q) 64 ?_ ?_
 ·exact ⟨0,0,rfl,hx1,by unfold usedB;omega,by refine uT0 ?_;rfl,vT0,by refine uT0 ?_;rfl⟩
 rintro n T H1 ⟨q,c,hnq,hx1,hc,t3,t6,t7⟩;haveI:=hx1.hn;have hlo1:H1.lo<=H1.next:=HN.lo;have hn1:=hx1.next;cases n with
 |zero =>
  have hc:c=usedB b:=hc;have d1:decide ((q:Int)<64)=false:=qq oM
  have F:=J4 @t3 @t6 @t7 @d1;refine uT ?_;exact ⟨by rw [hc],hx1⟩
 |succ n =>
  have d1:decide ((q:Int)<64)=true:=qk oM
  have hix:=ix100 h (k:=q) oM
  have hl:=zhb1 h.len (k:=q) oM
  have hb:=zsj1 h.byt q;have hw:=w256 hb hl;have hal:=all256 hb hl;have hnz:=nz hb hl;have hc2:c+((if atB b q=noB then 0 else 1)+zfg b (q+1) n)=usedB b:=hc
  have hle:=zjd b n (q+1);have hle2:usedB b<=64:=zjd b 64 0;by_cases e:atB b q=noB
  ·rw [qi e] at hc2
   rw [qk e] at hnz;have F:=J12 @t3 @t6 @t7 @d1 @hix @zdd @z89 @hw @hal @bu89 @eq89 @hnz;refine uT ?_;exact ⟨n,oM,q+1,c,oM,by have K:=hx1;exact hxk,oM,rfl,by push_cast;rfl⟩
  ·rw [qd e] at hc2
   rw [qq e] at hnz;have F:=J12 @t3 @t6 @t7 @d1 @hix @zdd @z89 @hw @hal @bu89 @eq89 @hnz;refine uT ?_;exact ⟨n,oM,q+1,c+1,oM,by have K:=hx1;exact hxk,oM,by push_cast;rfl,by push_cast;rfl⟩
theorem zou {b:Bk}(h:BkOk b){x:List Nat}(hx:Byt x){o:Nat}(ho:o+x.length<=16384):BkOk (putB b o x):=by
 refine ⟨?_,((h.byt.take _).app hx).app (h.byt.drop _)⟩;unfold putB;rw [zyo1 (by rw [h.len];exact ho)]
 exact h.len
theorem zib1 {b:Bk}(h:BkOk b){f j:Nat}(hj:f+j<=64):BkOk (cutK b f j):=zou h (Byt.zero _) (by rw [qk3];omega)
theorem zzo1 (b:Bk) (f:Nat):cutK b f 0=b:=by
 unfold cutK putB;simp
theorem cutK_s {b:Bk}(h:b.length=16384){f j:Nat}(hj:f+j<64):putB (cutK b f j) (256*(f+j)) (List.replicate 256 0)=cutK b f (j+1):=by
 unfold cutK putB;have e1:(List.take (256*f) b ++ List.replicate (256*j) 0).length=256*(f+j):=by
  rw [qr,qa1,qk3];omega
 simp only [qk3];rw [qp7 e1,← qq3,qd6 e1,qq3,qi1 (List.take _ _) (List.replicate _ _) (List.replicate _ _),List.replicate_append_replicate];rw [show 256*j+256=256*(j+1) from oM,show 256*f+256*j+256=256*f+256*(j+1) from oM]
theorem zui {b:Bk}(h:BkOk b){f t:Nat}(ht:t<=64):BkOk (cutK b f (t - f)):=by
 by_cases e:f<=t
 ·exact zib1 h oM
 ·rw [show t - f=0 from oM,zzo1];exact h
theorem ld100 (i o:Nat) (H:AH):zub lookM 100 (.ptr i o) H=ldN 16384 (.ptr i o) H:=zeg kR kR
theorem wbk {b:Bk}(h:BkOk b){x:List Nat}(hx:Byt x) (hl:x.length=256){k:Nat}(hk:k<64) (i e z:Nat) (op:Bool) (H:AH) :
  wrN (some (.cells (bkC b) e z op false)) i (k*256) 256 (.byt 256 (Nb x)) H=some (H.put i (.cells (bkC (putB b (256*k) x)) e z op false)):=by
 have h1:=wrN_b (l:=b) (x:=x) (e:=e) (z:=z) (i:=i) (o:=k*256) (n:=256) (op:=op) (H:=H) h.byt hx hl (by rw [h.len];omega)
 unfold byC at h1;rw [hl,h.len,qx3 k 256] at h1;unfold putB;rw [hl,qx3 k 256];exact h1
theorem wbk0 (i e:Nat) (op:Bool) (H:AH){b:Bk}(h:BkOk b):wrN (some (.cells (.byt 16384 0) e 16384 op false)) i 0 16384 (bkC b) H=some (H.put i (.cells (bkC b) e 16384 op false)):=by
 have h1:=wrN_b (l:=zeroB) (x:=b) (e:=e) (z:=16384) (i:=i) (o:=0) (n:=16384) (op:=op) (H:=H) zeroB_ok.byt h.byt h.len (by rw [zeroB_ok.len];decide)
 unfold byC at h1;rw [h.len,zeroB_ok.len,zdm,qo5,qm1,ql4 (by rw [zeroB_ok.len];decide),qw1] at h1
 exact h1
theorem ztj1 {H:AH}[hn:HN H]{b:Bk}(h:BkOk b){f t:Nat}(ht:t<=64) (hf:f<=1000000):FnE lookM 74 [bkA b,.int .i64 f,.int .i64 t] H fun r H'=>r=bkA (cutK b f (t - f))/\HX H H':=by
 refine fI Tryz.f74 ?_;have hlo:=hn.lo;have F:=J2 @zdd @z100;refine uT ?_;refine rc_l (fun n T H'=> ∃j,n+j=t - f/\HX H H'/\H.next+2<=H'.next/\H'.get H.next=some (.cells (bkC (cutK b f j)) 100 16384 false false)/\H'.get (H.next+1)=some (.cells (.byt 16384 0) 100 16384 false false) /\
  gT T 2= .int .i64 t/\gT T 3= .ptr H.next 0/\gT T 6= .ptr (H.next+1) 0/\gT T 7= .int .i64 (f+j:Nat)) (t - f) ?_ ?_
 ·exact ⟨0,oM,hxt,qn _,by rw [zzo1];simp (maxSteps:=1000000) (disch:=first|assumption|omega|rfl|(simp only [nx];omega)|(simp only [lens]<;>omega)) only [rq,rq2,zoi,lsE_s,qa2,qr1,Nat.reduceEqDiff,Nat.reduceAdd,reduceIte,reduceCtorEq,ne_eq,qf1,qc1,qs2,qm2],zaa _,vT0,vT0,vT0,wT0⟩
 rintro n T H1 ⟨j,hnj,hx1,hn1,g0,g1,t2,t3,t6,t7⟩;haveI:=hx1.hn;have hlo1:H1.lo=H.lo:=hx1.lo;have e01:=hEq_f (oM:H.next≠H.next+1)
 cases n with
 |zero =>
  have d1:decide (((f+j:Nat):Int)<t)=false:=qq oM
  have hj:j=t - f:=oM
  rw [hj] at g0;have hok:=zui h (f:=f) ht;have ha:=fun e z op ro=>zjl hok e z op ro
  have hw:=fun i e op H=>wbk0 i e op H hok
  have F:=J11 @t2 @t3 @t6 @t7 @d1 @g0 @g1 @ha @zdd @hw @ld100;refine uT ?_;have K:=hx1;exact hxk
 |succ n =>
  have d1:decide (((f+j:Nat):Int)<t)=true:=qk oM
  have hok:=zib1 h (f:=f) (j:=j) oM
  have hw:=wbk hok (Byt.zero 256) qk3 (k:=f+j) oM
  rw [zyk,cutK_s h.len oM] at hw
  have hix:=ixA_n (n:=64) (z:=256) (i:=H.next) (o:=0) (k:=f+j) oM
  have F:=J10 @t2 @t3 @t6 @t7 @d1 @bu89 @zdd @hix @g0 @hw;refine uT ?_;exact ⟨n,oM,j+1,oM,HX.put hx1 (qn _) _,hn1,rfl,g1,by push_cast;rw [Int.add_assoc]⟩
def mdL (nn:Int) (v lv:AV) (mb:Nat):List AV:= [.int .i64 nn,v,.int .i64 0,.int .i64 0,.int .i64 0,.int .i64 0,lv,.map mb]
abbrev mdx (nn:Int) (v lv:AV) (mb:Nat):ABlk:=.cells (.lst (mdL nn v lv mb)) 63 8 false false
theorem md_0 (nn:Int) (v lv:AV) (mb:Nat):nth (mdL nn v lv mb) 0=some (.int .i64 nn):=rfl
theorem md_1 (nn:Int) (v lv:AV) (mb:Nat):nth (mdL nn v lv mb) 1=some v:=rfl
theorem md_7 (nn:Int) (v lv:AV) (mb:Nat):nth (mdL nn v lv mb) 7=some (.map mb):=rfl
theorem md_t (nn:Int) (v lv:AV) (mb:Nat) (e z:Nat) (op ro:Bool):sbB (some (.cells (.lst (mdL nn v lv mb)) e z op ro)) 0 7=some (tbA nn v lv):=by
 rw [sbB_l];rfl
theorem nil23 (i o:Nat) (xo yo:Operand):binF .eql (evBin lookM .eql 23 xo yo) (.ptr i o) .nilPtr=some (.bool false):=kR
theorem nil61 (i:Nat) (xo yo:Operand):binF .eql (evBin lookM .eql 61 xo yo) (.map i) .nilMap=some (.bool false):=kR
def MpR (H:AH) (mb:Nat) (f:Int->Bk):Prop:=mb<H.next/\ ∃es c kv,H.get mb=some (.map es c)/\IsM es kv/\NdK kv/\ ∀k,(lkK k kv).getD (.bag 16384 0)=bkA (f k)/\BkOk (f k)
structure MdR (H:AH) (b mb:Nat) (s:Ms) (v lv:AV):Prop where
 lt:b<H.next
 box:H.get b=some (mdx s.t.nx v lv mb)
 rd:RdR H v s.t.rs
 lv:LvD H lv
 mp:MpR H mb s.b
theorem MdR.sl {H:AH}{b mb:Nat}{s:Ms}{v lv:AV}(h:MdR H b mb s v lv):SlRc H v (nl s.t.rs):=h.rd.sl
theorem MdR.ne {H:AH}{b mb:Nat}{s:Ms}{v lv:AV}(h:MdR H b mb s v lv):b≠mb:=fun e=>by
 obtain ⟨_,es,c,kv,hg,_⟩:=h.mp;subst e;have hg':=h.box;rw [hg] at hg';cases hg'
theorem MdR.hx {H H':AH}{b mb:Nat}{s:Ms}{v lv:AV}(h:MdR H b mb s v lv) (hx:HX H H'):MdR H' b mb s v lv:=by
 obtain ⟨h1,es,c,kv,hg,h2⟩:=h.mp;exact ⟨qz h.lt hx.next,(hx.get h.lt).trans h.box,h.rd.hq (hx.hp fun _=>True) fun _ _ _ _ _ _=>trivial,h.lv.hx hx,qz h1 hx.next,es,c,kv,(hx.get h1).trans hg,h2⟩
theorem zjb1 {H:AH}[hn:HN H]{b mb:Nat}{s:Ms}{v lv:AV}(h:MdR H b mb s v lv):FnE lookM 27 [.ptr b 0] H fun r H'=>r= .bool false/\HX H H':=by
 refine fI Tryz.f27 ?_;have hb:=h.box;have F:=J4 @nil23 @nil61 @hb @md_7;refine uT ?_;exact HX.refl _
theorem rcz_bu:zsa lookM 84 (zipF [] [])=some (.agg (rcL (.nilSl,Rc0))):=kR
theorem zco {H:AH}[hn:HN H]{b mb:Nat}{s:Ms}{v lv:AV}{nm:ByteArray}(h:MdR H b mb s v lv) (hlen:s.t.rs.length<=900) :
  FnE lookM 46 [.ptr b 0,.str nm] H fun r H'=>r= .tup [.agg (rcL (.nilSl,recO s.t nm)),.bool (hasB nm s.t.rs)]/\HX H H':=by
 refine fI Tryz.f46 ?_;have hlo:=hn.lo;have hb:=h.box;have hlt:=h.lt;have e1:=hEq_f (oM:b≠H.next)
 have F:=J3 @hb @md_t @e1;refine uT ?_;refine cR_at (fun H1=>HX H H1/\H1.next=H.next+1/\ ∃l,l.length=44/\H1.get H.next=some (.cells (.lst l) 84 44 false false)) ?_ ?_
 ·exact ⟨hxt,rfl,_,rfl,zaa _⟩
 rintro H1 ⟨hx1,hn1,zl,hzl,g1⟩;haveI:=hx1.hn;refine cR_f (zxh (h.hx hx1).sl hlen) ?_;rintro r2 H2 ⟨rfl,hx2⟩;have hx02:=hx1.trans hx2;have hn2:=hx2.next;have g1:=(hx2.get (i:=H.next) oM).trans g1
 have hb2:=(h.hx hx02).box;haveI:=hx02.hn;have hlo2:H2.lo=H.lo:=hx02.lo;unfold recO;cases a2:hasB nm s.t.rs with
 |false =>
  have hw:=fun i op H=>wrN_l (l:=zl) (lv:=rcL (.nilSl,Rc0)) (e:=84) (z:=44) (i:=i) (n:=44) (op:=op) (H:=H) hzl rfl rfl
  have F:=J6 @rcz_bu @zpa @g1 @hw @zud @ld44;refine uX ?_;exact HX.put hx02 oM _
 |true =>
  obtain ⟨q1,q2⟩:=zza a2;have h2:=h.hx hx02;have hix:=ix44 (z:=44) (q:=fndI nm s.t.rs) h2.sl.is (by rw [zoc];exact q1)
  have hld:=h2.sl.agg (nl_at q1);have hw:=fun i op H=>wrN_l (l:=zl) (lv:=rcL (AV.nilSl,get s.t.rs (fndI nm s.t.rs))) (e:=84) (z:=44) (i:=i) (n:=44) (op:=op) (H:=H) hzl rfl (zbc _ rfl)
  have F:=J9 @hb2 @md_1 @hix @hld @zpa @g1 @hw @zud @ld44;refine uT ?_;exact HX.put hx02 oM _
structure Bd (t:Tb):Prop where
 len:t.rs.length<=900
 nm:∀r,r∈t.rs->r.nm.size<=100000
 nx:0<=t.nx/\t.nx<=4294967296
theorem MdR.tb {H:AH}{b mb:Nat}{s:Ms}{v lv:AV}(h:MdR H b mb s v lv) (hb:Bd s.t):TbIn H s.t v lv:=⟨h.sl,h.lv.lv,hb.len,hb.nm,hb.nx⟩
set_option maxHeartbeats 16000000 in
theorem zkb1 {H:AH}[hn:HN H]{b mb:Nat}{s:Ms}{v lv:AV}{o:Od}{ov bv:AV}(h:MdR H b mb s v lv) (hd:Bd s.t) (hs:o.nm.size<=100000) (hto:o.to.size<=100000) :
  FnE lookM 133 [.ptr b 0,odA o ov bv] H fun r H'=>TbR H' r (chgT s.t o)/\HX H H':=by
 refine fI Tryz.f133 ?_;have hlo:=hn.lo;have hb:=h.box;have hlt:=h.lt;have e0:=hEq_f (oM:b≠H.next)
 have e1:=hEq_f (oM:b≠H.next+1)
 have e01:=hEq_f (oM:H.next≠H.next+1)
 have o1:=o0;have F:=J4 @zke @zcb @od_0 @e01;refine uT ?_;cases a1:decide (o.op=1) with
 |true =>
  have e:=qg a1;have ec:chgT s.t o=makeT s.t o.nm o.n:=by unfold chgT;simp only [e];rfl
  rw [ec];have F:=J10 @od_0 @od_1 @od_2 @od_3 @od_4 @hb @md_t @e0 @e1 @e01;refine uT ?_;refine cR_at (fun H1=>HX H H1/\H1.next=H.next+2/\H1.get (H.next+1)=some (tbx 0 .nilSl .nilSl)) ?_ ?_
  ·exact ⟨hxt,rfl,zaa _⟩
  rintro H1 ⟨hx1,hn1,g1⟩;haveI:=hx1.hn;refine cR_f (make_ok ((h.hx hx1).tb hd) hs) ?_;rintro r2 H2 ⟨ht2,hx2⟩;have hx02:=hx1.trans hx2;have g1:=(hx2.get (i:=H.next+1) oM).trans g1
  haveI:=hx02.hn;have hlo2:H2.lo=H.lo:=hx02.lo;rcases ht2 with ⟨e,he,h1,rfl⟩|⟨t2,v2,l2,h1,rfl,h3,h4⟩
  ·have F:=J5 @g1 @zea @zba @zha @ld7;refine uT ?_
   exact ⟨.inl ⟨e,he,h1,rfl⟩,HX.put hx02 oM _⟩
  ·have o2:=zbb (nn:=t2.nx) (v:=v2) (lv:=l2) (RdR.one h3) (OwnS.one h4).1
   have F:=J5 @g1 @zea @zba @zha @ld7;refine uT ?_;obtain ⟨p1,p2⟩:=TbR.put h3 h4 g1 (tbx t2.nx v2 l2);exact ⟨.inr ⟨t2,v2,l2,h1,rfl,p1,p2⟩,HX.put hx02 oM _⟩
 |false =>
 have n1:¬o.op=1:=qh a1;refine uT0 ?_;cases a2:decide (o.op=2) with
 |true =>
  have e:=qg a2;have ec:chgT s.t o=snapT s.t o.nm:=by unfold chgT;simp only [e];rfl
  rw [ec];have F:=J10 @od_0 @od_1 @od_2 @od_3 @od_4 @hb @md_t @e0 @e1 @e01;refine uT ?_;refine cR_at (fun H1=>HX H H1/\H1.next=H.next+2/\H1.get (H.next+1)=some (tbx 0 .nilSl .nilSl)) ?_ ?_
  ·exact ⟨hxt,rfl,zaa _⟩
  rintro H1 ⟨hx1,hn1,g1⟩;haveI:=hx1.hn;refine cR_f (zyn1 ((h.hx hx1).tb hd) hs) ?_;rintro r2 H2 ⟨ht2,hx2⟩;have hx02:=hx1.trans hx2;have g1:=(hx2.get (i:=H.next+1) oM).trans g1
  haveI:=hx02.hn;have hlo2:H2.lo=H.lo:=hx02.lo;rcases ht2 with ⟨e,he,h1,rfl⟩|⟨t2,v2,l2,h1,rfl,h3,h4⟩
  ·have F:=J5 @g1 @zea @zba @zha @ld7;refine uT ?_
   exact ⟨.inl ⟨e,he,h1,rfl⟩,HX.put hx02 oM _⟩
  ·have o2:=zbb (nn:=t2.nx) (v:=v2) (lv:=l2) (RdR.one h3) (OwnS.one h4).1
   have F:=J5 @g1 @zea @zba @zha @ld7;refine uT ?_;obtain ⟨p1,p2⟩:=TbR.put h3 h4 g1 (tbx t2.nx v2 l2);exact ⟨.inr ⟨t2,v2,l2,h1,rfl,p1,p2⟩,HX.put hx02 oM _⟩
 |false =>
 have n2:¬o.op=2:=qh a2;refine uT0 ?_;cases a3:decide (o.op=3) with
 |true =>
  have e:=qg a3;have ec:chgT s.t o=zsn s.t o.nm o.to:=by unfold chgT;simp only [e];rfl
  rw [ec];have F:=J10 @od_0 @od_1 @od_2 @od_3 @od_4 @hb @md_t @e0 @e1 @e01;refine uT ?_;refine cR_at (fun H1=>HX H H1/\H1.next=H.next+2/\H1.get (H.next+1)=some (tbx 0 .nilSl .nilSl)) ?_ ?_
  ·exact ⟨hxt,rfl,zaa _⟩
  rintro H1 ⟨hx1,hn1,g1⟩;haveI:=hx1.hn;refine cR_f (znf1 ((h.hx hx1).tb hd) hs hto) ?_;rintro r2 H2 ⟨ht2,hx2⟩;have hx02:=hx1.trans hx2;have g1:=(hx2.get (i:=H.next+1) oM).trans g1
  haveI:=hx02.hn;have hlo2:H2.lo=H.lo:=hx02.lo;rcases ht2 with ⟨e,he,h1,rfl⟩|⟨t2,v2,l2,h1,rfl,h3,h4⟩
  ·have F:=J5 @g1 @zea @zba @zha @ld7;refine uT ?_
   exact ⟨.inl ⟨e,he,h1,rfl⟩,HX.put hx02 oM _⟩
  ·have o2:=zbb (nn:=t2.nx) (v:=v2) (lv:=l2) (RdR.one h3) (OwnS.one h4).1
   have F:=J5 @g1 @zea @zba @zha @ld7;refine uT ?_;obtain ⟨p1,p2⟩:=TbR.put h3 h4 g1 (tbx t2.nx v2 l2);exact ⟨.inr ⟨t2,v2,l2,h1,rfl,p1,p2⟩,HX.put hx02 oM _⟩
 |false =>
 have n3:¬o.op=3:=qh a3;refine uT0 ?_;cases a4:decide (o.op=4) with
 |true =>
  have e:=qg a4;have ec:chgT s.t o=rollT s.t o.nm:=by unfold chgT;simp only [e];rfl
  rw [ec];have F:=J10 @od_0 @od_1 @od_2 @od_3 @od_4 @hb @md_t @e0 @e1 @e01;refine uT ?_;refine cR_at (fun H1=>HX H H1/\H1.next=H.next+2/\H1.get (H.next+1)=some (tbx 0 .nilSl .nilSl)) ?_ ?_
  ·exact ⟨hxt,rfl,zaa _⟩
  rintro H1 ⟨hx1,hn1,g1⟩;haveI:=hx1.hn;refine cR_f (zdo1 ((h.hx hx1).tb hd) hs) ?_;rintro r2 H2 ⟨ht2,hx2⟩;have hx02:=hx1.trans hx2;have g1:=(hx2.get (i:=H.next+1) oM).trans g1
  haveI:=hx02.hn;have hlo2:H2.lo=H.lo:=hx02.lo;rcases ht2 with ⟨e,he,h1,rfl⟩|⟨t2,v2,l2,h1,rfl,h3,h4⟩
  ·have F:=J5 @g1 @zea @zba @zha @ld7;refine uT ?_
   exact ⟨.inl ⟨e,he,h1,rfl⟩,HX.put hx02 oM _⟩
  ·have o2:=zbb (nn:=t2.nx) (v:=v2) (lv:=l2) (RdR.one h3) (OwnS.one h4).1
   have F:=J5 @g1 @zea @zba @zha @ld7;refine uT ?_;obtain ⟨p1,p2⟩:=TbR.put h3 h4 g1 (tbx t2.nx v2 l2);exact ⟨.inr ⟨t2,v2,l2,h1,rfl,p1,p2⟩,HX.put hx02 oM _⟩
 |false =>
 have n4:¬o.op=4:=qh a4;refine uT0 ?_;cases a5:decide (o.op=5) with
 |true =>
  have e:=qg a5;have ec:chgT s.t o=dropT s.t o.nm:=by unfold chgT;simp only [e];rfl
  rw [ec];have F:=J10 @od_0 @od_1 @od_2 @od_3 @od_4 @hb @md_t @e0 @e1 @e01;refine uT ?_;refine cR_at (fun H1=>HX H H1/\H1.next=H.next+2/\H1.get (H.next+1)=some (tbx 0 .nilSl .nilSl)) ?_ ?_
  ·exact ⟨hxt,rfl,zaa _⟩
  rintro H1 ⟨hx1,hn1,g1⟩;haveI:=hx1.hn;refine cR_f (zho1 ((h.hx hx1).tb hd) hs) ?_;rintro r2 H2 ⟨ht2,hx2⟩;have hx02:=hx1.trans hx2;have g1:=(hx2.get (i:=H.next+1) oM).trans g1
  haveI:=hx02.hn;have hlo2:H2.lo=H.lo:=hx02.lo;rcases ht2 with ⟨e,he,h1,rfl⟩|⟨t2,v2,l2,h1,rfl,h3,h4⟩
  ·have F:=J5 @g1 @zea @zba @zha @ld7;refine uT ?_
   exact ⟨.inl ⟨e,he,h1,rfl⟩,HX.put hx02 oM _⟩
  ·have o2:=zbb (nn:=t2.nx) (v:=v2) (lv:=l2) (RdR.one h3) (OwnS.one h4).1
   have F:=J5 @g1 @zea @zba @zha @ld7;refine uT ?_;obtain ⟨p1,p2⟩:=TbR.put h3 h4 g1 (tbx t2.nx v2 l2);exact ⟨.inr ⟨t2,v2,l2,h1,rfl,p1,p2⟩,HX.put hx02 oM _⟩
 |false =>
 have n5:¬o.op=5:=qh a5;refine uT0 ?_;cases a6:decide (o.op=6) with
 |true =>
  have e:=qg a6;have ec:chgT s.t o=renT s.t o.nm o.to:=by unfold chgT;simp only [e];rfl
  rw [ec];have F:=J10 @od_0 @od_1 @od_2 @od_3 @od_4 @hb @md_t @e0 @e1 @e01;refine uT ?_;refine cR_at (fun H1=>HX H H1/\H1.next=H.next+2/\H1.get (H.next+1)=some (tbx 0 .nilSl .nilSl)) ?_ ?_
  ·exact ⟨hxt,rfl,zaa _⟩
  rintro H1 ⟨hx1,hn1,g1⟩;haveI:=hx1.hn;refine cR_f (renf_ok ((h.hx hx1).tb hd) hs hto) ?_;rintro r2 H2 ⟨ht2,hx2⟩;have hx02:=hx1.trans hx2;have g1:=(hx2.get (i:=H.next+1) oM).trans g1
  haveI:=hx02.hn;have hlo2:H2.lo=H.lo:=hx02.lo;rcases ht2 with ⟨e,he,h1,rfl⟩|⟨t2,v2,l2,h1,rfl,h3,h4⟩
  ·have F:=J5 @g1 @zea @zba @zha @ld7;refine uT ?_
   exact ⟨.inl ⟨e,he,h1,rfl⟩,HX.put hx02 oM _⟩
  ·have o2:=zbb (nn:=t2.nx) (v:=v2) (lv:=l2) (RdR.one h3) (OwnS.one h4).1
   have F:=J5 @g1 @zea @zba @zha @ld7;refine uT ?_;obtain ⟨p1,p2⟩:=TbR.put h3 h4 g1 (tbx t2.nx v2 l2);exact ⟨.inr ⟨t2,v2,l2,h1,rfl,p1,p2⟩,HX.put hx02 oM _⟩
 |false =>
 have n6:¬o.op=6:=qh a6;refine uT0 ?_;cases a7:decide (o.op=7) with
 |true =>
  have e:=qg a7;have ec:chgT s.t o=sizeT s.t o.nm o.n:=by unfold chgT;simp only [e];rfl
  rw [ec];have F:=J10 @od_0 @od_1 @od_2 @od_3 @od_4 @hb @md_t @e0 @e1 @e01;refine uT ?_;refine cR_at (fun H1=>HX H H1/\H1.next=H.next+2/\H1.get (H.next+1)=some (tbx 0 .nilSl .nilSl)) ?_ ?_
  ·exact ⟨hxt,rfl,zaa _⟩
  rintro H1 ⟨hx1,hn1,g1⟩;haveI:=hx1.hn;refine cR_f (resz_ok ((h.hx hx1).tb hd) hs) ?_;rintro r2 H2 ⟨ht2,hx2⟩;have hx02:=hx1.trans hx2;have g1:=(hx2.get (i:=H.next+1) oM).trans g1
  haveI:=hx02.hn;have hlo2:H2.lo=H.lo:=hx02.lo;rcases ht2 with ⟨e,he,h1,rfl⟩|⟨t2,v2,l2,h1,rfl,h3,h4⟩
  ·have F:=J5 @g1 @zea @zba @zha @ld7;refine uT ?_
   exact ⟨.inl ⟨e,he,h1,rfl⟩,HX.put hx02 oM _⟩
  ·have o2:=zbb (nn:=t2.nx) (v:=v2) (lv:=l2) (RdR.one h3) (OwnS.one h4).1
   have F:=J5 @g1 @zea @zba @zha @ld7;refine uT ?_;obtain ⟨p1,p2⟩:=TbR.put h3 h4 g1 (tbx t2.nx v2 l2);exact ⟨.inr ⟨t2,v2,l2,h1,rfl,p1,p2⟩,HX.put hx02 oM _⟩
 |false =>
 have n7:¬o.op=7:=qh a7;refine uT0 ?_;have ec:chgT s.t o=limT s.t o.nm o.n o.m:=by unfold chgT;rw [qd n1,qd n2,qd n3,qd n4,qd n5,qd n6,qd n7]
 rw [ec];have F:=J10 @od_0 @od_1 @od_2 @od_3 @od_4 @hb @md_t @e0 @e1 @e01;refine uT ?_;refine cR_at (fun H1=>HX H H1/\H1.next=H.next+2/\H1.get (H.next+1)=some (tbx 0 .nilSl .nilSl)) ?_ ?_
 ·exact ⟨hxt,rfl,zaa _⟩
 rintro H1 ⟨hx1,hn1,g1⟩;haveI:=hx1.hn;refine cR_f (lim_ok ((h.hx hx1).tb hd) hs) ?_;rintro r2 H2 ⟨ht2,hx2⟩;have hx02:=hx1.trans hx2;have g1:=(hx2.get (i:=H.next+1) oM).trans g1
 haveI:=hx02.hn;have hlo2:H2.lo=H.lo:=hx02.lo;rcases ht2 with ⟨e,he,h1,rfl⟩|⟨t2,v2,l2,h1,rfl,h3,h4⟩
 ·have F:=J5 @g1 @zea @zba @zha @ld7;refine uT ?_
  exact ⟨.inl ⟨e,he,h1,rfl⟩,HX.put hx02 oM _⟩
 ·have o2:=zbb (nn:=t2.nx) (v:=v2) (lv:=l2) (RdR.one h3) (OwnS.one h4).1
  have F:=J5 @g1 @zea @zba @zha @ld7;refine uT ?_;obtain ⟨p1,p2⟩:=TbR.put h3 h4 g1 (tbx t2.nx v2 l2);exact ⟨.inr ⟨t2,v2,l2,h1,rfl,p1,p2⟩,HX.put hx02 oM _⟩
theorem u61:lookM.under 61=some (.map 3 100):=kR
theorem uI3:lookM.under 3=some (.int .i64):=kR
theorem zz100:lookM.zero 100=some (.bag 16384 0):=kR
theorem MpR.at {H:AH}{mb:Nat}{f:Int->Bk}(h:MpR H mb f) (k:Int):zob lookM 61 (.map mb) (.int .i64 k) false H=some (bkA (f k)):=by
 obtain ⟨_,es,c,kv,hg,hm,_,hf⟩:=h;rw [zzm1 u61 uI3 zz100 k hg hm,(hf k).1]
theorem MpR.ok {H:AH}{mb:Nat}{f:Int->Bk}(h:MpR H mb f) (k:Int):BkOk (f k):=by
 obtain ⟨_,es,c,kv,hg,hm,_,hf⟩:=h;exact (hf k).2
theorem MpR.hp {H H':AH}{mb:Nat}{f:Int->Bk}(h:MpR H mb f){p:Nat->Prop}(hx:HP p H H') (hp:p mb):MpR H' mb f:=by
 obtain ⟨h1,es,c,kv,hg,h2⟩:=h;exact ⟨qz h1 hx.next,es,c,kv,(hx.get h1 hp).trans hg,h2⟩
theorem MpR.up {H:AH}[hn:HN H]{mb:Nat}{f:Int->Bk}(h:MpR H mb f) (k:Int){x:Bk}(hx:BkOk x) (hlo:H.lo<=mb) :
  ∃H',unitF (zqa lookM 61 (.map mb) (.int .i64 k) (bkA x) H)=some (.undef,H')/\MpR H' mb (setK f k x)/\HP (·≠ mb) H H'/\H'.next=H.next:=by
 obtain ⟨h1,es,c,kv,hg,hm,hnd,hf⟩:=h;obtain ⟨es',c',h2,h3⟩:=zjw u61 uI3 k (bkA x) hg hlo hm;refine ⟨H.put mb (.map es' c'),by rw [h2];rfl,⟨h1,es',c',upK k (bkA x) kv,zia _ _,h3,hnd.up,fun j=> ?_⟩,HP.put _ _ _,rfl⟩
 rw [lkK_up];unfold setK;by_cases e:j=k
 ·rw [qi e,qi e];exact ⟨rfl,hx⟩
 ·rw [qd e,qd e];exact hf j
theorem zqw {α:Type}:∀(l:List α) (j:Nat),zai l j=l.eraseIdx j:=by
 intro l
 induction l with
 |nil=>intro j;cases j<;>rfl
 |cons a l ih =>
  intro j;cases j with
  |zero=>rfl
  |succ j=>show a::zai l j=_;rw [ih j];rfl
theorem MpR.del {H:AH}[hn:HN H]{mb:Nat}{f:Int->Bk}(h:MpR H mb f) (k:Int) (hlo:H.lo<=mb) :
  ∃H',zda .delete lookM [61,3] [.map mb,.int .i64 k] H=some (.undef,H')/\MpR H' mb (setK f k zeroB)/\HP (·≠ mb) H H'/\H'.next=H.next:=by
 obtain ⟨h1,es,c,kv,hg,hm,hnd,hf⟩:=h;have hfin:∀j,(lkK j (delK k kv)).getD (.bag 16384 0)=bkA (setK f k zeroB j)/\BkOk (setK f k zeroB j):=fun j=>by
  rw [zaj1 k kv hnd];unfold setK;by_cases e:j=k
  ·rw [qi e,qi e]
   exact ⟨by show AV.bag 16384 0= .bag 16384 (Nb zeroB);rw [zdm],zeroB_ok⟩
  ·rw [qd e,qd e];exact hf j
 have hd:=hm.del k;have hev:∀r,zvf lookM 61 (.map mb) (.int .i64 k) H=some r->zda .delete lookM [61,3] [.map mb,.int .i64 k] H=some (.undef,r):=fun r hr=>by
  show (match zvf lookM 61 (.map mb) (.int .i64 k) H with|some H'=>some (AV.undef,H')|none=>none)=_
  rw [hr]
 cases hi:idxK k kv with
 |none =>
  rw [hi] at hd;refine ⟨H,hev _ ?_,⟨h1,es,c,delK k kv,hg,hd,hnd.del,hfin⟩,HP.refl _ _,rfl⟩;unfold zvf;simp only [u61,hg,show Nat.ble H.lo mb=true from qe hlo,zwe1 uI3 k hm,hi,qq4]
 |some j =>
  rw [hi] at hd;refine ⟨H.put mb (.map (es.eraseIdx j) c),hev _ ?_,⟨h1,es.eraseIdx j,c,delK k kv,zia _ _,hd,hnd.del,hfin⟩,HP.put _ _ _,rfl⟩;unfold zvf;simp only [u61,hg,show Nat.ble H.lo mb=true from qe hlo,zwe1 uI3 k hm,hi,qg4,zqw]
abbrev rpL (e:Int) (n b:AV):List AV:= [.int .i64 e,n,b]
abbrev rpA (e:Int) (n b:AV):AV:=.agg [.int .i64 e,n,b]
abbrev rpx (e:Int) (n b:AV):ABlk:=.cells (.lst (rpL e n b)) 37 3 false false
theorem zdb (e:Int) (n b:AV):AV.toC (rpA e n b)= .lst (rpL e n b):=rfl
theorem rp_bu (e:Int):zsa lookM 37 (zipF [0] [.int .i64 e])=some (rpA e .nilSl .nilSl):=kR
theorem zhj:zsa lookM 37 (zipF [] [])=some (rpA 0 .nilSl .nilSl):=kR
theorem zlb (e:Int) (n b:AV) (t z:Nat) (op ro:Bool):sbB (some (.cells (.lst (rpL e n b)) t z op ro)) 0 3=some (rpA e n b):=zth rfl
theorem rp_w (e e2:Int) (n b n2 b2:AV) (i t:Nat) (op:Bool) (H:AH) (h1:n2.oneCell=true) (h2:b2.oneCell=true):wrN (some (.cells (.lst (rpL e n b)) t 3 op false)) i 0 3 (.lst (rpL e2 n2 b2)) H=some (H.put i (.cells (.lst (rpL e2 n2 b2)) t 3 op false)):=wrN_l rfl rfl (by show (true && (n2.oneCell && (b2.oneCell && true)))=true;rw [h1,h2];rfl)
theorem ld3 (i o:Nat) (H:AH):zub lookM 37 (.ptr i o) H=ldN 3 (.ptr i o) H:=zeg kR kR
theorem rp_w0 (e e2:Int) (i t:Nat) (op:Bool) (H:AH):wrN (some (.cells (.lst (rpL e .nilSl .nilSl)) t 3 op false)) i 0 3 (.lst (rpL e2 .nilSl .nilSl)) H=some (H.put i (.cells (.lst (rpL e2 .nilSl .nilSl)) t 3 op false)):=wrN_l rfl rfl rfl
theorem md_w {nn n2:Int}{v lv v2 l2:AV}{mb i e:Nat}{op:Bool}{H:AH}(ho:(tbL n2 v2 l2).all AV.oneCell=true):wrN (some (.cells (.lst (mdL nn v lv mb)) e 8 op false)) i 0 7 (.lst (tbL n2 v2 l2)) H=some (H.put i (.cells (.lst (mdL n2 v2 l2 mb)) e 8 op false)):=wrN_p rfl ho (by show 0+7<=8;decide)
theorem rc_n0 (p:AV×Rc):nth (rcL p) 0=some (.int .i64 p.2.id):=rfl
def DoesR (H H':AH) (b mb:Nat) (r:AV) (o:Rp×Ms):Prop:=r=rpA o.1.err .nilSl .nilSl/\(∃v lv,MdR H' b mb o.2 v lv)/\HP (fun i=>i≠b/\i≠mb) H H'
theorem bR_at {x:AV}{L:Lk}{a b:C2}{s:List Kf}{T:Tr AV}{H:AH}{Q:PostC}(P:Tr AV->AH->Prop) (hp:P T H) (hk:∀T H,P T H->bR x L a b s T H Q):bR x L a b s T H Q:=hk T H hp
theorem RdR.sep {H H':AH}{v:AV}{rs:List Rc}(h:RdR H v rs){q:Nat->Prop}(hp:HP q H H') (hq:∀j cc e op ro,H.get j=some (.cells cc e 44 op ro)->q j):RdR H' v rs:=by
 rcases h with h|⟨j,c,op,cs,rfl,hj,hr,hc⟩
 ·exact .inl h
 ·obtain ⟨cc,hg,hcc⟩:=id hr
  exact .inr ⟨j,c,op,cs,rfl,qz hj hp.next,hr.hp hp hj (hq _ _ _ _ _ hg),hc⟩
theorem LvD.sep {H H':AH}{lv:AV}(h:LvD H lv){q:Nat->Prop}(hp:HP q H H') (hq:∀j cc e op ro,H.get j=some (.cells cc e 1 op ro)->q j):LvD H' lv:=by
 obtain ⟨j,op,rfl,hr,hj⟩:=h;obtain ⟨cc,hg,hc⟩:=id hr;exact ⟨j,op,rfl,hr.hp hp hj (hq _ _ _ _ _ hg),qz hj hp.next⟩
set_option maxHeartbeats 32000000 in
theorem zbg1 {H:AH}[hn:HN H]{b mb:Nat}{s:Ms}{v lv:AV}{o:Od}{ov bv:AV}(h:MdR H b mb s v lv) (hd:Bd s.t) (hs:o.nm.size<=100000) (hto:o.to.size<=100000) (hblo:H.lo<=b) (hmlo:H.lo<=mb)
  (hop:1<=o.op) (hop2:o.op<=8) :
  FnE lookM 132 [odA o ov bv,.ptr b 0] H fun r H'=>DoesR H H' b mb r (zyd true s o):=by
 refine fJ Tryz.f132 o132 ?_;have hlo:=hn.lo;have hlt:=h.lt;have hmlt:=h.mp.1;have hbm:=h.ne;have hsp:= @FnX.p _ _ _ _ (zhg o.nm oM)
 have F:=J3 @zke @zcb @zuf;refine uT ?_;clear F;refine cR_at (fun H1=>HX H H1/\H1.next=H.next+2/\H1.get H.next=some (.cells (.lst (odL o ov bv)) 107 7 false false)/\H1.get (H.next+1)=some (rpx 0 .nilSl .nilSl)) ?_ ?_
 ·exact ⟨hxt,rfl,by rw [zah _ (oM:H.next≠H.next+1),zaa],zaa _⟩
 rintro H1 ⟨hx1,hn1,g0,g1⟩;haveI:=hx1.hn;have g1'0:=g1;refine cR_f (zkb1 (h.hx hx1) hd hs hto) ?_;rintro r2 H2 ⟨ht2,hx2⟩;have hx02:=hx1.trans hx2;have hn2:=hx2.next;have g0:=(hx2.get (i:=H.next) oM).trans g0
 have g1:=(hx2.get (i:=H.next+1) oM).trans g1
 haveI:=hx02.hn;have hlo2:H2.lo=H.lo:=hx02.lo;have o1:=o0;have e1:=hEq_f (oM:H.next+1≠H2.next)
 have e0:=hEq_f (oM:H.next≠H2.next)
 unfold zyd;have g1':H1.get (H.next+1)=some (rpx 0 .nilSl .nilSl):=g1'0;rcases ht2 with ⟨e,he,h1,rfl⟩|⟨t2,v2,l2,h1,rfl,h3,h4⟩
 ·have d1:decide (e≠0)=true:=qk he
  have F:=J11 @zba @zcb @zha @g1 @e1 @d1 @rp_bu @zdb @rp_w0 @zlb @ld3;refine uT ?_;clear F;rw [h1];refine ⟨rfl,⟨v,lv,h.hx ?_⟩,HX.hp (p:=fun i=>i≠b/\i≠mb) ?_⟩<;>(have K:=hx02;exact hxk)
 rw [h1];have o2:=zbb (nn:=t2.nx) (v:=v2) (lv:=l2) (RdR.one h3) (OwnS.one h4).1;have hb2:=(h.hx hx02).box;have eb:=hEq_f (oM:b≠H2.next)
 have F:=J10 @zba @zcb @zha @g0 @hb2 @eb @e0 @e1 @md_0 @od_1;refine uT ?_;clear F;refine cR_at (fun H3=>HX H2 H3/\H3.next=H2.next+1/\H3.get H2.next=some (tbx t2.nx v2 l2)) ?_ ?_
 ·exact ⟨hxt,rfl,zia _ _⟩
 rintro H3 ⟨hx3,hn3,g2⟩;have hx03:=hx02.trans hx3;haveI:=hx03.hn;refine cR_f (zco (nm:=o.nm) (h.hx hx03) hd.len) ?_;rintro r4 H4 ⟨rfl,hx4⟩;have hx04:=hx03.trans hx4;have hn4:=hx4.next;have hx24:=hx3.trans hx4;have g0:=(hx24.get (i:=H.next) oM).trans g0
 have g1:=(hx24.get (i:=H.next+1) oM).trans g1
 have g2:=(hx4.get (i:=H2.next) oM).trans g2
 haveI:=hx04.hn;have hlo4:H4.lo=H.lo:=hx04.lo;have e0:=hEq_f (oM:H.next≠H4.next)
 have hone4:=zbc (AV.nilSl,recO s.t o.nm) rfl;have F:=J5 @zpa @g0 @e0 @od_1 @hsp;refine uT ?_;clear F;refine cR_at (fun H5=>HX H4 H5/\H5.next=H4.next+1/\H5.get H4.next=some (.cells (.lst (rcL (.nilSl,recO s.t o.nm))) 84 44 false false)) ?_ ?_
 ·exact ⟨hxt,rfl,zia _ _⟩
 rintro H5 ⟨hx5,hn5,g4⟩;have hx05:=hx04.trans hx5;haveI:=hx05.hn;refine cR_f (zco (nm:=splA o.nm) (h.hx hx05) hd.len) ?_;rintro r6 H6 ⟨rfl,hx6⟩;have hx06:=hx05.trans hx6;have hn6:=hx6.next;have hx46:=hx5.trans hx6;have g0:=(hx46.get (i:=H.next) oM).trans g0
 have g1:=(hx46.get (i:=H.next+1) oM).trans g1
 have g2:=(hx46.get (i:=H2.next) oM).trans g2
 have g4:=(hx6.get (i:=H4.next) oM).trans g4
 haveI:=hx06.hn;have hlo6:H6.lo=H.lo:=hx06.lo;have e0:=hEq_f (oM:H.next≠H6.next)
 have hone6:=zbc (AV.nilSl,recO s.t (splA o.nm)) rfl;have F:=J4 @zpa @g0 @e0 @od_0;refine uT ?_;clear F;refine bR_at (fun T H7=>HX H6 H7/\H7.next=H6.next+1/\H7.get H6.next=some (.cells (.lst (rcL (.nilSl,recO s.t (splA o.nm)))) 84 44 false false) /\
  gT T 1= .ptr b 0/\gT T 2= .ptr H.next 0/\gT T 4= .ptr (H.next+1) 0/\gT T 5= .ptr H2.next 0/\gT T 7= .int .i64 s.t.nx/\gT T 8= .ptr H4.next 0/\gT T 13= .ptr H6.next 0/\gT T 55= .int .i64 o.op) ?_ ?_
 ·exact ⟨hxt,rfl,zia _ _,vT0,vT0,vT0,vT0,vT0,vT0,vT0,vT0⟩
 rintro T H7 ⟨hx7,hn7,g6,y1,y2,y4,y5,y7,y8,y13,y55⟩;have hx07:=hx06.trans hx7;have hn7':=hx7.next;have g0:=(hx7.get (i:=H.next) oM).trans g0
 have g1:=(hx7.get (i:=H.next+1) oM).trans g1
 have g2:=(hx7.get (i:=H2.next) oM).trans g2
 have g4:=(hx7.get (i:=H4.next) oM).trans g4
 haveI:=hx07.hn;have hlo7:H7.lo=H.lo:=hx07.lo;have h7:=h.hx hx07;have hb7:=h7.box;have hx27:HX H2 H7:=((hx24.trans hx5).trans hx6).trans hx7;obtain ⟨es7,c7,kv7,gm7,_⟩:=h7.mp.2;have g1h:=(hx02.get (i:=b) oM).trans h.box
 have fin:∀(H8:AH) (f':Int->Bk),HP (·≠ mb) H7 H8->MpR H8 mb f'->chgB true s o=f' ->
   DoesR H ((H8.put b (mdx t2.nx v2 l2 mb)).put (H.next+1) (rpx 0 .nilSl .nilSl)) b mb (rpA 0 .nilSl .nilSl) (match ((some t2,0):Res) with|(some t,_)=>(er 0,⟨t,chgB true s o⟩)|(none,e)=>(er e,s)):=by
  intro H8 f' hp8 hm8 hc;have hn8:=hp8.next;haveI:HN H8:=hp8.hn;have k1:HP (·≠ b) H8 (H8.put b (mdx t2.nx v2 l2 mb)):=HP.put _ _ _;have k2:HP (·≠ H.next+1) (H8.put b (mdx t2.nx v2 l2 mb)) ((H8.put b (mdx t2.nx v2 l2 mb)).put (H.next+1) (rpx 0 .nilSl .nilSl)):=HP.put _ _ _;have k12:HP (fun i=>i≠b/\i≠H.next+1) H8 ((H8.put b (mdx t2.nx v2 l2 mb)).put (H.next+1) (rpx 0 .nilSl .nilSl)):=k1.trans k2 fun i _ hi=>hi
  have k7:HP (fun i=>i≠mb/\(i≠b/\i≠H.next+1)) H7 ((H8.put b (mdx t2.nx v2 l2 mb)).put (H.next+1) (rpx 0 .nilSl .nilSl)):=hp8.trans k12 fun i _ hi=>hi
  have kk:HP (fun i=>i≠mb/\(i≠b/\i≠H.next+1)) H2 ((H8.put b (mdx t2.nx v2 l2 mb)).put (H.next+1) (rpx 0 .nilSl .nilSl)):=(hx27.hp (fun _=>True)).trans k7 fun i _ hi=>⟨trivial,hi⟩
  have k0:HP (fun i=>i≠b/\i≠mb) H ((H8.put b (mdx t2.nx v2 l2 mb)).put (H.next+1) (rpx 0 .nilSl .nilSl)):=(hx07.hp (fun _=>True)).trans k7 fun i hi hh=>⟨trivial,hh.2,hh.1,oM⟩
  have g1b:=(hx2.get (i:=H.next+1) oM).trans (show H1.get (H.next+1)=_ from g1')
  have sep:∀(z:Nat),z≠8->z≠3-> ∀j cc e op ro,H2.get j=some (.cells cc e z op ro)->(j≠mb/\(j≠b/\j≠H.next+1)):=fun z z8 z3 j cc e op ro hg=>by
   refine ⟨fun e=> ?_,fun e=> ?_,fun e=> ?_⟩
   ·subst e
    obtain ⟨es,c,kv,gm,_⟩:=(h.hx hx02).mp.2;rw [hg] at gm;cases gm
   ·subst e
    rw [hg] at g1h;cases g1h;exact z8 rfl
   ·subst e
    rw [hg] at g1b;cases g1b;exact z3 rfl
  refine ⟨rfl,⟨v2,l2,?_⟩,k0⟩;show MdR _ b mb ⟨t2,chgB true s o⟩ v2 l2
  rw [hc];refine ⟨by have:=k0.next;omega,?_,(h3.sep kk (sep 44 dC dC)),(h4.lvd.sep kk (sep 1 dC dC)),(hm8.hp k12 ⟨fun e=>hbm e.symm,oM⟩)⟩
  rw [zyb _ oM]
  exact zia _ _
 have hb8:∀H8,HP (·≠ mb) H7 H8->H8.get b=some (mdx s.t.nx v lv mb):=fun H8 hp=>(hp.get oM hbm).trans hb7
 have hg18:∀H8,HP (·≠ mb) H7 H8->H8.get (H.next+1)=some (rpx 0 .nilSl .nilSl):=fun H8 hp=>(hp.get oM oM).trans g1
 have hg28:∀H8,HP (·≠ mb) H7 H8->H8.get H2.next=some (tbx t2.nx v2 l2):=fun H8 hp=>(hp.get oM oM).trans g2
 have hlo8:∀H8,HP (·≠ mb) H7 H8->H8.lo=H.lo:=fun H8 hp=>hp.lo.trans hlo7
 have hlk:=fun k=>h7.mp.at k
 have ebr:=hEq_f (oM:H.next+1≠b)
 clear hx7 hx6 hx5 hx4 hx3 hx46 hx24 eb e0 e1;cases a1:decide (o.op=1) with
 |true =>
  have e:=qg a1;have ec:chgB true s o=setK s.b s.t.nx zeroB:=by unfold chgB;simp only [e];rfl
  obtain ⟨H8,w8,m8,hp8,hn8⟩:=h7.mp.up s.t.nx (x:=zeroB) zeroB_ok oM
  rw [show bkA zeroB= .bag 16384 0 from by show AV.bag 16384 (Nb zeroB)=_;rw [zdm]] at w8
  have p1:=hb8 H8 hp8;have p2:=hg18 H8 hp8;have p3:=hg28 H8 hp8;have p4:=hlo8 H8 hp8;haveI:HN H8:=hp8.hn;have F:=J16 @y1 @y2 @y4 @y5 @y7 @y8 @y13 @y55 @hb7 @md_7 @g2 @g4 @g6 @rc_n0 @hlk (J16 @bu100 @w8 @zea @zba @md_w @o2 @p1 @p2 @p3 @p4 @ebr @zhj @zdb @rp_w0 @zlb @ld3);refine uT ?_;clear F;exact fin H8 _ hp8 m8 ec
 |false =>
 have n1:¬o.op=1:=qh a1;have F:=@y55;refine uT ?_;clear F;cases a2:decide (o.op=2) with
 |true =>
  have e:=qg a2;have ec:chgB true s o=setK s.b s.t.nx (s.b (recO s.t (splA o.nm)).id):=by unfold chgB;simp only [e];rfl
  obtain ⟨H8,w8,m8,hp8,hn8⟩:=h7.mp.up s.t.nx (x:=(s.b (recO s.t (splA o.nm)).id)) (h7.mp.ok _) oM
  have p1:=hb8 H8 hp8;have p2:=hg18 H8 hp8;have p3:=hg28 H8 hp8;have p4:=hlo8 H8 hp8;haveI:HN H8:=hp8.hn;have F:=J16 @y1 @y2 @y4 @y5 @y7 @y8 @y13 @y55 @hb7 @md_7 @g2 @g4 @g6 @rc_n0 @hlk (J16 @bu100 @w8 @zea @zba @md_w @o2 @p1 @p2 @p3 @p4 @ebr @zhj @zdb @rp_w0 @zlb @ld3);refine uT ?_;clear F;exact fin H8 _ hp8 m8 ec
 |false =>
 have n2:¬o.op=2:=qh a2;have F:=@y55;refine uT ?_;clear F;cases a3:decide (o.op=3) with
 |true =>
  have e:=qg a3;have ec:chgB true s o=setK s.b s.t.nx (s.b (recO s.t o.nm).id):=by unfold chgB;simp only [e];rfl
  obtain ⟨H8,w8,m8,hp8,hn8⟩:=h7.mp.up s.t.nx (x:=(s.b (recO s.t o.nm).id)) (h7.mp.ok _) oM
  have p1:=hb8 H8 hp8;have p2:=hg18 H8 hp8;have p3:=hg28 H8 hp8;have p4:=hlo8 H8 hp8;haveI:HN H8:=hp8.hn;have F:=J16 @y1 @y2 @y4 @y5 @y7 @y8 @y13 @y55 @hb7 @md_7 @g2 @g4 @g6 @rc_n0 @hlk (J16 @bu100 @w8 @zea @zba @md_w @o2 @p1 @p2 @p3 @p4 @ebr @zhj @zdb @rp_w0 @zlb @ld3);refine uT ?_;clear F;exact fin H8 _ hp8 m8 ec
 |false =>
 have n3:¬o.op=3:=qh a3;have F:=@y55;refine uT ?_;clear F;cases a4:decide (o.op=4) with
 |true =>
  have e:=qg a4;have ec:chgB true s o=setK s.b (recO s.t (splA o.nm)).id (s.b (recO s.t o.nm).id):=by unfold chgB;simp only [e];rfl
  obtain ⟨H8,w8,m8,hp8,hn8⟩:=h7.mp.up (recO s.t (splA o.nm)).id (x:=(s.b (recO s.t o.nm).id)) (h7.mp.ok _) oM
  have p1:=hb8 H8 hp8;have p2:=hg18 H8 hp8;have p3:=hg28 H8 hp8;have p4:=hlo8 H8 hp8;haveI:HN H8:=hp8.hn;have F:=J16 @y1 @y2 @y4 @y5 @y7 @y8 @y13 @y55 @hb7 @md_7 @g2 @g4 @g6 @rc_n0 @hlk (J16 @bu100 @w8 @zea @zba @md_w @o2 @p1 @p2 @p3 @p4 @ebr @zhj @zdb @rp_w0 @zlb @ld3);refine uT ?_;clear F;exact fin H8 _ hp8 m8 ec
 |false =>
 have n4:¬o.op=4:=qh a4;have F:=@y55;refine uT ?_;clear F;cases a5:decide (o.op=5) with
 |true =>
  have e:=qg a5;have ec:chgB true s o=setK s.b (recO s.t o.nm).id zeroB:=by unfold chgB;simp only [e];rfl
  obtain ⟨H8,w8,m8,hp8,hn8⟩:=h7.mp.del (recO s.t o.nm).id oM
  have p1:=hb8 H8 hp8;have p2:=hg18 H8 hp8;have p3:=hg28 H8 hp8;have p4:=hlo8 H8 hp8;haveI:HN H8:=hp8.hn;have F:=J16 @y1 @y2 @y4 @y5 @y7 @y8 @y13 @y55 @hb7 @md_7 @g2 @g4 @g6 @rc_n0 @hlk (J16 @bu100 @w8 @zea @zba @md_w @o2 @p1 @p2 @p3 @p4 @ebr @zhj @zdb @rp_w0 @zlb @ld3);refine uT ?_;clear F;exact fin H8 _ hp8 m8 ec
 |false =>
 have n5:¬o.op=5:=qh a5;have F:=@y55;refine uT ?_;clear F;cases a6:decide (o.op=6) with
 |true =>
  have e:=qg a6;have ec:chgB true s o=s.b:=by unfold chgB;simp only [e];rfl
  have F:=J16 @y1 @y2 @y4 @y5 @y7 @y8 @y13 @y55 @hb7 @md_7 @g2 @g4 @g6 @rc_n0 @hlk (J12 @bu100 @g1 @zea @zba @md_w @o2 @ebr @zhj @zdb @rp_w0 @zlb @ld3);refine uT ?_;clear F;exact fin H7 _ (HP.refl _ _) h7.mp ec
 |false =>
 have n6:¬o.op=6:=qh a6;cases a7:decide (o.op=7) with
 |true =>
  have e:=qg a7;have ec:chgB true s o=setK s.b (recO s.t o.nm).id (cutK (s.b (recO s.t o.nm).id) o.n.toNat (64 - o.n.toNat)):=by unfold chgB;simp only [e];rfl
  have hwn:wi o.n 1 64=true:=by
   have hc:chgT s.t o=sizeT s.t o.nm o.n:=by unfold chgT;simp only [e];rfl
   rw [hc] at h1;cases hw:wi o.n 1 64 with
   |true=>rfl
   |false=>unfold sizeT zsd at h1;rw [hw,qi3,qr3] at h1;cases h1
  rw [wi_d,qm,qs,qs] at hwn;obtain ⟨n,hn⟩:∃n:Nat,o.n=n:=⟨o.n.toNat,oM⟩
  rw [hn,qc2] at ec;have F:=J11 @y1 @y2 @y8 @y55 @hb7 @md_7 @g4 @rc_n0 @hlk @g0 @od_3;refine uT ?_;clear F;refine rk_cw (js:= [H4.next,b]) (R:=fun r H'=>r=bkA (cutK (s.b (recO s.t o.nm).id) n (64 - n))/\HX H7 H') ?_ ?_ ?_
  ·rw [zwc]
   refine zka (o:=0) ?_ (zka (o:=7) ?_ zeb)<;>(exact vT0)
  ·have F:=@hn;refine uT ?_;clear F
   exact ztj1 (h7.mp.ok _) (qn 64) oM
  rintro r9 H9 ⟨rfl,hx9⟩;haveI:=hx9.hn;refine ⟨zhb hx9 _ fun i hi=> ?_,?_⟩
  ·simp only [qg1,qf5,qj7] at hi
   rcases hi with rfl|rfl
   ·exact ⟨oM,_,_,_,_,_,g4⟩
   ·exact ⟨oM,_,_,_,_,_,hb7⟩
  have h9:=h7.hx hx9;have hlo9:H9.lo=H.lo:=hx9.lo.trans hlo7;obtain ⟨H8,w8,m8,hp98,hn8⟩:=h9.mp.up (recO s.t o.nm).id (x:=cutK (s.b (recO s.t o.nm).id) n (64 - n)) (zui (h7.mp.ok _) (qn 64)) oM
  have hp8:HP (·≠ mb) H7 H8:=(hx9.hp (fun _=>True)).trans hp98 fun i _ hi=>⟨trivial,hi⟩
  have p1:=hb8 H8 hp8;have p2:=hg18 H8 hp8;have p3:=hg28 H8 hp8;have p4:=hlo8 H8 hp8;haveI:HN H8:=hp8.hn;have F:=J16 @zvd @y1 @y2 @y4 @y5 @y7 @y8 @y13 @y55 @hb7 @md_7 @g2 @g4 @g6 @rc_n0 (J16 @hlk @bu100 @w8 @zea @zba @md_w @o2 @p1 @p2 @p3 @p4 @ebr @zhj @zdb @rp_w0 (J2 @zlb @ld3));refine uT ?_;clear F;exact fin H8 _ hp8 m8 ec
 |false =>
 have n7:¬o.op=7:=qh a7;have e:o.op=8:=oM
 have ec:chgB true s o=s.b:=by unfold chgB;simp only [e];rfl
 have F:=J16 @y1 @y2 @y4 @y5 @y7 @y8 @y13 @y55 @hb7 @md_7 @g2 @g4 @g6 @rc_n0 @hlk (J12 @bu100 @g1 @zea @zba @md_w @o2 @ebr @zhj @zdb @rp_w0 @zlb @ld3);refine uT ?_;clear F;exact fin H7 _ (HP.refl _ _) h7.mp ec
theorem _root_.Go.Ev.OwnS.is {H:AH}{s:AV}{n e z N:Nat}{cs:List AV}(h:OwnS H s n e z cs N):IsSl H s n:=h.slZ.is
def RpR (H:AH) (r:AV) (p:Rp) (N:Nat):Prop:= ∃nv bv,r=rpA p.err nv bv/\SlZ H nv p.n.length 1 (p.n.map fun x:Int=>AV.int .i64 x)/\OwnS H bv p.b.length 5 1 (p.b.map fun x:Nat=>AV.int .u8 (.ofNat x)) N/\ ∀j,j<N->blkNe nv j/\blkNe bv j
theorem zrp (H:AH) (z:Nat):SlZ H .nilSl 0 z []:=⟨by simp,.inl ⟨rfl,rfl⟩⟩
theorem RpR.err {H:AH}{e:Int}{N:Nat}:RpR H (rpA e .nilSl .nilSl) (er e) N:=⟨_,_,rfl,zrp H 1,OwnS.nil _ _ _ _,fun j _=>⟨zfa _,zfa _⟩⟩
theorem slZ_put {H:AH}[HN H]{v:AV}{n z:Nat}{cs:List AV}(h:SlZ H v n z cs){i:Nat}(hi:blkNe v i) (b:ABlk):SlZ (H.put i b) v n z cs:=h.hp (HP.put H i b) fun j o c op hj e=>by subst e;exact hi _ _ _ _ hj
theorem RpR.put {H:AH}[HN H]{r:AV}{p:Rp}{N:Nat}(h:RpR H r p N){i:Nat}(hi:i<N) (b:ABlk):RpR (H.put i b) r p N:=by
 obtain ⟨nv,bv,hr,h1,h2,h3⟩:=h;exact ⟨nv,bv,hr,slZ_put h1 (h3 i hi).1 b,OwnS.hq h2 (HP.put _ _ _) fun j o n c op e=>by intro hj;subst hj;exact (h3 _ hi).2 _ _ _ _ e,h3⟩
theorem RpR.hx {H H':AH}{r:AV}{p:Rp}{N:Nat}(h:RpR H r p N) (hx:HX H H'):RpR H' r p N:=by
 obtain ⟨nv,bv,hr,h1,h2,h3⟩:=h;exact ⟨nv,bv,hr,h1.hx hx,h2.hx hx,h3⟩
theorem RpR.le {H:AH}{r:AV}{p:Rp}{N M:Nat}(h:RpR H r p N) (hm:M<=N):RpR H r p M:=by
 obtain ⟨nv,bv,hr,h1,h2,h3⟩:=h;exact ⟨nv,bv,hr,h1,OwnS.le h2 hm,fun j hj=>h3 j oM⟩
theorem one_q (n:Int) (H:AH):bsF 1 1 (.int .i64 0) 3 (zipF [0] [.int .i64 n]) H=some (.sl H.next 0 1 1 false,H.new (.cells (.lst [.int .i64 n]) 3 1 false false)):=bs1_q rfl rfl rfl
theorem zcg1 (i:Nat) (op:Bool):zsa lookM 37 (zipF [1] [.sl i 0 1 1 op])=some (rpA 0 (.sl i 0 1 1 op) .nilSl):=kR
theorem rp_wN (e e2:Int) (i t j:Nat) (op op2:Bool) (H:AH):wrN (some (.cells (.lst (rpL e .nilSl .nilSl)) t 3 op false)) i 0 3 (.lst (rpL e2 (.sl j 0 1 1 op2) .nilSl)) H=some (H.put i (.cells (.lst (rpL e2 (.sl j 0 1 1 op2) .nilSl)) t 3 op false)):=wrN_l rfl rfl rfl
theorem zdg1 {H:AH}[hn:HN H]{b mb:Nat}{s:Ms}{v lv:AV}{x:Rc}(h:MdR H b mb s v lv) :
  FnE lookM 57 [.agg (rcL (.nilSl,x)),.ptr b 0] H fun r H'=>RpR H' r ⟨0, [(usedB (s.b x.id):Int)], []⟩ H.next/\HX H H':=by
 refine fI Tryz.f57 ?_;have hlo:=hn.lo;have hlt:=h.lt;have hb:=h.box;have e0:=hEq_f (oM:b≠H.next)
 have e1:=hEq_f (oM:b≠H.next+1)
 have e01:=hEq_f (oM:H.next≠H.next+1)
 have hlk:=fun k=>((h.hx ((HX.new H (.cells (.lst (rcL (.nilSl,x))) 112 44 false false)).trans (HX.new _ (rpx 0 .nilSl .nilSl)))).mp).at k
 have F:=J9 @zpa @zdb @hb @md_7 @e0 @e1 @e01 @rc_n0 @hlk;refine uT ?_;refine cR_at (fun H1=>HX H H1/\H1.next=H.next+2/\H1.get (H.next+1)=some (rpx 0 .nilSl .nilSl)) ?_ ?_
 ·exact ⟨hxt,rfl,zaa _⟩
 rintro H1 ⟨hx1,hn1,g1⟩;haveI:=hx1.hn;refine cR_f (znu (h.mp.ok _)) ?_;rintro r2 H2 ⟨rfl,hx2⟩;have hx02:=hx1.trans hx2;have hn2:=hx2.next;have g1:=(hx2.get (i:=H.next+1) oM).trans g1
 haveI:=hx02.hn;have hlo2:H2.lo=H.lo:=hx02.lo;have e12:=hEq_f (oM:H.next+1≠H2.next)
 have F:=J8 @one_q @zcg1 @zdb @g1 @e12 @rp_wN @zlb @ld3;refine uT ?_;refine ⟨⟨_,_,rfl,?_,OwnS.nil _ _ _ _,fun j hj=>⟨zga oM,zfa _⟩⟩,by have K:=hx02;exact hxk⟩
 have hr:Row ((H2.new (.cells (.lst [.int .i64 (usedB (s.b x.id):Int)]) 3 1 false false)).put (H.next+1) (rpx 0 (.sl H2.next 0 1 1 false) .nilSl)) H2.next false false 3 1 [.int .i64 (usedB (s.b x.id):Int)] :=
  ⟨.lst [.int .i64 (usedB (s.b x.id):Int)],by rw [zyb _ oM];exact zaa _,rfl⟩
 exact hr.slZ (n:=1) (c:=1) (op':=false) (by show H2.next<H2.next+1;omega) rfl
def shS (s:Ms) (nm:ByteArray) (n:Int) (x:Rc):Int:=if x.kd=1/\x.nm≠nm then n+max (x.rs - (usedB (s.b x.id):Int)) 0 else n
theorem zpu (s:Ms) (nm:ByteArray):zqk s nm=s.t.rs.foldl (shS s nm) 0:=rfl
theorem shS_le (s:Ms) (nm:ByteArray){x:Rc}(hx:x.rs<=1000000) (n:Int):n<=shS s nm n x/\shS s nm n x<=n+1000000:=by
 unfold shS;split<;>omega
theorem rc_n2 (p:AV×Rc):nth (rcL p) 2=some (.int .i64 p.2.kd):=rfl
theorem rc_n43 (p:AV×Rc):nth (rcL p) 43=some (.int .i64 p.2.rs):=rfl
set_option maxHeartbeats 16000000 in
theorem zeg1 {H:AH}[hn:HN H]{b mb:Nat}{s:Ms}{v lv:AV}{o:Od}{ov bv:AV}(h:MdR H b mb s v lv) (hd:Bd s.t) (hrs:∀r,r∈s.t.rs-> -1000000<=r.rs/\r.rs<=1000000) :
  FnE lookM 201 [odA o ov bv,.ptr b 0] H fun r H'=>RpR H' r ⟨0, [zqk s o.nm], []⟩ H.next/\HX H H':=by
 refine fJ Tryz.f201 o201 ?_;have hlo:=hn.lo;have hlt:=h.lt;have hb:=h.box;have e0:=hEq_f (oM:b≠H.next)
 have e1:=hEq_f (oM:b≠H.next+1)
 have e01:=hEq_f (oM:H.next≠H.next+1)
 have hl:∀H',fstO (zda .len lookM [49] [v] H')=some (.int .i64 s.t.rs.length):=fun H'=>by have:=ztc (H':=H') uRs h.sl.is;rwa [zoc] at this
 have hlen:=hd.len;have F:=J8 @zke @zdb @hb @md_1 @e0 @e1 @e01 @hl;refine uT ?_;refine rc_j o201 (fun n T H'=> ∃q c,n+q=s.t.rs.length/\HX H H'/\H.next+2<=H'.next/\c=(s.t.rs.take q).foldl (shS s o.nm) 0/\0<=c/\c<=1000000*(q:Int) /\
  H'.get H.next=some (.cells (.lst (odL o ov bv)) 108 7 false false)/\H'.get (H.next+1)=some (rpx 0 .nilSl .nilSl) /\
  gT T 1= .ptr b 0/\gT T 2= .ptr H.next 0/\gT T 4= .ptr (H.next+1) 0/\gT T 5= .int .i64 c/\gT T 12=v/\gT T 13= .int .i64 s.t.rs.length/\gT T 14= .int .i64 q) s.t.rs.length ?_ ?_
 ·exact ⟨0,0,rfl,hxt,qn _,by simp,oM,by simp,by rw [zah _ (oM:H.next≠H.next+1),zaa],zaa _,vT0,vT0,vT0,vT0,vT0,vT0,wT0⟩
 rintro n T H1 ⟨q,c,hnq,hx1,hn1,hc,hc0,hcq,g0,g1,t1,t2,t4,t5,t12,t13,t14⟩;haveI:=hx1.hn;have hlo1:H1.lo=H.lo:=hx1.lo;cases n with
 |zero =>
  have hq:q=s.t.rs.length:=oM
  rw [hq,qp5,← zpu] at hc;have d1:decide ((q:Int)<(s.t.rs.length:Int))=false:=qq oM
  have e12:=hEq_f (oM:H.next+1≠H1.next)
  have F:=J16 @t1 @t2 @t4 @t5 @t12 @t13 @t14 @d1 @one_q @zcg1 @zdb @g1 @e12 @rp_wN @zlb @ld3;refine uT ?_;refine ⟨⟨_,_,rfl,?_,OwnS.nil _ _ _ _,fun j hj=>⟨zga oM,zfa _⟩⟩,by have K:=hx1;exact hxk⟩
  rw [← hc];have hr:Row ((H1.new (.cells (.lst [.int .i64 c]) 3 1 false false)).put (H.next+1) (rpx 0 (.sl H1.next 0 1 1 false) .nilSl)) H1.next false false 3 1 [.int .i64 c] :=
   ⟨.lst [.int .i64 c],by rw [zyb _ oM];exact zaa _,rfl⟩
  exact hr.slZ (n:=1) (c:=1) (op':=false) (by show H1.next<H1.next+1;omega) rfl
 |succ n =>
  have hq:q<s.t.rs.length:=oM
  have h1:=h.hx hx1;have hix:=ix44 (z:=44) (q:=q) h1.sl.is (by rw [zoc];exact hq)
  have hld:=h1.sl.agg (nl_at hq);have d1:decide ((q:Int)<(s.t.rs.length:Int))=true:=qk oM
  have hone:=zbc (AV.nilSl,get s.t.rs q) rfl;have hxr:=hrs _ (zuk hq);have hst:=shS_le s o.nm hxr.2 c;have hb1:=h1.box;have hu64:usedB (s.b (get s.t.rs q).id)<=64:=zjd _ 64 0;have e0':=hEq_f (oM:H.next≠H1.next)
  have eb':=hEq_f (oM:b≠H1.next)
  have hc':shS s o.nm c (get s.t.rs q)=(s.t.rs.take (q+1)).foldl (shS s o.nm) 0:=by
   rw [qc4,get_lt hq,qj3,List.foldl_append,← hc];rfl
  unfold shS at hc' hst;cases a1:decide ((get s.t.rs q).kd=1) with
  |false =>
   have n1:=qh a1;rw [qd (fun x=>n1 x.1)] at hc'
   have F:=J13 @t1 @t2 @t4 @t5 @t12 @t13 @t14 @d1 @hix @hld @zpa @rc_n2 @a1;refine uT ?_;exact ⟨n,oM,q+1,c,oM,by have K:=hx1;exact hxk,oM,hc',hc0,by push_cast;omega,g0,g1,rfl,by push_cast;rfl⟩
  |true =>
  have y1:=qg a1;cases a2:decide ((get s.t.rs q).nm=o.nm) with
  |true =>
   have y2:=qg a2;rw [qd (fun x=>x.2 y2)] at hc'
   have F:=J16 @t1 @t2 @t4 @t5 @t12 @t13 @t14 @d1 @hix @hld @zpa @rc_n2 @rc_1 @a1 @e0' (J4 @g0 @od_1 @ztd @a2);refine uT ?_;exact ⟨n,oM,q+1,c,oM,by have K:=hx1;exact hxk,oM,hc',hc0,by push_cast;omega,g1,rfl,by push_cast;rfl⟩
  |false =>
   have y2:=qh a2;rw [qi ⟨y1,y2⟩] at hc' hst;have hlk:∀(bk bk':ABlk) (k:Int),zob lookM 61 (.map mb) (.int .i64 k) false ((H1.new bk).put H1.next bk')=some (bkA (s.b k)):=fun bk bk' k=>((h.hx (hx1.putN bk bk')).mp).at k
   have F:=J16 @t1 @t2 @t4 @t5 @t12 @t13 @t14 @d1 @hix @hld @zpa @rc_n0 @rc_n2 @rc_n43 @rc_1 (J10 @a1 @e0' @eb' @hb1 @md_7 @g0 @od_1 @ztd @a2 @hlk);refine uT ?_;refine rk_at (fun H2=>HX H1 H2/\H1.next+1<=H2.next/\H2.get H1.next=some (.cells (.lst (rcL (.nilSl,get s.t.rs q))) 84 44 false false)) ?_ ?_
   ·exact ⟨hxt,qn _,zia _ _⟩
   rintro H2 ⟨hx2,hn2,g2⟩;have hx02:=hx1.trans hx2;haveI:=hx02.hn;refine rk_cw (js:= [H1.next]) (R:=fun r H'=>r= .int .i64 (usedB (s.b (get s.t.rs q).id):Nat)/\HX H2 H') ?_ ?_ ?_
   ·rw [zwc]
    refine zka (o:=43) ?_ zeb<;>(exact vT0)
   ·refine uT0 ?_
    exact znu (h.mp.ok _)
   rintro r3 H3 ⟨rfl,hx3⟩;refine ⟨zhb hx3 _ fun i hi=> ?_,?_⟩
   ·simp only [qx1] at hi
    subst hi;exact ⟨oM,_,_,_,_,_,g2⟩
   have hx13:=hx2.trans hx3;have g0:=(hx13.get (i:=H.next) oM).trans g0
   have g1:=(hx13.get (i:=H.next+1) oM).trans g1
   have em:(if (get s.t.rs q).rs - (usedB (s.b (get s.t.rs q).id):Int)<0 then (0:Int) else (get s.t.rs q).rs - (usedB (s.b (get s.t.rs q).id):Int))=max ((get s.t.rs q).rs - (usedB (s.b (get s.t.rs q).id):Int)) 0:=by
    split<;>omega
   have F:=J9 @zvd @t1 @t2 @t4 @t5 @t12 @t13 @t14 @em;refine uT ?_;exact ⟨n,oM,q+1,_,oM,hx1.trans hx13,by have:=hx13.next;omega,hc',oM,by push_cast;omega,g0,g1,rfl,by push_cast;rfl⟩
theorem cp_bu (nn:Int) (v lv:AV) (mb:Nat):zsa lookM 63 (zipF [0,1] [tbA nn v lv,.map mb])=some (.agg (mdL nn v lv mb)):=kR
theorem cp_toC (nn:Int) (v lv:AV) (mb:Nat):AV.toC (.agg (mdL nn v lv mb))= .lst (mdL nn v lv mb):=rfl
theorem mk_q (H:AH):zxv H=some (.map H.next,H.new (.map [] 0)):=zzi (.map [] 0) (fun m H'=>some (.map m,H')) H
theorem mp0 {H:AH}[hn:HN H]:MpR (H.new (.map [] 0)) H.next fun _=>zeroB :=
 ⟨qd1 _, [],0, [],zaa _,rfl,List.nodup_nil,fun k=>⟨by show AV.bag 16384 0= .bag 16384 (Nb zeroB);rw [zdm],zeroB_ok⟩⟩
theorem mnew_ok {H:AH}[hn:HN H]:FnE lookM 5 [] H fun r H'=>(∃b mb v lv,r= .ptr b 0/\H.next<=b/\H.next<=mb/\MdR H' b mb M0 v lv)/\HX H H':=by
 refine fI Tryz.f5 ?_;have hlo:=hn.lo;refine uT0 ?_;refine cR_f zyu ?_;rintro r1 H1 ⟨lv,rfl,hl1,hx1⟩;haveI:=hx1.hn;have hn1:=hx1.next;have hlo1:H1.lo<=H1.next:=HN.lo;have o2:=zbb (nn:=1) (v:=.nilSl) (lv:=lv) rfl hl1.one.1;have F:=J7 @zba @zcb @zha @zea @mk_q @cp_bu @cp_toC;refine uT ?_;have hx2:HX H1 (((H1.new (tbx 0 .nilSl .nilSl)).put H1.next (tbx 1 .nilSl lv))):=hxt;haveI:=hx2.hn;have hx3:HX (((H1.new (tbx 0 .nilSl .nilSl)).put H1.next (tbx 1 .nilSl lv))) (((H1.new (tbx 0 .nilSl .nilSl)).put H1.next (tbx 1 .nilSl lv)).new (.map [] 0)):=HX.new _ _;have hm:=mp0 (H:=(H1.new (tbx 0 .nilSl .nilSl)).put H1.next (tbx 1 .nilSl lv))
 haveI:=hx3.hn;have hx4:HX (((H1.new (tbx 0 .nilSl .nilSl)).put H1.next (tbx 1 .nilSl lv)).new (.map [] 0)) ((((H1.new (tbx 0 .nilSl .nilSl)).put H1.next (tbx 1 .nilSl lv)).new (.map [] 0)).new (mdx 1 .nilSl lv (H1.next+1))):=HX.new _ _;have hxx:=(hx2.trans hx3).trans hx4;exact ⟨⟨H1.next+2,H1.next+1,.nilSl,lv,rfl,oM,oM,⟨qd1 _,zaa _,.inl ⟨rfl,rfl⟩,hl1.hx hxx,hm.hp (hx4.hp fun _=>True) trivial⟩⟩,hx1.trans hxx⟩
def kindA (o:Od) (lv bv:AV):AV:=if o.op<=8 then .ifc 107 (odA o lv bv) else if o.op=16 then .ifc 108 (odA o lv bv) else if 12<=o.op/\o.op<=15 then .ifc 74 (odA o lv bv) else .nilIfc
theorem kb1 (o:Od) (lv bv:AV):zsa lookM 107 (zipF [0] [odA o lv bv])=some (odA o lv bv):=kR
theorem kb2 (o:Od) (lv bv:AV):zsa lookM 108 (zipF [0] [odA o lv bv])=some (odA o lv bv):=kR
theorem kb3 (o:Od) (lv bv:AV):zsa lookM 74 (zipF [0] [odA o lv bv])=some (odA o lv bv):=kR
theorem ki1 (o:Od) (lv bv:AV):zva lookM 107 (odA o lv bv)=some (.ifc 107 (odA o lv bv)):=kR
theorem ki2 (o:Od) (lv bv:AV):zva lookM 108 (odA o lv bv)=some (.ifc 108 (odA o lv bv)):=kR
theorem ki3 (o:Od) (lv bv:AV):zva lookM 74 (odA o lv bv)=some (.ifc 74 (odA o lv bv)):=kR
theorem kind_ok {H:AH}[hn:HN H]{o:Od}{lv bv:AV}:FnE lookM 29 [odA o lv bv] H fun r H'=>r=kindA o lv bv/\HX H H':=by
 refine fI Tryz.f29 ?_;have hlo:=hn.lo;have hx:HX H (H.new (odx o lv bv)):=HX.new _ _;unfold kindA;have F:=J2 @zke @od_0;refine uT ?_;cases a1:decide (o.op<=8) with
 |true =>
  rw [qi (qg a1)];have F:=J3 @zuf @kb1 @ki1;refine uT ?_;exact hx
 |false =>
 rw [qd (qh a1)];have F:=@od_0;refine uT ?_;cases a2:decide (o.op=16) with
 |true =>
  rw [qi (qg a2)];have F:=J3 @zuf @kb2 @ki2;refine uT ?_;exact hx
 |false =>
 rw [qd (qh a2)];have F:=@od_0;refine uT ?_;cases a3:decide (12<=o.op) with
 |false =>
  rw [qd (fun x=>qh a3 x.1)]
  refine uT0 ?_;exact hx
 |true =>
 have F:=@od_0;refine uT ?_;cases a4:decide (o.op<=15) with
 |false =>
  rw [qd (fun x=>qh a4 x.2)]
  refine uT0 ?_;exact hx
 |true =>
 rw [qi ⟨qg a3,qg a4⟩];have F:=J3 @zuf @kb3 @ki3;refine uT ?_;exact hx
theorem rc_n3 (p:AV×Rc):nth (rcL p) 3=some (.int .i64 p.2.sz):=rfl
theorem zfg1 (p:AV×Rc):nth (rcL p) 42=some (.int .i64 p.2.qu):=rfl
abbrev u8L (l:List Nat):List AV:=l.map fun x:Nat=>AV.int .u8 (.ofNat x)
theorem sl89 (i o:Nat):zua lookM 89 false false false [.ptr i o]=some (.sl i o 256 256 false):=kR
theorem zap1 (l:List Nat):(u8L l).all AV.oneCell=true:=qb1.2 fun y hy=>by obtain ⟨x,_,rfl⟩:=qy2.1 hy;rfl
theorem bk_row {H:AH}{j e z:Nat}{op:Bool}{b:Bk}(h:BkOk b) (hg:H.get j=some (.cells (bkC b) e z op false)):Row H j false op e z (u8L b):=by
 refine ⟨bkC b,hg,?_⟩;have:=byC_l h.byt;unfold byC at this
 rwa [h.len] at this
theorem bk_sl {H:AH}{j e z:Nat}{op:Bool}{b:Bk}(h:BkOk b) (hj:j<H.next) (hg:H.get j=some (.cells (bkC b) e z op false)){k:Nat}(hk:k<64):SlZ H (.sl j (k*256) 256 256 false) 256 1 (u8L (atB b k)):=by
 refine ⟨by rw [qm3,zhb1 h.len hk],.inr ⟨j,k*256,256,false,false,op,e,z,u8L b,rfl,hj,bk_row h hg,by rw [qm3,h.len];omega,?_⟩⟩
 unfold atB u8L;rw [qk5,ql5,qx3 256 k,qs3]
theorem zuj1 (b:Bk) (i j:Nat):someB b i (j+1)=someB b i j ++ atB b (i+j):=by
 unfold someB atB;rw [show 256*(j+1)=256*j+256 from oM,qt7,qq3,show 256*(i+j)=256*i+256*j from oM]
theorem zdo {b:Bk}(h:b.length=16384){i j:Nat}(hj:i+j<=64):(someB b i j).length=256*j:=by
 unfold someB;rw [qa1,qb2];omega
theorem zvj1 {H:AH}[hn:HN H]{b mb:Nat}{s:Ms}{v lv:AV}{x:Rc}{i n:Nat}(h:MdR H b mb s v lv) (hi:i+n<=64) :
  FnE lookM 47 [.ptr b 0,.agg (rcL (.nilSl,x)),.int .i64 i,.int .i64 n] H fun r H'=>OwnS H' r (256*n) 5 1 (u8L (someB (s.b x.id) i n)) H.next/\HX H H':=by
 refine fJ Tryz.f47 o47 ?_;have hlo:=hn.lo;have hlt:=h.lt;have hb:=h.box;have e0:=hEq_f (oM:b≠H.next)
 have hlk:∀bk k,zob lookM 61 (.map mb) (.int .i64 k) false (H.new bk)=some (bkA (s.b k)):=fun bk k=>((h.hx (HX.new H bk)).mp).at k
 have hbo:=h.mp.ok x.id;have hw:=fun i e op H=>wbk0 i e op H hbo
 have F:=J11 @zpa @hb @md_7 @e0 @rc_n0 @hlk @zrk @zsk @z100 @zdd @hw;refine uT ?_;generalize s.b x.id=B at *
 refine rc_j o47 (fun m T H'=> ∃j out,m+j=n/\HX H H'/\H.next+2<=H'.next/\H'.get (H.next+1)=some (.cells (bkC B) 100 16384 false false) /\
  OwnS H' out (256*j) 5 1 (u8L (someB B i j)) (H.next+2)/\gT T 2= .int .i64 i/\gT T 9=out/\gT T 10= .ptr (H.next+1) 0/\gT T 19= .int .i64 n/\gT T 20= .int .i64 j) n ?_ ?_
 ·refine ⟨0,.nilSl,rfl,hxt,qn _,zia _ _,?_,vT0,vT0,vT0,vT0,wT0⟩
  have:someB B i 0= []:=by unfold someB;rw [Nat.mul_zero,qo5]
  rw [this];exact OwnS.nil _ _ _ _
 rintro m T H1 ⟨j,out,hmj,hx1,hn1,g1,ho,t2,t9,t10,t19,t20⟩;haveI:=hx1.hn;have hlo1:H1.lo=H.lo:=hx1.lo;cases m with
 |zero =>
  have hj:j=n:=oM
  rw [hj] at ho;have d1:decide ((j:Int)<(n:Int))=false:=qq oM
  have F:=J6 @t2 @t9 @t10 @t19 @t20 @d1;refine uT ?_;exact ⟨OwnS.le ho oM,hx1⟩
 |succ m =>
  have d1:decide ((j:Int)<(n:Int))=true:=qk oM
  have hix:=ixA_n (n:=64) (z:=256) (i:=H.next+1) (o:=0) (k:=i+j) oM
  have hcast:((i:Int)+(j:Int))=((i+j:Nat):Int):=by push_cast;rfl
  have hsl:=bk_sl hbo oM g1 (k:=i+j) oM
  obtain ⟨out2,H2,a1,ho2,hp2,hn2,hne2⟩:=OwnS.app (b:=1) ho hsl (zap1 _) oM oM oM oM
  have F:=J11 @t2 @t9 @t10 @t19 @t20 @d1 @hcast @hix @zpk @sl89 @a1;refine uT ?_;have hnb:blkNe out (H.next+1):=by
   rcases ho.2 with ⟨rfl,_⟩|⟨q,op,rfl,_,hq,_⟩
   ·exact zfa _
   ·exact zga oM
  have g2:=(hp2.get (i:=H.next+1) oM hnb).trans g1
  refine ⟨m,oM,j+1,out2,oM,HX.hp2 hx1 hp2 fun q hq=> ?_,by have:=hp2.next;omega,g2,?_,rfl,by push_cast;rfl⟩
  ·rcases ho.2 with ⟨rfl,_⟩|⟨q2,op,rfl,_,hq2,_⟩
   ·exact zfa _
   ·exact zga oM
  ·rw [zuj1,show u8L (someB B i j ++ atB B (i+j))=u8L (someB B i j) ++ u8L (atB B (i+j)) from qe3,show 256*(j+1)=256*j+256 from oM]
   exact ho2
def orL (o:Od) (ov bv:AV) (x:Rc):List AV:=odL o ov bv ++ rcL (.nilSl,x)
abbrev orx (e:Nat) (o:Od) (ov bv:AV) (x:Rc):ABlk:=.cells (.lst (orL o ov bv x)) e 51 false false
theorem zgg1 (o:Od) (ov bv:AV) (x:Rc):AV.toC (.agg (orL o ov bv x))= .lst (orL o ov bv x):=rfl
theorem or_0 (o:Od) (ov bv:AV) (x:Rc):nth (orL o ov bv x) 0=some (.int .i64 o.op):=rfl
theorem or_3 (o:Od) (ov bv:AV) (x:Rc):nth (orL o ov bv x) 3=some (.int .i64 o.n):=rfl
theorem or_4 (o:Od) (ov bv:AV) (x:Rc):nth (orL o ov bv x) 4=some (.int .i64 o.m):=rfl
theorem or_6 (o:Od) (ov bv:AV) (x:Rc):nth (orL o ov bv x) 6=some bv:=rfl
theorem or_7 (o:Od) (ov bv:AV) (x:Rc):nth (orL o ov bv x) 7=some (.int .i64 x.id):=rfl
theorem or_9 (o:Od) (ov bv:AV) (x:Rc):nth (orL o ov bv x) 9=some (.int .i64 x.kd):=rfl
theorem or_10 (o:Od) (ov bv:AV) (x:Rc):nth (orL o ov bv x) 10=some (.int .i64 x.sz):=rfl
theorem or_49 (o:Od) (ov bv:AV) (x:Rc):nth (orL o ov bv x) 49=some (.int .i64 x.qu):=rfl
theorem or_x (o:Od) (ov bv:AV) (x:Rc) (e z:Nat) (op ro:Bool):sbB (some (.cells (.lst (orL o ov bv x)) e z op ro)) 7 44=some (.agg (rcL (.nilSl,x))):=by
 rw [sbB_l];rfl
theorem or_bu (o:Od) (ov bv:AV) (x:Rc):zsa lookM 110 (zipF [0,1] [odA o ov bv,.agg (rcL (.nilSl,x))])=some (.agg (orL o ov bv x)):=kR
theorem or_buW (o:Od) (ov bv:AV) (x:Rc):zsa lookM 113 (zipF [0,1] [odA o ov bv,.agg (rcL (.nilSl,x))])=some (.agg (orL o ov bv x)):=kR
theorem rp_buB (v:AV) (h:v= .nilSl\/ ∃i n op,v= .sl i 0 n n op):zsa lookM 37 (zipF [2] [v])=some (rpA 0 .nilSl v):=by
 rcases h with rfl|⟨i,n,op,rfl⟩<;>kernel_rfl
def readM (s:Ms) (o:Od) (x:Rc):Rp:=if o.n>x.sz\/o.m>x.sz - o.n then er 5 else ⟨0, [],someB (s.b x.id) o.n.toNat o.m.toNat⟩
theorem zbp1 {H:AH}[hn:HN H]{b mb:Nat}{s:Ms}{v lv:AV}{o:Od}{ov bv:AV}{x:Rc}(h:MdR H b mb s v lv) (hsz:1<=x.sz/\x.sz<=64) (hon:0<=o.n/\o.n<=maxN) (hom:0<=o.m/\o.m<=maxN) :
  FnE lookM 56 [.agg (orL o ov bv x),.ptr b 0] H fun r H'=>RpR H' r (readM s o x) H.next/\HX H H':=by
 refine fI Tryz.f56 ?_;have hlo:=hn.lo;have hlt:=h.lt;have hb:=h.box;have e01:=hEq_f (oM:H.next≠H.next+1)
 unfold maxN at hon hom;unfold readM;cases a1:decide (x.sz<o.n) with
 |true =>
  have y1:=qg a1;rw [qi (.inl y1)];have F:=J10 @zgg1 @zdb @e01 @or_3 @or_10 @a1 @rp_bu @rp_w0 @zlb @ld3;refine uT ?_;exact ⟨RpR.err,hxt⟩
 |false =>
  have y1:=qh a1;cases a2:decide (x.sz - o.n<o.m) with
  |true =>
   have y2:=qg a2;rw [qi (.inr y2)];have F:=J12 @zgg1 @zdb @e01 @or_3 @or_4 @or_10 @a1 @a2 @rp_bu @rp_w0 @zlb @ld3;refine uT ?_;exact ⟨RpR.err,hxt⟩
  |false =>
   have y2:=qh a2;rw [qd (by rintro (k|k)<;>omega)]
   have F:=J9 @zgg1 @zdb @e01 @or_3 @or_4 @or_10 @or_x @a1 @a2;refine uT ?_;refine cR_at (fun H1=>HX H H1/\H1.next=H.next+2/\H1.get (H.next+1)=some (rpx 0 .nilSl .nilSl)) ?_ ?_
   ·exact ⟨hxt,rfl,zaa _⟩
   rintro H1 ⟨hx1,hn1,g1⟩;haveI:=hx1.hn;obtain ⟨i,hi⟩:∃i:Nat,o.n=(i:Int):=⟨o.n.toNat,oM⟩
   obtain ⟨m,hm⟩:∃m:Nat,o.m=(m:Int):=⟨o.m.toNat,oM⟩
   rw [hi,hm,qc2,qc2];refine cR_f (zvj1 (h.hx hx1) (i:=i) (n:=m) oM) ?_
   rintro r2 H2 ⟨ho2,hx2⟩;have hx02:=hx1.trans hx2;have g1:=(hx2.get (i:=H.next+1) oM).trans g1
   haveI:=hx02.hn;have hlo2:H2.lo=H.lo:=hx02.lo;have hbu:=rp_buB r2 (by rcases ho2.2 with ⟨h0,_⟩|⟨j,op,h0,_⟩;exact .inl h0;exact .inr ⟨j,_,op,h0⟩)
   have hone:=(OwnS.one ho2).1;have hw:∀e2 H3,wrN (some (.cells (.lst (rpL 0 .nilSl .nilSl)) e2 3 false false)) (H.next+1) 0 3 (.lst (rpL 0 .nilSl r2)) H3=some (H3.put (H.next+1) (.cells (.lst (rpL 0 .nilSl r2)) e2 3 false false)):=fun e2 H3=>rp_w 0 0 .nilSl .nilSl .nilSl r2 (H.next+1) e2 false H3 rfl hone
   have F:=J6 @hbu @zdb @g1 @hw @zlb @ld3;refine uT ?_;have hlen:(someB (s.b x.id) i m).length=256*m:=zdo (h.mp.ok x.id).len oM
   refine ⟨⟨_,_,rfl,zrp _ 1,?_,fun j hj=>⟨zfa _,by
    rcases ho2.2 with ⟨h0,_⟩|⟨j2,op2,h0,_,hj2,_⟩
    ·rw [h0];exact zfa _
    ·rw [h0];exact zga oM⟩⟩,HX.put hx02 oM _⟩
   have hz:=(OwnS.le (M:=H.next) ho2 oM).hq (HP.put H2 (H.next+1) (rpx 0 .nilSl r2)) (p:=(·≠ H.next+1)) fun j o n c op hj=>by
    rcases ho2.2 with ⟨h0,_⟩|⟨j2,op2,h0,_,hj2,_⟩
    ·rw [h0] at hj;cases hj
    ·rw [h0] at hj;cases hj;omega
   have he:(⟨0, [],someB (s.b x.id) i m⟩:Rp).b.length=256*m:=hlen;rw [he];exact hz
theorem u30:lookM.under 30=some (.slice 5):=kR
theorem s5:lookM.size 5=some 1:=kR
def ByS (H:AH) (v:AV) (l:List Nat):Prop:=(l= []/\LenV v 0/\ ∀j,H.next<=j->blkNe v j)\/ ∃j o c op full e z op' ro,v= .sl j o l.length c op/\j<H.next/\H.get j=some (.cells (byC full) e z op' ro)/\Byt full/\o+l.length<=full.length/\(full.drop o).take l.length=l/\l.length<=c
theorem ByS.byt {H:AH}{v:AV}{l:List Nat}(h:ByS H v l):Byt l:=by
 rcases h with ⟨rfl,_⟩|⟨j,o,c,op,full,e,z,op',ro,_,_,_,hf,_,hl,_⟩
 ·exact fun x hx=>by cases hx
 ·rw [← hl];exact (hf.drop _).take _
theorem ByS.len {H:AH}{v:AV}{l:List Nat}(h:ByS H v l):LenV v l.length:=by
 rcases h with ⟨rfl,h,_⟩|⟨j,o,c,op,full,e,z,op',ro,rfl,hj,hg,hf,ho,hl,_⟩
 ·exact h
 ·have hr:Row H j ro op' e z (u8L full):=⟨byC full,hg,byC_l hf⟩
  exact zbm (hr.isSl hj (by rw [qm3];omega))
theorem ByS.hx {H H':AH}{v:AV}{l:List Nat}(h:ByS H v l) (hx:HX H H'):ByS H' v l:=by
 rcases h with ⟨h1,h2,h3⟩|⟨j,o,c,op,full,e,z,op',ro,h1,hj,hg,h2⟩
 ·exact .inl ⟨h1,h2,fun j hj=>h3 j (qx2 hx.next hj)⟩
 ·exact .inr ⟨j,o,c,op,full,e,z,op',ro,h1,qz hj hx.next,(hx.get hj).trans hg,h2⟩
theorem copyB {H:AH}{b:Bk}(hb:BkOk b){k nb e z:Nat}{op:Bool}(hk:k<64) (hg:H.get nb=some (.cells (bkC b) e z op false)) (hlo:H.lo<=nb){j o c:Nat}{op2:Bool}{full:List Nat}{e' z':Nat}{op' ro:Bool}
  (hj:H.get j=some (.cells (byC full) e' z' op' ro)) (hf:Byt full) (ho:o+256<=full.length) :
  zda .copy lookM [30,30] [.sl nb (k*256) 256 256 false,.sl j o 256 c op2] H=some (.int .i64 256,H.put nb (.cells (bkC (putB b (256*k) ((full.drop o).take 256))) e z op false)):=by
 have hl:((full.drop o).take 256).length=256:=by rw [qa1,qb2];omega
 have h1:=sub_b hf ho;have h2:=over_b hb.byt ((hf.drop o).take 256) (o:=k*256) (by rw [hl,hb.len];omega)
 unfold byC at h2;rw [hl,hb.len] at h2;show zgo lookM 30 (.sl nb (k*256) 256 256 false) (.sl j o 256 c op2) H=_
 unfold zgo;rw [u30];simp only [s5];have h3:zib 1 (.sl j o 256 c op2) (minN 256 256) H=some (.byt 256 (Nb ((full.drop o).take 256))):=by
  show AH.subC H j o 256=_
  unfold AH.subC;rw [hj];exact h1
 have h4:H.writeC nb (k*256) (.byt 256 (Nb ((full.drop o).take 256)))=some (H.put nb (.cells (bkC (putB b (256*k) ((full.drop o).take 256))) e z op false)):=by
  unfold AH.writeC;rw [show Nat.ble H.lo nb=true from qe hlo,hg]
  unfold bkC;simp only [h2];unfold putB;rw [hl,qx3 256 k];rfl
 simp only [show lenOf (.sl j o 256 c op2)=some 256 from rfl,h3,h4]
 rfl
theorem slb_lo {i n c o j:Nat}{op:Bool}(h:i<c) (hi:i<=n) (hn:n<=c):zua lookM 30 true false false [.sl j o n c op,.int .i64 (i:Int)]=some (.sl j (o+i) (n - i) (c - i) op):=by
 show zgb lookM 30 (.sl j o n c op) (some (.int .i64 (i:Int))) none none=_
 unfold zgb;rw [u30];show (match lookM.size 5 with|none=>none|some z=>(match some n with
    |none=>none
    |some h=>match Nat.ble i h && Nat.ble h c with
      |true=>(match op with
       |false=>some (AV.sl j (offOf c i o z) (h - i) (c - i) false)
       |true=>match Nat.beq c i with
        |true=>(match Nat.beq o 0 with|true=>some (.ext 1 j (c*z+1))|false=>none)
        |false=>some (.sl j (o+i*z) (h - i) (c - i) true))
      |false=>none))=_
 rw [s5];have e1:Nat.beq c i=false:=by rw [qf3];intro h';have:=qf h';omega
 simp only;rw [show Nat.ble i n=true from qe hi,show Nat.ble n c=true from qe hn]
 unfold offOf;simp only [qr2,e1,qs3];cases op<;>rfl
theorem slb_3 {i k n c o j:Nat}{op:Bool}(h:i<k) (hk:k<=c):zua lookM 30 true true true [.sl j o n c op,.int .i64 (i:Int),.int .i64 (k:Int),.int .i64 (k:Int)]=some (.sl j (o+i) (k - i) (k - i) false):=by
 show zgb lookM 30 (.sl j o n c op) (some (.int .i64 (i:Int))) (some (.int .i64 (k:Int))) (some (.int .i64 (k:Int)))=_
 unfold zgb;rw [u30];show (match lookM.size 5 with|none=>none|some z=>(match some k with
    |none=>none
    |some h=>(match some k with
      |none=>none
      |some m=>match Nat.ble i h && Nat.ble h m && Nat.ble m c with
       |true=>some (AV.sl j (offOf m i o z) (h - i) (m - i) false)
       |false=>none)))=_
 rw [s5];have e1:Nat.beq k i=false:=by rw [qf3];intro h';have:=qf h';omega
 simp only;rw [show Nat.ble i k=true from qe oM,show Nat.ble k k=true from qe (qn _),show Nat.ble k c=true from qe hk]
 unfold offOf;simp only [qr2,e1,qs3]
structure WrS (H:AH) (l nb ib:Nat) (T0:Tr AV) (B:Bk) (k:Nat):Prop where
 t8:gT T0 8= .ptr nb 0
 t9:gT T0 9= .ptr ib 0
 lp:H.get l=some (.loop .ready none T0 0 [64] f58b0 f58b1)
 nb:H.get nb=some (.cells (bkC B) 100 16384 false false)
 ib:H.get ib=some (.cells (.lst [.int .i64 (k:Nat)]) 3 1 false false)
theorem isp_one (d:Tmp) (v:AV) (T:Tr AV):zic [(d,v)] T=T.set d v:=rfl
theorem zuq {H:AH}[hn:HN H]{l nb ib:Nat}{T0:Tr AV}{B:Bk}{k:Nat}(hw:WrS H l nb ib T0 B k) (hB:BkOk B) (hk:k<64) (hlo:H.lo<=l) (hlo2:H.lo<=nb) (hlo3:H.lo<=ib) (hln:l<H.next) (hnn:nb<H.next) (hin:ib<H.next)
  {j o c:Nat}{op2:Bool}{full:List Nat}{e' z':Nat}{op' ro:Bool}(hjl:j<H.next) (hj:H.get j=some (.cells (byC full) e' z' op' ro)) (hf:Byt full) (ho:o+256<=full.length) (hjn:j≠nb) (hji:j≠ib) :
  RdE lookM l [.sl j o 256 c op2] H fun r H'=>r= .bool true/\WrS H' l nb ib T0 (putB B (256*k) ((full.drop o).take 256)) (k+1)/\HP (fun i=>i≠nb/\i≠ib/\i≠l) H H'/\H'.next=H.next:=by
 refine rd_n hlo hw.lp rfl zwo1 zxo1 ?_;have hlb:l≠nb:=fun e=>by have h1:=hw.lp;rw [e,hw.nb] at h1;cases h1
 have hli:l≠ib:=fun e=>by have h1:=hw.lp;rw [e,hw.ib] at h1;cases h1
 have hlj:l≠j:=fun e=>by have h1:=hw.lp;rw [e,hj] at h1;cases h1
 have hni:nb≠ib:=fun e=>by
  have h1:=hw.nb;rw [e,hw.ib] at h1
  injection h1 with h1
  injection h1 with _ h1
  exact absurd h1 dC
 have hsp:zic (List.zip [64] [AV.sl j o 256 c op2]) T0=T0.set 64 (.sl j o 256 c op2):=by
  rw [show List.zip [64] [AV.sl j o 256 c op2]= [((64:Nat),AV.sl j o 256 c op2)] from by simp]
  exact isp_one _ _ _
 have h64:gT (zic (List.zip [64] [AV.sl j o 256 c op2]) T0) 64= .sl j o 256 c op2:=by rw [hsp,zfw,qi rfl]
 have h8:gT (zic (List.zip [64] [AV.sl j o 256 c op2]) T0) 8= .ptr nb 0:=by rw [hsp,zfw,qd dC];exact hw.t8
 have h9:gT (zic (List.zip [64] [AV.sl j o 256 c op2]) T0) 9= .ptr ib 0:=by rw [hsp,zfw,qd dC];exact hw.t9
 generalize zic (List.zip [64] [AV.sl j o 256 c op2]) T0=T1 at *
 unfold f58l0;have F:=@h64;refine uT ?_;refine ⟨T0,0, [64],f58b0,f58b1,hw.lp,?_⟩;have hpB:HP (·≠ l) H (H.put l (.loop .busy none T0 0 [64] f58b0 f58b1)):=HP.put _ _ _;have gl:(H.put l (.loop .busy none T0 0 [64] f58b0 f58b1)).get l=some (.loop .busy none T0 0 [64] f58b0 f58b1):=zia _ _;have hnB:(H.put l (.loop .busy none T0 0 [64] f58b0 f58b1)).next=H.next:=rfl;generalize H.put l (.loop .busy none T0 0 [64] f58b0 f58b1)=HB at *
 haveI:=hpB.hn;have hloB:HB.lo=H.lo:=hpB.lo;have gn:=(hpB.get (i:=nb) oM (fun h=>hlb h.symm)).trans hw.nb
 have gi:=(hpB.get (i:=ib) oM (fun h=>hli h.symm)).trans hw.ib
 have gj:=(hpB.get (i:=j) oM (fun h=>hlj h.symm)).trans hj
 have hcp:=copyB hB hk gn oM (c:=c) (op2:=op2) gj hf ho
 have hix:=ixA_n (n:=64) (z:=256) (i:=nb) (o:=0) (k:=k) hk;have ein:=hEq_f (show ib≠nb from fun h=>hni h.symm)
 unfold f58l1;have hst:∀(i o:Nat) (n:Int) (H:AH),H.lo<=i->st1 lookM 3 (.ptr i o) (.int .i64 n) H=wr1 (H.get i) i o (.int .i64 n) H:=fun i o n H h=>st1_w sz3i rfl rfl h
 have F:=J10 @h64 @h8 @h9 @gi @hix @zpk @sl89 @hcp @ein @hst;refine uT ?_;refine ⟨none,T0,0, [64],f58b0,f58b1,?_,?_,?_,?_⟩
 ·exact gl
 ·refine ⟨hw.t8,hw.t9,zia _ _,?_,?_⟩
  ·rw [zyb _ (fun h=>hlb h.symm),zyb _ hni];exact zia _ _
  ·rw [zyb _ (fun h=>hli h.symm),zia];push_cast;rfl
 ·have k1:=hpB.trans (HP.put HB nb (.cells (bkC (putB B (256*k) ((full.drop o).take 256))) 100 16384 false false)) (r:=fun i=>i≠nb/\i≠ib/\i≠l) fun i _ hi=>⟨hi.2.2,hi.1⟩
  have k2:=k1.trans (HP.put _ ib (.cells (.lst [.int .i64 (k+1)]) 3 1 false false)) (r:=fun i=>i≠nb/\i≠ib/\i≠l) fun i _ hi=>⟨hi,hi.2.1⟩
  exact k2.trans (HP.put _ l _) fun i _ hi=>⟨hi,hi.2.2⟩
 ·exact hnB
theorem zlb1 {C:Bk}{a:Nat}{x y:List Nat}(h:a+x.length<=C.length):putB (putB C a x) (a+x.length) y=putB C a (x ++ y):=by
 unfold putB;have e1:(C.take a ++ x).length=a+x.length:=by rw [qr,qa1];omega
 rw [qp7 e1,← qq3,qd6 e1,qq3,qr,qi1 (C.take a) x y,qb6]
theorem cF_rd {l d:Nat}{args:List AV}{k:K2}{s:List Kf}{T:Tr AV}{H:AH}{Q:PostC}{L:Lk}{R:AV->AH->Prop}(hc:RdE L l args H R) (h:∀v H',R v H'->RK L k s (pS d v T) H' Q):cF false (zec (.yld l) args) L H d k s T Q:=by
 unfold cF;exact rk_cr (l:=l) (args:=args) (R:=R) rfl hc h
theorem len_slq {i o n c:Nat}{op:Bool}(H:AH):fstO (zda .len lookM [30] [.sl i o n c op] H)=some (.int .i64 (n:Nat)):=by
 show fstO (match evLen lookM 30 (.sl i o n c op) H with|some v=>some (v,H)|none=>none)=_
 unfold evLen;rw [u30];rfl
theorem zcp1 {H:AH}[hn:HN H]{l nb ib sb zb:Nat}{T0:Tr AV}{C:Bk}{f:Nat}{bv:AV}{bs:List Nat}(hw:WrS H l nb ib T0 C f) (hC:BkOk C) (hb:ByS H bv bs) (hm:bs.length%256=0) (hf:f+bs.length / 256<=64)
  (hsb:H.get sb=some (.cells (.lst [bv]) 30 1 false false)) (hzb:H.get zb=some (.cells (.lst [.int .i64 256]) 3 1 false false)) (hlo:H.lo<=l) (hlo2:H.lo<=nb) (hlo3:H.lo<=ib) (hln:l<H.next) (hnn:nb<H.next) (hin:ib<H.next) (hsn:sb<H.next) (hzn:zb<H.next)
  (hs1:sb≠nb/\sb≠ib/\sb≠l) (hz1:zb≠nb/\zb≠ib/\zb≠l) (hjn:blkNe bv nb/\blkNe bv ib) :
  FnE lookM 89 [.yld l,.ptr sb 0,.ptr zb 0] H fun r H'=>WrS H' l nb ib T0 (putB C (256*f) bs) (f+bs.length / 256)/\HP (fun i=>i≠nb/\i≠ib/\i≠l) H H'/\H'.next=H.next:=by
 refine fI Tryz.f89 ?_;have hlb:=fun H'=>hb.len.1 u30 H'
 refine uT0 ?_;refine rc_l (fun m T H'=> ∃q,m+q=bs.length / 256/\WrS H' l nb ib T0 (putB C (256*f) (bs.take (256*q))) (f+q)/\HP (fun i=>i≠nb/\i≠ib/\i≠l) H H'/\H'.next=H.next /\
  gT T 0= .yld l/\gT T 1= .ptr sb 0/\gT T 2= .ptr zb 0/\gT T 4= .int .i64 ((256*q:Nat):Int)) (bs.length / 256) ?_ ?_
 ·refine ⟨0,rfl,?_,HP.refl _ _,rfl,vT0,vT0,vT0,by refine uT0 ?_;rfl⟩
  have:putB C (256*f) (bs.take (256*0))=C:=by unfold putB;simp
  rw [this];exact hw
 rintro m T H1 ⟨q,hmq,hw1,hp1,hn1,t0,t1,t2,t4⟩;haveI:=hp1.hn;have hlo1:H1.lo=H.lo:=hp1.lo;have gs:=(hp1.get (i:=sb) hsn hs1).trans hsb;have gz:=(hp1.get (i:=zb) hzn hz1).trans hzb;cases m with
 |zero =>
  have hq:q=bs.length / 256:=oM
  have d1:decide (((256*q:Nat):Int)<(bs.length:Int))=false:=qq oM
  have F:=J8 @t0 @t1 @t2 @t4 @gs @gz @hlb @d1;refine uT ?_;rw [qx oM,hq] at hw1
  exact ⟨hw1,hp1,hn1⟩
 |succ m =>
  have hq:q<bs.length / 256:=oM
  rcases hb with ⟨rfl,_⟩|⟨j,o,c,op,full,e,z,op',ro,rfl,hj,hg,hful,ho,hl,hc⟩
  ·simp at hq
  have hjn':j≠nb:=fun e=>hjn.1 o bs.length c op (by rw [e])
  have hji':j≠ib:=fun e=>hjn.2 o bs.length c op (by rw [e])
  have hjl':j≠l:=fun e=>by have h1:=hw.lp;rw [← e,hg] at h1;cases h1
  have g1:=(hp1.get (i:=j) hj ⟨hjn',hji',hjl'⟩).trans hg;have d1:decide (((256*q:Nat):Int)<(bs.length:Int))=true:=qk oM
  have s1:=slb_lo (i:=256*q) (n:=bs.length) (c:=c) (o:=o) (j:=j) (op:=op) oM oM hc
  have s3:=slb_3 (i:=256*q) (k:=256*q+256) (n:=bs.length) (c:=c) (o:=o) (j:=j) (op:=op) oM oM
  have hcast:((256*q:Nat):Int)+256=((256*q+256:Nat):Int):=by push_cast;rfl
  have e256:256*q+256 - 256*q=256:=oM
  rw [e256] at s3;have hB:BkOk (putB C (256*f) (bs.take (256*q))):=zou hC ((ByS.byt (.inr ⟨j,o,c,op,full,e,z,op',ro,rfl,hj,hg,hful,ho,hl,hc⟩)).take _) (by rw [qa1];omega)
  have hrd:=zuq hw1 hB oM oM oM oM oM oM oM (c:=256) (op2:=false) (o:=o+256*q) oM g1 hful oM hjn' hji'
  have em:(if ((bs.length - 256*q:Nat):Int)<256 then ((bs.length - 256*q:Nat):Int) else (256:Int))=256:=by split<;>omega
  have F:=J13 @t0 @t1 @t2 @t4 @gs @gz @hlb @d1 @s1 @len_slq @em @hcast @s3;refine uT ?_;refine cF_rd hrd ?_;rintro v H2 ⟨rfl,hw2,hp2,hn2⟩;have gz2:=(hp2.get (i:=zb) oM hz1).trans gz
  haveI:=hp2.hn;have F:=J6 @t0 @t1 @t2 @t4 @gz2 @hcast;refine uT ?_;have hq1:bs.take (256*(q+1))=bs.take (256*q) ++ (full.drop (o+256*q)).take 256:=by
   rw [show 256*(q+1)=256*q+256 from oM,qt7,← hl]
   congr 1
   rw [qd7,qq3,qh5,qv3 oM]
  have htl:(bs.take (256*q)).length=256*q:=by rw [qa1];omega
  have hq2:putB (putB C (256*f) (bs.take (256*q))) (256*(f+q)) ((full.drop (o+256*q)).take 256)=putB C (256*f) (bs.take (256*(q+1))):=by
   rw [hq1,← zlb1 (by rw [htl,hC.len];omega),htl,qr7]
  rw [hq2] at hw2;exact ⟨m,oM,q+1,oM,hw2,hp1.trans hp2 fun i _ hi=>⟨hi,hi⟩,oM,by rw [qr7]⟩
def DoR (H H':AH) (b mb:Nat) (r:AV) (p:Rp×Ms):Prop:=RpR H' r p.1 H.next/\(∃v lv,MdR H' b mb p.2 v lv)/\HP (fun i=>i≠b/\i≠mb) H H'
theorem DoR.err {H H':AH}{b mb:Nat}{s:Ms}{v lv:AV}{e:Int}(h:MdR H b mb s v lv) (hx:HX H H'):DoR H H' b mb (rpA e .nilSl .nilSl) (er e,s):=⟨RpR.err,⟨v,lv,h.hx hx⟩,hx.hp _⟩
theorem DoR.of {H H':AH}{b mb:Nat}{s:Ms}{v lv r:AV}{p:Rp}(h:MdR H b mb s v lv) (hx:RpR H' r p H.next/\HX H H'):DoR H H' b mb r (p,s):=⟨hx.1,⟨v,lv,h.hx hx.2⟩,hx.2.hp _⟩
theorem ByS.one {H:AH}{v:AV}{l:List Nat}(h:ByS H v l):v.oneCell=true/\v.toC= .lst [v]:=by
 exact h.len.2
theorem ByS.ne {H:AH}{v:AV}{l:List Nat}(h:ByS H v l){i:Nat}(hi:H.next<=i):blkNe v i:=by
 rcases h with ⟨_,_,h⟩|⟨j,o,c,op,full,e,z,op',ro,rfl,hj,_⟩
 ·exact h i hi
 ·exact zga oM
theorem zhg1 {H:AH}[hn:HN H]{bv:AV}(ho:bv.oneCell=true) (ht:bv.toC= .lst [bv]):FnE lookM 75 [bv,.int .i64 256] H fun r H'=>r= .fn (.func 89) [] [.ptr H.next 0,.ptr (H.next+1) 0]/\HX H H'/\H'.next=H.next+2 /\
  H'.get H.next=some (.cells (.lst [bv]) 30 1 false false)/\H'.get (H.next+1)=some (.cells (.lst [.int .i64 256]) 3 1 false false):=by
 refine zuc f75_eq rfl rfl ?_;have hlo:=hn.lo;have e01:=hEq_f (oM:H.next≠H.next+1)
 have F:=J3 f75c.eq_1 @ht @e01;refine uT ?_;clear F;exact hxt
theorem join2 {x:Bool}{G C:Prop}(h0:x=false->C->G) (h1:x=true->C->G) (hc:C):G:=by
 cases x with
 |false=>exact h0 rfl hc
 |true=>exact h1 rfl hc
theorem rcT_at {L:Lk}{c:C2}{H:AH}{s:List Kf}{T:Tr AV}{Q:PostC}(P:Tr AV->AH->Prop) (hp:P T H) (hk:∀T H,P T H->RC L c s T H Q):RC L c s T H Q:=hk T H hp
def toW (o:Od):Int:=if o.op=13 then o.n+((o.b.length / 256:Nat):Int) else o.m
set_option maxHeartbeats 32000000 in
theorem zig1 {H:AH}[hn:HN H]{b mb:Nat}{s:Ms}{v lv:AV}{o:Od}{ov bv:AV}{x:Rc}(h:MdR H b mb s v lv) (hblo:H.lo<=b) (hmlo:H.lo<=mb) (hb:ByS H bv o.b) (hsz:1<=x.sz/\x.sz<=64) (hon:0<=o.n/\o.n<=maxN) (hom:0<=o.m/\o.m<=maxN)
  (hl:o.b.length<=16384) (hm:o.b.length%256=0) (hd:o.op≠13->o.b= []) :
  FnE lookM 58 [.agg (orL o ov bv x),.ptr b 0] H fun r H'=>DoR H H' b mb r (zlf s o x):=by
 refine zuc f58_eq rfl rfl ?_;have hlo:=hn.lo;have hlt:=h.lt;have hmlt:=h.mp.1;have hbx:=h.box;unfold maxN at hon hom;have e0:=hEq_f (oM:b≠H.next)
 have e1:=hEq_f (oM:b≠H.next+1)
 have e01:=hEq_f (oM:H.next≠H.next+1)
 have hlk:∀bk bk' k,zob lookM 61 (.map mb) (.int .i64 k) false ((H.new bk).new bk')=some (bkA (s.b k)):=fun bk bk' k=>((h.hx ((HX.new H bk).trans (HX.new _ bk'))).mp).at k
 have hB:=h.mp.ok x.id;have hwb:=fun i e op H=>wbk0 i e op H hB
 have F:=J16 f58c.eq_1 @zgg1 @zdb @hbx @md_7 @e0 @e1 @e01 @or_7 @or_3 @or_4 @or_0 @hlk @zrk @zsk (J3 @z100 @zdd @hwb);refine uT ?_;clear F;refine bR_at (fun T H1=>HX H H1/\H1.next=H.next+3/\H1.get H.next=some (orx 113 o ov bv x)/\H1.get (H.next+1)=some (rpx 0 .nilSl .nilSl)/\H1.get (H.next+2)=some (.cells (bkC (s.b x.id)) 100 16384 false false) /\
  gT T 1= .ptr b 0/\gT T 2= .ptr H.next 0/\gT T 4= .ptr (H.next+1) 0/\gT T 5= .ptr (H.next+2) 0/\gT T 6= .int .i64 o.n/\gT T 7= .int .i64 o.m) ?_ ?_
 ·exact ⟨hxt,rfl,by have F:=@e01;exact vT,vT0,zia _ _,vT0,vT0,vT0,vT0,vT0,vT0⟩
 rintro T H1 ⟨hx1,hn1,g0,g1,g2,t1,t2,t4,t5,t6,t7⟩;haveI:=hx1.hn;have hlo1:H1.lo=H.lo:=hx1.lo;clear e0 e1 e01 hlk;have hln:=fun H'=>hb.len.1 u30 H'
 have hq:((o.b.length:Int)).tdiv 256=((o.b.length / 256:Nat):Int):=rfl;refine join2 (x:=decide (o.op=13)) (C:= ∀T,gT T 1= .ptr b 0->gT T 2= .ptr H.next 0->gT T 4= .ptr (H.next+1) 0->gT T 5= .ptr (H.next+2) 0->gT T 6= .int .i64 o.n->gT T 7= .int .i64 (toW o)->bR (.bool (decide (x.kd=2))) lookM ?a ?b ?s T H1 ?Q)
  (fun hx hC=> ?_) (fun hx hC=> ?_) ?_
 case refine_1 =>
  have hto:toW o=o.m:=by unfold toW;rw [qd (qh hx)]
  have F:=J9 @hx @t1 @t2 @t4 @t5 @t6 @t7 @g0 @or_9;refine uT ?_;clear F;refine hC _ ?_ ?_ ?_ ?_ ?_ ?_<;>(have F:=J7 @t1 @t2 @t4 @t5 @t6 @t7 @hto;exact vT)
 case refine_2 =>
  have hto:toW o=o.n+((o.b.length / 256:Nat):Int):=by unfold toW;rw [qi (qg hx)]
  have F:=J12 @hx @t1 @t2 @t4 @t5 @t6 @t7 @g0 @or_9 @or_6 @hln @hq;refine uT ?_;clear F;refine hC _ ?_ ?_ ?_ ?_ ?_ ?_<;>(have F:=J7 @t1 @t2 @t4 @t5 @t6 @t7 @hto;exact vT)
 clear t1 t2 t4 t5 t6 t7 T;intro T t1 t2 t4 t5 t6 t7;have e1:=hEq_f (oM:H.next+1≠H1.next)
 have hW:zlf s o x=if x.kd=2 then (er 18,s) else if o.n>toW o\/toW o>x.sz then (er 5,s) else
  if o.op=13/\usedB (putB (cutK (s.b x.id) o.n.toNat ((toW o).toNat - o.n.toNat)) (256*o.n.toNat) o.b)>usedB (s.b x.id)/\x.qu>0/\(usedB (putB (cutK (s.b x.id) o.n.toNat ((toW o).toNat - o.n.toNat)) (256*o.n.toNat) o.b):Int)>x.qu then (er 16,s) else (er 0,⟨s.t,setK s.b x.id (putB (cutK (s.b x.id) o.n.toNat ((toW o).toNat - o.n.toNat)) (256*o.n.toNat) o.b)⟩):=rfl
 rw [hW];clear hW;cases a1:decide (x.kd=2) with
 |true =>
  rw [qi (qg a1)];have F:=J12 @t1 @t2 @t4 @t5 @t6 @t7 @rp_bu @zdb @g1 @rp_w0 @zlb @ld3;refine uT ?_;clear F;exact DoR.err h (by have K:=hx1;exact hxk)
 |false =>
 rw [qd (qh a1)];cases a2:decide (toW o<o.n) with
 |true =>
  rw [qi (.inl (qg a2))];have F:=J13 @t1 @t2 @t4 @t5 @t6 @t7 @a2 @rp_bu @zdb @g1 @rp_w0 @zlb @ld3;refine uT ?_;clear F;exact DoR.err h (by have K:=hx1;exact hxk)
 |false =>
 have y2:=qh a2;cases a3:decide (x.sz<toW o) with
 |true =>
  rw [qi (.inr (qg a3))];have F:=J16 @t1 @t2 @t4 @t5 @t6 @t7 @a2 @a3 @g0 @or_10 @rp_bu @zdb @g1 @rp_w0 @zlb @ld3;refine uT ?_;clear F;exact DoR.err h (by have K:=hx1;exact hxk)
 |false =>
 have y3:=qh a3;rw [qd (by rintro (k|k)<;>omega)]
 obtain ⟨n,hn0⟩:∃n:Nat,o.n=(n:Int):=⟨o.n.toNat,oM⟩
 obtain ⟨t,ht0⟩:∃t:Nat,toW o=(t:Int):=⟨(toW o).toNat,oM⟩
 have hrest:t - n=o.b.length / 256\/o.b= []:=by
  by_cases ho:o.op=13
  ·left;unfold toW at ht0;rw [qi ho] at ht0;omega
  ·exact .inr (hd ho)
 rw [hn0] at t6 y2;rw [ht0] at t7 y2 y3;rw [hn0,ht0,qc2,qc2];have a2':decide ((t:Int)<(n:Int))=false:=qq y2;have a3':decide (x.sz<(t:Int))=false:=qq y3;have hba:=fun e z op ro=>zjl hB e z op ro
 have F:=J12 @t1 @t2 @t4 @t5 @t6 @t7 @a2' @a3' @g0 @or_10 @g2 @hba;refine uT ?_;clear F;refine cR_f (ztj1 hB (f:=n) (t:=t) oM oM) ?_
 rintro r2 H2 ⟨rfl,hx2⟩;have hx02:=hx1.trans hx2;haveI:=hx02.hn;have hlo2:H2.lo=H.lo:=hx02.lo;have hn2:=hx2.next;have g0:=(hx2.get (i:=H.next) oM).trans g0
 have g1:=(hx2.get (i:=H.next+1) oM).trans g1
 have g2:=(hx2.get (i:=H.next+2) oM).trans g2
 have hC:=zui hB (f:=n) (t:=t) oM
 have hwc:=fun i e op H=>wbk0 i e op H hC
 have e00:=hEq_f (oM:H.next≠H2.next)
 have e01:=hEq_f (oM:H.next≠H2.next+1)
 have e001:=hEq_f (oM:H2.next≠H2.next+1)
 have hst:∀(i o:Nat) (n:Int) (H:AH),H.lo<=i->st1 lookM 3 (.ptr i o) (.int .i64 n) H=wr1 (H.get i) i o (.int .i64 n) H:=fun i o n H h=>st1_w sz3i rfl rfl h
 have F:=J13 @t1 @t2 @t4 @t5 @t6 @t7 @g0 @or_6 @zdd @hwc @e00 @e01 @hst;refine uT ?_;clear F;refine cR_at (fun H3=>HX H2 H3/\H3.next=H2.next+2/\H3.get H2.next=some (.cells (bkC (cutK (s.b x.id) n (t - n))) 100 16384 false false)/\H3.get (H2.next+1)=some (.cells (.lst [.int .i64 (n:Nat)]) 3 1 false false)) ?_ ?_
 ·exact ⟨hxt,rfl,by have F:=@e001;exact vT,zia _ _⟩
 rintro H3 ⟨hx3,hn3,g3,g4⟩;have hx03:=hx02.trans hx3;haveI:=hx03.hn;refine cR_f (zhg1 hb.one.1 hb.one.2) ?_;rintro r4 H4 ⟨rfl,hx4,hn4,g5,g6⟩;have hx04:=hx03.trans hx4;have hx24:=hx3.trans hx4;haveI:=hx04.hn;have hlo4:H4.lo=H.lo:=hx04.lo;have g0:=(hx24.get (i:=H.next) oM).trans g0
 have g1:=(hx24.get (i:=H.next+1) oM).trans g1
 have g2:=(hx24.get (i:=H.next+2) oM).trans g2
 have g3:=(hx4.get (i:=H2.next) oM).trans g3
 have g4:=(hx4.get (i:=H2.next+1) oM).trans g4
 refine uT0 ?_;refine rcT_at (fun T H5=>H5=H4/\gT T 1= .ptr b 0/\gT T 2= .ptr H.next 0/\gT T 4= .ptr (H.next+1) 0/\gT T 5= .ptr (H.next+2) 0/\gT T 8= .ptr H2.next 0/\gT T 9= .ptr (H2.next+1) 0/\gT T 63= .fn (.func 89) [] [.ptr H3.next 0,.ptr (H3.next+1) 0]) ?_ ?_
 ·refine ⟨rfl,?_,?_,?_,?_,?_,?_,?_⟩<;>(have F:=J4 @t1 @t2 @t4 @t5;exact vT)
 clear t1 t2 t4 t5 t6 t7 T;rintro T H5 ⟨rfl,t1,t2,t4,t5,t8,t9,t63⟩;have hxL:=HX.new H5 (.loop .ready none T 0 [64] f58b0 f58b1);have gL:(H5.new (.loop .ready none T 0 [64] f58b0 f58b1)).get H5.next=some (.loop .ready none T 0 [64] f58b0 f58b1):=zaa _;have nL:(H5.new (.loop .ready none T 0 [64] f58b0 f58b1)).next=H5.next+1:=rfl;refine rc_rng (g:=.fn (.func 89) [] [.ptr H3.next 0,.ptr (H3.next+1) 0]) (fid:=89) (args:= [.yld H5.next,.ptr H3.next 0,.ptr (H3.next+1) 0])
  (R:=fun r H'=>WrS H' H5.next H2.next (H2.next+1) T (putB (cutK (s.b x.id) n (t - n)) (256*n) o.b) (n+o.b.length / 256)/\HP (fun i=>i≠H2.next/\i≠H2.next+1/\i≠H5.next) (H5.new (.loop .ready none T 0 [64] f58b0 f58b1)) H'/\H'.next=(H5.new (.loop .ready none T 0 [64] f58b0 f58b1)).next) ?_ rfl kR ?_ ?_
 ·have F:=@t63;exact vT
 ·generalize H5.new (.loop .ready none T 0 [64] f58b0 f58b1)=HL at *
  haveI:=hxL.hn;have hloL:HL.lo=H.lo:=hxL.lo.trans hlo4;have hx0L:=hx04.trans hxL;refine zcp1 ⟨t8,t9,gL,(hxL.get oM).trans g3,(hxL.get oM).trans g4⟩ hC (hb.hx hx0L) hm ?_ ((hxL.get oM).trans g5) ((hxL.get oM).trans g6) ?_ ?_ ?_ ?_ ?_ ?_ ?_ ?_ ?_ ?_ ?_
  ·rcases hrest with h1|h1
   ·omega
   ·rw [h1];simp;omega
  all_goals first|omega|exact ⟨oM,oM,oM⟩|exact ⟨hb.ne oM,hb.ne oM⟩
 rintro v6 H6 ⟨hw6,hp6,hn6⟩;rw [nL] at hn6;have hpA:HP (fun i=>i≠H2.next/\i≠H2.next+1/\i≠H5.next) H5 (H6.put H5.next .defd):=((hxL.hp (fun _=>True)).trans hp6 (r:=fun i=>i≠H2.next/\i≠H2.next+1/\i≠H5.next) fun i _ hi=>⟨trivial,hi⟩).trans (HP.put _ _ _) fun i _ hi=>⟨hi,hi.2.2⟩
 have hxA:HX H (H6.put H5.next .defd):=HX.hp2 hx04 hpA fun q hq=>⟨oM,oM,oM⟩
 refine ⟨by have:=hp6.lo;have h2:=hxL.lo;omega,⟨_,_,_,_,_,hw6.lp⟩,?_⟩
 haveI:=hxL.hn;haveI:HN H6:=hp6.hn;have g3:(H6.put H5.next .defd).get H2.next=some (.cells (bkC (putB (cutK (s.b x.id) n (t - n)) (256*n) o.b)) 100 16384 false false):=(zyb _ oM).trans hw6.nb
 have g0:=(hpA.get (i:=H.next) oM ⟨oM,oM,oM⟩).trans g0
 have g1:=(hpA.get (i:=H.next+1) oM ⟨oM,oM,oM⟩).trans g1
 have g2:=(hpA.get (i:=H.next+2) oM ⟨oM,oM,oM⟩).trans g2
 have hnA:(H6.put H5.next .defd).next=H5.next+1:=hn6;clear hpA hp6 hw6;generalize H6.put H5.next .defd=H7 at *
 haveI:=hxA.hn;have hloA:H7.lo=H.lo:=hxA.lo;have hD:BkOk (putB (cutK (s.b x.id) n (t - n)) (256*n) o.b):=zou hC hb.byt (by
  rcases hrest with h1|h1
  ·omega
  ·rw [h1];simp;omega)
 generalize putB (cutK (s.b x.id) n (t - n)) (256*n) o.b=D at *
 have hda:=fun e z op ro=>zjl hD e z op ro
 have F:=J3 @t8 @g3 @hda;refine uT ?_;clear F;refine cR_f (znu hD) ?_;rintro r8 H8 ⟨rfl,hx8⟩;have hx08:=hxA.trans hx8;haveI:=hx08.hn;have hlo8:H8.lo=H.lo:=hx08.lo;have hn8:=hx8.next;have g0:=(hx8.get (i:=H.next) oM).trans g0
 have g1:=(hx8.get (i:=H.next+1) oM).trans g1
 have g2:=(hx8.get (i:=H.next+2) oM).trans g2
 have g3:=(hx8.get (i:=H2.next) oM).trans g3
 have F:=J8 @t1 @t2 @t4 @t5 @t8 @t9 @g0 @or_0;refine uT ?_;clear F;refine gR_at (fun T=>gT T 1= .ptr b 0/\gT T 2= .ptr H.next 0/\gT T 4= .ptr (H.next+1) 0/\gT T 5= .ptr (H.next+2) 0/\gT T 8= .ptr H2.next 0/\gT T 11= .int .i64 (usedB D:Nat)/\gT T 78= .bool (decide (o.op=13))) ?_ ?_
 ·refine ⟨?_,?_,?_,?_,?_,?_,?_⟩<;>(have F:=J5 @t1 @t2 @t4 @t5 @t8;exact vT)
 clear t1 t2 t4 t5 t8 t9 t63;rintro T9 ⟨t1,t2,t4,t5,t8,t11,t78⟩;refine join2 (x:=decide (o.op=13)) (C:= ∀T H9,HX H8 H9->gT T 2= .ptr H.next 0->gT T 4= .ptr (H.next+1) 0->gT T 8= .ptr H2.next 0-> ¬(o.op=13/\usedB D>usedB (s.b x.id)/\x.qu>0/\(usedB D:Int)>x.qu)->oR (rdB (H9.get b) 7) lookM 101 ?ka ?sa T H9 ?Qa)
  (fun a5 hC=> ?_) (fun a5 hC=> ?_) ?_
 case refine_1 =>
  have F:=J8 @a5 @t1 @t2 @t4 @t5 @t8 @t11 @t78;refine uT ?_;clear F;refine hC _ _ (HX.refl _) ?_ ?_ ?_ (fun k=>qh a5 k.1)<;>(have F:=J3 @t2 @t4 @t8;exact vT)
 case refine_2 =>
  have F:=J10 @a5 @t1 @t2 @t4 @t5 @t8 @t11 @t78 @g2 @hba;refine uT ?_;clear F;refine cR_f (znu hB) ?_;rintro r9 H9 ⟨rfl,hx9⟩;have hx09:=hx08.trans hx9;haveI:=hx09.hn;have hlo9:H9.lo=H.lo:=hx09.lo;have hn9:=hx9.next;have g0:=(hx9.get (i:=H.next) oM).trans g0
  have g1:=(hx9.get (i:=H.next+1) oM).trans g1
  cases a6:decide ((usedB (s.b x.id):Int)<(usedB D:Int)) with
  |false =>
   have y6:=qh a6;have F:=J9 @a5 @t1 @t2 @t4 @t5 @t8 @t11 @t78 @a6;refine uT ?_;clear F;refine hC _ _ hx9 ?_ ?_ ?_ (fun k=>by have:=k.2.1;omega)<;>(have F:=J3 @t2 @t4 @t8;exact vT)
  |true =>
  have y6:=qg a6;cases a7:decide (0<x.qu) with
  |false =>
   have y7:=qh a7;have F:=J12 @a5 @t1 @t2 @t4 @t5 @t8 @t11 @t78 @a6 @g0 @or_49 @a7;refine uT ?_;clear F;refine hC _ _ hx9 ?_ ?_ ?_ (fun k=>by have:=k.2.2.1;omega)<;>(have F:=J3 @t2 @t4 @t8;exact vT)
  |true =>
  have y7:=qg a7;cases a8:decide (x.qu<(usedB D:Int)) with
  |false =>
   have y8:=qh a8;have F:=J13 @a5 @t1 @t2 @t4 @t5 @t8 @t11 @t78 @a6 @g0 @or_49 @a7 @a8;refine uT ?_;clear F;refine hC _ _ hx9 ?_ ?_ ?_ (fun k=>by have:=k.2.2.2;omega)<;>(have F:=J3 @t2 @t4 @t8;exact vT)
  |true =>
  have y8:=qg a8;rw [qi ⟨qg a5,oM,oM,oM⟩]
  have F:=J16 @a5 @t1 @t2 @t4 @t5 @t8 @t11 @t78 @a6 @g0 @g1 @or_49 @a7 @a8 @rp_bu (J4 @zdb @rp_w0 @zlb @ld3);refine uT ?_;clear F;exact DoR.err h (by have K:=hx09;exact hxk)
 have g1'8:=g1;intro T H9 hx9 t2 t4 t8 hno;rw [qd hno];have hx09:=hx08.trans hx9;haveI:=hx09.hn;have hlo9:H9.lo=H.lo:=hx09.lo;have hn9:=hx9.next;have g0:=(hx9.get (i:=H.next) oM).trans g0
 have g1:=(hx9.get (i:=H.next+1) oM).trans g1
 have g3:=(hx9.get (i:=H2.next) oM).trans g3
 have h9:=h.hx hx09;have hb9:=h9.box;obtain ⟨H10,w10,m10,hp10,hn10⟩:=h9.mp.up x.id hD oM
 have hbm:=h.ne;haveI:HN H10:=hp10.hn;have hlo10:H10.lo=H.lo:=hp10.lo.trans hlo9;obtain ⟨es,c,kv,gm,_⟩:=h9.mp.2;have g1m:H.next+1≠mb:=oM
 have g1:=(hp10.get (i:=H.next+1) oM g1m).trans g1
 have F:=J16 @t2 @t4 @t8 @hb9 @md_7 @g0 @or_7 @g3 @hda @w10 @zhj @zdb @g1 @rp_w0 @zlb @ld3;refine uT ?_;clear F;have g19:=(hx9.get (i:=H.next+1) oM).trans g1'8
 have k2:HP (·≠ H.next+1) H10 (H10.put (H.next+1) (rpx 0 .nilSl .nilSl)):=HP.put _ _ _;have kk:HP (fun i=>i≠mb/\i≠H.next+1) H9 (H10.put (H.next+1) (rpx 0 .nilSl .nilSl)):=hp10.trans k2 fun i _ hi=>hi
 have k0:HP (fun i=>i≠b/\i≠mb) H (H10.put (H.next+1) (rpx 0 .nilSl .nilSl)):=(hx09.hp (fun _=>True)).trans kk fun i hi hh=>⟨trivial,hh.2,oM⟩
 have sep:∀(z:Nat),z≠3-> ∀j cc e op ro,H9.get j=some (.cells cc e z op ro)->(j≠mb/\j≠H.next+1):=fun z z3 j cc e op ro hg=>by
  refine ⟨fun e=> ?_,fun e=> ?_⟩
  ·subst e;rw [hg] at gm;cases gm
  ·subst e;rw [hg] at g19;cases g19;exact z3 rfl
 refine ⟨RpR.err,⟨v,lv,?_⟩,k0⟩;refine ⟨qz hlt k0.next,?_,h9.rd.sep kk (sep 44 dC),h9.lv.sep kk (sep 1 dC),m10.hp k2 oM⟩
 exact (k2.get oM oM).trans ((hp10.get oM hbm).trans hb9)
theorem join5 {x u v:Bool}{G C:Prop}(h0:x=false->C->G) (h1:x=true->u=true->G) (h2:x=true->u=false->v=true->G) (h3:x=true->u=false->v=false->C->G) (hc:(x=true->u=false/\v=false)->C):G:=by
 cases x with
 |false=>exact h0 rfl (hc fun h=>by cases h)
 |true =>
  cases u with
  |true=>exact h1 rfl rfl
  |false =>
   cases v with
   |true=>exact h2 rfl rfl rfl
   |false=>exact h3 rfl rfl rfl (hc fun _=>⟨rfl,rfl⟩)
theorem gRH_at {x:AV}{w:Bool}{L:Lk}{d:Nat}{a b:K2}{s:List Kf}{T:Tr AV}{H:AH}{Q:PostC}(P:Tr AV->AH->Prop) (hp:P T H) (hk:∀T H,P T H->gR x w L d a b s T H Q):gR x w L d a b s T H Q:=hk T H hp
theorem zpc {H:AH}{v:AV}{n:Nat}(h:IsSl H v n):v.oneCell=true:=by
 rcases h with ⟨rfl,_⟩|⟨i,o,c,op,rfl,_⟩<;>rfl
theorem zjg1 {o:Od}{ov bv:AV}(h1:ov.oneCell=true) (h2:bv.oneCell=true):(odL o ov bv).all AV.oneCell=true:=by
 show (true && (true && (true && (true && (true && (ov.oneCell && (bv.oneCell && true)))))))=true
 rw [h1,h2];rfl
set_option maxHeartbeats 32000000 in
theorem asks_ok {H:AH}[hn:HN H]{b mb:Nat}{s:Ms}{v lv:AV}{o:Od}{ov bv:AV}(h:MdR H b mb s v lv) (hd:Bd s.t) (hblo:H.lo<=b) (hmlo:H.lo<=mb) (hb:ByS H bv o.b) (ho:LenV ov o.l.length) (hsz:∀i,i<s.t.rs.length->1<=(get s.t.rs i).sz/\(get s.t.rs i).sz<=64) (hok:ordOk o=true) (hop:12<=o.op/\o.op<=15) :
  FnE lookM 30 [odA o ov bv,.ptr b 0] H fun r H'=>DoR H H' b mb r (asksM s o):=by
 refine fI Tryz.f30 ?_;have hlo:=hn.lo;have hlt:=h.lt;have hOp:=(zxk o).1 hok;have hnm:=longB_f.1 hOp.nm;have hvol:= @FnX.p _ _ _ _ (zvn o.nm);have hsn:= @FnX.p _ _ _ _ (zau o.nm oM)
 have hl:=fun H'=>hb.len.1 u30 H'
 have e01:=hEq_f (oM:H.next≠H.next+1)
 have e02:=hEq_f (oM:H.next≠H.next+2)
 have e12:=hEq_f (oM:H.next+1≠H.next+2)
 have hone:=zjg1 (o:=o) ho.2.1 hb.one.1;have F:=J4 @zke @zdb @zuf @od_0;refine uT ?_;clear F;refine gRH_at (fun T H1=>HX H H1/\H1.next=H.next+3/\H1.get (H.next+1)=some (rpx 0 .nilSl .nilSl)/\H1.get (H.next+2)=some (odx o ov bv) /\
  gT T 1= .ptr b 0/\gT T 4= .ptr (H.next+1) 0/\gT T 5= .ptr (H.next+2) 0/\gT T 14= .bool (decide (o.op=13))) ?_ ?_
 ·refine ⟨hxt,rfl,?_,zia _ _,?_,?_,?_,?_⟩<;>(exact vT0)
 clear e01 e02 e12;rintro T H1 ⟨hx1,hn1,g1,g2,t1,t4,t5,t14⟩;haveI:=hx1.hn;have hlo1:H1.lo=H.lo:=hx1.lo;have hA:asksM s o=if (o.op=13/\(o.b.length=0\/o.b.length%256≠0))\/(partB o.nm || snapB o.nm)=false then (er 2,s)
   else if hasB o.nm s.t.rs=false then (er 6,s)
   else if o.op=12 then (readM s o (recO s.t o.nm),s) else if o.op=15 then (⟨0, [(usedB (s.b (recO s.t o.nm).id):Int)], []⟩,s) else zlf s o (recO s.t o.nm):=rfl
 generalize asksM s o=res at *
 refine join5 (x:=decide (o.op=13)) (u:=decide ((o.b.length:Int)=0)) (v:=decide (¬((o.b.length:Int)).tmod 256=0)) (C:= ∀T,gT T 1= .ptr b 0->gT T 4= .ptr (H.next+1) 0->gT T 5= .ptr (H.next+2) 0->gT T 28= .bool false->gT T 33= .bool (!partB o.nm)->gR (.bool (!partB o.nm)) true lookM ?d1 ?b1 ?k1 ?s1 T H1 ?Q1)
  (fun hx hC=> ?_) (fun hx hu=> ?_) (fun hx hu hv=> ?_) (fun hx hu hv hC=> ?_) ?_
 case refine_1 =>
  have F:=J8 @hx @t1 @t4 @t5 @t14 @g2 @od_1 @hvol;refine uT ?_;clear F;refine hC _ ?_ ?_ ?_ ?_ ?_<;>(have F:=J3 @t1 @t4 @t5;exact vT)
 case refine_2 =>
  rw [hA,qi (.inl ⟨qg hx,.inl (by have:=qg hu;omega)⟩)]
  have F:=J15 @hx @hu @t1 @t4 @t5 @t14 @g1 @g2 @od_6 @hl @rp_bu @zdb @rp_w0 @zlb @ld3;refine uT ?_;clear F;exact DoR.err h (by have K:=hx1;exact hxk)
 case refine_3 =>
  rw [hA,qi (.inl ⟨qg hx,.inr fun e=>qg hv (by show ((o.b.length%256:Nat):Int)=0;rw [e];rfl)⟩)]
  have F:=J16 @hx @hu @hv @t1 @t4 @t5 @t14 @g1 @g2 @od_6 @hl @rp_bu @zdb @rp_w0 @zlb @ld3;refine uT ?_;clear F;exact DoR.err h (by have K:=hx1;exact hxk)
 case refine_4 =>
  have F:=J13 @hx @hu @hv @t1 @t4 @t5 @t14 @g1 @g2 @od_6 @od_1 @hl @hvol;refine uT ?_;clear F;refine hC _ ?_ ?_ ?_ ?_ ?_<;>(have F:=J3 @t1 @t4 @t5;exact vT)
 clear t1 t4 t5 t14;intro hodd T t1 t4 t5 t28 t33;have nodd:¬(o.op=13/\(o.b.length=0\/o.b.length%256≠0)):=fun ⟨k1,k2⟩=>by
  obtain ⟨h1,h2⟩:=hodd (qk k1);have h1:=qh h1;have h2:=qh h2;rcases k2 with k|k
  ·exact h1 oM
  ·refine h2 fun e=>k ?_
   have e:((o.b.length%256:Nat):Int)=0:=e;omega
 have g1'1:=g1;refine join4 (x:= !snapB o.nm) (u:=partB o.nm) (C:= ∀T,gT T 1= .ptr b 0->gT T 4= .ptr (H.next+1) 0->gT T 5= .ptr (H.next+2) 0->cR false lookM 46 [.ptr b 0,.str o.nm] H1 45 ?k2 ?s2 T ?Q2) (fun hp hC=> ?_) (fun hp hs hC=> ?_) (fun hp hs=> ?_) ?_
 case refine_1 =>
  rw [hp];have F:=J8 @t1 @t4 @t5 @t28 @t33 @hp @g2 @od_1;refine uT ?_;clear F;refine hC _ ?_ ?_ ?_<;>(have F:=J3 @t1 @t4 @t5;exact vT)
 case refine_2 =>
  have hs':snapB o.nm=true:=by simpa using hs
  rw [hp];have F:=J10 @t1 @t4 @t5 @t28 @t33 @hp @g2 @od_1 @hsn @hs';refine uT ?_;clear F;refine hC _ ?_ ?_ ?_<;>(have F:=J3 @t1 @t4 @t5;exact vT)
 case refine_3 =>
  have hs':snapB o.nm=false:=by simpa using hs
  rw [hA,qi (.inr (by rw [hp,hs'];rfl))]
  have F:=J16 @t1 @t4 @t5 @t28 @t33 @hp @g1 @g2 @od_1 @hsn @hs' @rp_bu @zdb @rp_w0 @zlb @ld3;refine uT ?_;clear F;exact DoR.err h (by have K:=hx1;exact hxk)
 clear t1 t4 t5 t28 t33;intro hps T t1 t4 t5;have hps':¬(partB o.nm || snapB o.nm)=false:=by
  rcases hps with k|k
  ·have:snapB o.nm=true:=by simpa using k
   rw [this];simp
  ·rw [k];simp
 rw [qd (by rintro (k|k);exact nodd k;exact hps' k)] at hA
 refine cR_f (zco (nm:=o.nm) (h.hx hx1) hd.len) ?_;rintro r2 H2 ⟨rfl,hx2⟩;have hx02:=hx1.trans hx2;haveI:=hx02.hn;have hlo2:H2.lo=H.lo:=hx02.lo;have hn2:=hx2.next;have g1:=(hx2.get (i:=H.next+1) oM).trans g1
 have g2:=(hx2.get (i:=H.next+2) oM).trans g2
 have hone2:=zbc (AV.nilSl,recO s.t o.nm) rfl;have e1:=hEq_f (oM:H.next+1≠H2.next)
 have e2:=hEq_f (oM:H.next+2≠H2.next)
 cases a3:hasB o.nm s.t.rs with
 |false =>
  rw [a3,qi rfl] at hA;rw [hA];have F:=J13 @t1 @t4 @t5 @zpa @g1 @g2 @e1 @e2 @rp_bu @zdb @rp_w0 @zlb @ld3;refine uT ?_;clear F;exact DoR.err h (by have K:=hx02;exact hxk)
 |true =>
 rw [a3,qd (by simp)] at hA
 rw [hA];have hx44:1<=(recO s.t o.nm).sz/\(recO s.t o.nm).sz<=64:=by rw [zmf a3];exact hsz _ (zza a3).1
 have hon:0<=o.n/\o.n<=maxN:=qg hOp.n;have hom:0<=o.m/\o.m<=maxN:=qg hOp.m;clear hA;generalize recO s.t o.nm=x at *
 have fin:∀(H3 H4:AH) (nv bv':AV) (p:Rp×Ms),HX H2 H3->DoR H3 H4 b mb (rpA p.1.err nv bv') p->DoR H (H4.put (H.next+1) (rpx p.1.err nv bv')) b mb (rpA p.1.err nv bv') p:=by
  rintro H3 H4 nv bv' p hx3 ⟨hr,⟨v',lv',hm⟩,hp4⟩;have hx03:=hx02.trans hx3;haveI:=hx03.hn;haveI:HN H4:=hp4.hn;have hn3:=hx3.next;have hn4:=hp4.next;have g14:=(hp4.get (i:=H.next+1) oM ⟨oM,by have:=h.mp.1;omega⟩).trans ((hx3.get oM).trans g1)
  have k2:HP (·≠ H.next+1) H4 (H4.put (H.next+1) (rpx p.1.err nv bv')):=HP.put _ _ _;have sep:∀(z:Nat),z≠3-> ∀j cc e op ro,H4.get j=some (.cells cc e z op ro)->j≠H.next+1:=fun z z3 j cc e op ro hg e=>by
   subst e;rw [hg] at g14;cases g14;exact z3 rfl
  refine ⟨(hr.put oM _).le oM,⟨v',lv',?_⟩,((hx03.hp (fun _=>True)).trans hp4 (r:=fun i=>i≠b/\i≠mb) fun i _ hi=>⟨trivial,hi⟩).trans k2 fun i hi hh=>⟨hh,oM⟩⟩
  exact ⟨hm.lt,(k2.get hm.lt oM).trans hm.box,hm.rd.sep k2 (sep 44 dC),hm.lv.sep k2 (sep 1 dC),hm.mp.hp k2 (by have:=h.mp.1;omega)⟩
 have hblt:∀H3 H4,HX H2 H3->HP (fun i=>i≠b/\i≠mb) H3 H4->H4.get (H.next+1)=some (rpx 0 .nilSl .nilSl)/\H4.lo=H.lo/\HN H4:=fun H3 H4 hx3 hp4 =>
  ⟨(hp4.get (i:=H.next+1) (by have:=hx3.next;omega) ⟨oM,by have:=h.mp.1;omega⟩).trans ((hx3.get oM).trans g1),(hp4.lo.trans hx3.lo).trans hlo2,by haveI:=hx3.hn;exact hp4.hn⟩
 cases a4:decide (o.op=12) with
 |true =>
  rw [qi (qg a4)];have F:=J13 @t1 @t4 @t5 @zpa @g1 @g2 @e1 @e2 @od_0 @a4 @zuf @zud @or_bu;refine uT ?_;clear F;refine cR_at (fun H3=>HX H2 H3) ?_ ?_
  ·exact hxt
  rintro H3 hx3;have hx03:=hx02.trans hx3;haveI:=hx03.hn;refine cR_f (zbp1 (h.hx hx03) hx44 hon hom) ?_;rintro r4 H4 hr;have hD:=DoR.of (h.hx hx03) hr;obtain ⟨nv,bv4,rfl,z1,z2,z3⟩:=hD.1;obtain ⟨g14,hlo4,hn4⟩:=hblt H3 H4 hx3 hD.2.2;have o1:=zpc z1.is;have o2:=zpc z2.is;have F:=J6 @t4 @zdb @g14 @rp_w @zlb @ld3;refine uT ?_;clear F;exact fin H3 H4 nv bv4 (readM s o x,s) hx3 hD
 |false =>
 rw [qd (qh a4)];cases a5:decide (o.op=15) with
 |true =>
  rw [qi (qg a5)];have hbu:zsa lookM 112 (zipF [0] [.agg (rcL (.nilSl,x))])=some (.agg (rcL (.nilSl,x))):=kR
  have F:=J13 @t1 @t4 @t5 @zpa @g1 @g2 @e1 @e2 @od_0 @a4 @a5 @zud @hbu;refine uT ?_;clear F;refine cR_at (fun H3=>HX H2 H3) ?_ ?_
  ·exact hxt
  rintro H3 hx3;have hx03:=hx02.trans hx3;haveI:=hx03.hn;refine cR_f (zdg1 (x:=x) (h.hx hx03)) ?_;rintro r4 H4 hr;have hD:=DoR.of (h.hx hx03) hr;obtain ⟨nv,bv4,rfl,z1,z2,z3⟩:=hD.1;obtain ⟨g14,hlo4,hn4⟩:=hblt H3 H4 hx3 hD.2.2;have o1:=zpc z1.is;have o2:=zpc z2.is;have F:=J6 @t4 @zdb @g14 @rp_w @zlb @ld3;refine uT ?_;clear F;exact fin H3 H4 nv bv4 (_,s) hx3 hD
 |false =>
 have n4:=qh a4;have n5:=qh a5;rw [qd n5];have F:=J14 @t1 @t4 @t5 @zpa @g1 @g2 @e1 @e2 @od_0 @a4 @a5 @zuf @zud @or_buW;refine uT ?_;clear F;refine cR_at (fun H3=>HX H2 H3) ?_ ?_
 ·exact hxt
 rintro H3 hx3;have hx03:=hx02.trans hx3;haveI:=hx03.hn;have hlo3:H3.lo=H.lo:=hx03.lo;refine cR_f (zig1 (h.hx hx03) oM oM (hb.hx hx03) hx44 hon hom ?_ ?_ ?_) ?_
 ·have:=hOp.b;omega
 ·by_cases e:o.op=13
  ·by_cases e2:o.b.length%256=0
   ·exact e2
   ·exact absurd ⟨e,.inr e2⟩ nodd
  ·have e14:o.op=14:=oM
   have:=hOp.u6;rw [e14] at this;rcases this with k|k
   ·omega
   ·exact absurd k dC
 ·intro e
  have e14:o.op=14:=oM
  have:=hOp.u6;rw [e14] at this;rcases this with k|k
  ·exact qk1 oM
  ·exact absurd k dC
 rintro r4 H4 hD;obtain ⟨nv,bv4,rfl,z1,z2,z3⟩:=hD.1;obtain ⟨g14,hlo4,hn4⟩:=hblt H3 H4 hx3 hD.2.2;have o1:=zpc z1.is;have o2:=zpc z2.is;have F:=J6 @t4 @zdb @g14 @rp_w @zlb @ld3;refine uT ?_;clear F;exact fin H3 H4 nv bv4 _ hx3 hD
end HS
end
