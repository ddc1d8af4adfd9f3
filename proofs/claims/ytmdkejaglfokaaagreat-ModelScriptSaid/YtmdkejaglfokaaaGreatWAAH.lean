import Derived.Test.YtmdkejaglfokaaaGreatWAAG
noncomputable section
set_option maxHeartbeats 8000000
set_option linter.unusedSimpArgs false
set_option linter.unusedVariables false
open Go Go.Ev Go.Proofs Go.RowKit
namespace HS
set_option maxRecDepth 100000
open HS.Md
def recB (t:Tb):Bool:=((List.range t.rs.length).all fun i=>aloneB (get t.rs i) && ordB t.rs i) && ((List.range t.rs.length).all fun i=>relB t i)
theorem zjf1 (t:Tb):zvb t=(headB t && recB t):=rfl
theorem rec_f1 {t:Tb}{q:Nat}(hq:q<t.rs.length) (h:(aloneB (get t.rs q) && ordB t.rs q)=false):recB t=false:=by
 rw [qf3];intro hc;unfold recB at hc;rw [qm,qb1,qb1] at hc;rw [hc.1 q (qp3.2 hq)] at h;cases h
theorem zun1 {t:Tb}{q:Nat}(hq:q<t.rs.length) (h:relB t q=false):recB t=false:=by
 rw [qf3];intro hc;unfold recB at hc;rw [qm,qb1,qb1] at hc;rw [hc.2 q (qp3.2 hq)] at h;cases h
theorem rec_t {t:Tb}(h1:∀q,q<t.rs.length->(aloneB (get t.rs q) && ordB t.rs q)=true/\relB t q=true):recB t=true:=by
 unfold recB;rw [qm,qb1,qb1];exact ⟨fun i hi=>(h1 i (qp3.1 hi)).1,fun i hi=>(h1 i (qp3.1 hi)).2⟩
set_option maxHeartbeats 16000000 in
theorem drec_ok {H:AH}[hn:HN H]{nn:Int}{v lv:AV}{l:List (AV×Rc)}(hsl:SlRc H v l) (hlen:l.length<=1000000) (hs:∀p,p∈l->p.2.nm.size<=1000000) :
  FnE lookM 102 [tbA nn v lv] H fun r H'=>r= .bool (recB ⟨nn,rcs l⟩)/\HX H H':=by
 refine zuc f102_eq rfl rfl ?_;have hlo:=hn.lo;have hl:=fun H'=>ztc (H':=H') uRs hsl.is
 have hx1:HX H (H.new (.cells (.lst (tbL nn v lv)) 53 7 false false)):=HX.new _ _;have F:=J2 f102c.eq_1 @zba;refine uT ?_;refine rc_lp zif1 (fun n T H'=> ∃q,n+q=l.length/\HX (H.new (.cells (.lst (tbL nn v lv)) 53 7 false false)) H'/\gT T 1= .ptr H.next 0/\gT T 3= .int .i64 q/\(∀j,j<q->(aloneB (get (rcs l) j) && ordB (rcs l) j)=true/\relB ⟨nn,rcs l⟩ j=true)) l.length ?_ ?_
 ·exact ⟨0,rfl,HX.refl _,vT0,by refine uT0 ?_;rfl,fun j h=>absurd h (qe4 _)⟩
 rintro n T H2 ⟨q,hnq,hx2,g1,g3,hall⟩;have hx02:=hx1.trans hx2;have hg2:=(hx2.get (i:=H.next) (qd1 _)).trans (zaa _);haveI:=hx02.hn;have hlo2:=(HN.lo:H2.lo<=H2.next);have hn2:H.next+1<=H2.next:=hx2.next;unfold f102l0;cases n with
 |zero =>
  have hc:recB ⟨nn,rcs l⟩=true:=rec_t fun j hj=>hall j (by rw [zjb] at hj;omega)
  rw [hc];have F:=J5 @g1 @g3 @hg2 @tb_1 @hl;refine uT ?_;exact hx02
 |succ n =>
  have hq:q<l.length:=oM
  obtain ⟨p,hk⟩:∃p,l[q]? =some p:=⟨_,qo hq⟩
  have hmem:p∈l:=qy.2 ⟨q,hk⟩;have hix:=ix44 (z:=44) (q:=q) hsl.is hq;have hld:=(hsl.hx hx02).agg hk;have hp1:=zir (hsl.holeAt hk);have hgp:=zti hk;have F:=J9 @g1 @g3 @hg2 @tb_1 @hl @hix @hld @zpa @zud;refine uT ?_;refine cR_at (fun H3=>HX H2 H3/\H3.next=H2.next+1/\H3.get H2.next=some (.cells (.lst (rcL p)) 84 44 false false)) ?_ ?_
  ·exact ⟨hxt,rfl,by rw [zia]⟩
  rintro H3 ⟨hx3,hn3,hg3x⟩;have hx03:=hx02.trans hx3;haveI:=hx03.hn;refine cR_f (dmay_ok ((hsl.hx hx03).holeAt hk) (hs p hmem)) ?_;rintro r4 H4 ⟨rfl,hx4⟩;have hx04:=hx03.trans hx4;have hx14:=(hx2.trans hx3).trans hx4;have hn4:=hx4.next;have hg4:=((hx3.trans hx4).get oM).trans hg2
  have hg4x:=(hx4.get oM).trans hg3x
  haveI:=hx04.hn;have no1:(aloneB p.2 && ordB (rcs l) q)=false->AV.bool false= .bool (recB ⟨nn,rcs l⟩):=fun h=>by
   rw [rec_f1 (t:=⟨nn,rcs l⟩) (q:=q) (by rw [zjb];exact hq) (by show (aloneB (get (rcs l) q) && _)=false;rw [hgp];exact h)]
  have no2:relB ⟨nn,rcs l⟩ q=false->AV.bool false= .bool (recB ⟨nn,rcs l⟩):=fun h=>by
   rw [zun1 (t:=⟨nn,rcs l⟩) (q:=q) (by rw [zjb];exact hq) h]
  have erel:relB ⟨nn,rcs l⟩ q=(((rcs l).take q).all (fun y=>decide (y.id≠p.2.id)) && (decide (p.2.id<nn) && kinB (rcs l) p.2)):=by
   unfold relB;simp only [hgp]
  cases a3:aloneB p.2 with
  |false =>
   have F:=J4 @g1 @g3 @hg4 @hg4x;refine uT ?_;exact ⟨no1 (by rw [a3];rfl),hx04⟩
  |true =>
  have elt:decide (nn<=p.2.id)= !decide (p.2.id<nn):=by rw [qa3];simp
  cases a4:decide (p.2.id<nn) with
  |false =>
   rw [a4] at elt;have F:=J7 @g1 @g3 @hg4 @hg4x @rc_0 @tb_0 @elt;refine uT ?_;exact ⟨no2 (by rw [erel,a4];simp),hx04⟩
  |true =>
  rw [a4] at elt;have rest:∀(T:Tr AV) (H5:AH),ordB (rcs l) q=true->HX H4 H5->gT T 1= .ptr H.next 0->gT T 3= .int .i64 q->gT T 4= .ptr H2.next 0->gT T 5= .int .i64 0 ->
    ∀(ss:List Kf) (Q:PostC),
    (∀H',HX H H'->(recB ⟨nn,rcs l⟩=false)-> ∀T',RN lookM ss .ret (pS 2 (.bool false) T') H' Q) ->
    (∀T' H',HX H5 H'->gT T' 1= .ptr H.next 0->gT T' 3= .int .i64 q->relB ⟨nn,rcs l⟩ q=true->RN lookM ss .normal T' H' Q) ->
    RC lookM (.loop zsn1) (.blk 2:: .seq (.seq (.reg (lN_ 7 (tO 1) 59<|lN_ 44 (tO 4) 60<|cl_ false 108 [(tO 59),(tO 60)] 61<|nt_ (tO 61) 62<| .done))
      (.cond (tO 62) (.seq (.reg (m_ (.con (.bool false)) 2<| .done)) .ret) .skip))::ss) T H5 Q:=by
   intro T H5 eo hx5 g1 g3 g4 g5 ss Q hret hgo;have hx05:=hx04.trans hx5;have hg5:=(hx5.get oM).trans hg4
   have hg5x:=(hx5.get oM).trans hg4x
   have hn5:=hx5.next;haveI:=hx05.hn;refine rc_lp zhf1 (fun n T H'=> ∃k,n+k=q/\H'=H5/\gT T 1= .ptr H.next 0/\gT T 3= .int .i64 q/\gT T 4= .ptr H2.next 0/\gT T 5= .int .i64 k/\((rcs l).take k).all (fun y=>decide (y.id≠p.2.id))=true) q ?_ ?_
   ·exact ⟨0,rfl,rfl,g1,g3,g4,g5,by simp⟩
   rintro n T H' ⟨k,hnk,rfl,g1,g3,g4,g5,hin⟩;unfold f102l1;cases n with
   |zero =>
    have hkq:k=q:=oM
    subst hkq;have d0:decide ((k:Int)<(k:Int))=false:=qq oM
    have F:=J9 @g1 @g3 @g4 @g5 @d0 @hg5 @hg5x @zea @zud;refine uT ?_;refine cR_f (dkin_ok (hsl.hx hx05) hlen (hs p hmem) ((hsl.hx hx05).holeAt hk)) ?_;rintro r6 H6 ⟨rfl,hx6⟩;cases a5:kinB (rcs l) p.2 with
    |false =>
     refine uT0 ?_;exact hret _ (hx05.trans hx6) (zun1 (t:=⟨nn,rcs l⟩) (q:=k) (by rw [zjb];exact hq) (by rw [erel,a5];simp)) _
    |true =>
     refine uT0 ?_;refine hgo _ _ hx6 (by have F:=@g1;exact vT) (by have F:=@g3;exact vT) ?_
     rw [erel,a5,a4,hin];rfl
   |succ n =>
    have hkl:k<l.length:=oM
    obtain ⟨y,hy⟩:∃p,l[k]? =some p:=⟨_,qo hkl⟩
    have hy2:(rcs l)[k]? =some y.2:=by rw [qh1,hy];rfl
    have hix:=ix44 (z:=44) (q:=k) hsl.is hkl;have hf0:=fa_el hsl.is hkl 44 0;have hl0:=(hsl.hx hx05).fld hy (j:=0) (x:=.int .i64 y.2.id) rfl;have d0:decide ((k:Int)<(q:Int))=true:=qk oM
    by_cases c:y.2.id=p.2.id
    ·have d:decide (y.2.id=p.2.id)=true:=qk c
     have F:=J13 @g1 @g3 @g4 @g5 @d0 @hg5 @hg5x @tb_1 @rc_0 @hix @hf0 @hl0 @d;refine uT ?_;refine hret _ hx05 (zun1 (t:=⟨nn,rcs l⟩) (q:=q) (by rw [zjb];exact hq) ?_) _
     rw [erel];have:((rcs l).take q).all (fun y=>decide (y.id≠p.2.id))=false:=by
      rw [qf3];intro hc;rw [qb1] at hc;have hm:y.2∈(rcs l).take q:=qy.2 ⟨k,by rw [qf2 oM];exact hy2⟩
      have:=hc _ hm;simp [c] at this
     rw [this];rfl
    ·have d:decide (y.2.id=p.2.id)=false:=qq c
     have F:=J13 @g1 @g3 @g4 @g5 @d0 @hg5 @hg5x @tb_1 @rc_0 @hix @hf0 @hl0 @d;refine uT ?_;refine ⟨n,oM,k+1,oM,by push_cast;rfl,?_⟩
     rw [qc4,hy2,qj3,qo7,hin];simp [c]
  have fin:∀{H5:AH},HX H4 H5->ordB (rcs l) q=true->relB ⟨nn,rcs l⟩ q=true-> ∃n',n'<n+1/\ ∃q',n'+q'=l.length/\HX (H.new (.cells (.lst (tbL nn v lv)) 53 7 false false)) H5/\AV.int .i64 ((q:Int)+1)= .int .i64 (q':Int)/\(∀j,j<q'->(aloneB (get (rcs l) j) && ordB (rcs l) j)=true/\relB ⟨nn,rcs l⟩ j=true):=by
   intro H5 hx5 e1 e2;refine ⟨n,oM,q+1,oM,hx14.trans hx5,by push_cast;rfl,fun j hj=> ?_⟩
   rcases qi2 j q with h|h
   ·exact hall j h
   ·have:j=q:=oM
    subst this;exact ⟨by rw [hgp,a3,e1];rfl,e2⟩
  rcases qh3 q with h0|h0
  ·subst h0
   have e0:decide ((0:Int)<((0:Nat):Int))=false:=rfl;have F:=J8 @g1 @g3 @hg4 @hg4x @rc_0 @tb_0 @elt @e0;refine uT ?_;refine rest _ _ rfl (HX.refl _) (by have F:=@g1;exact vT) (by have F:=@g3;exact vT) vT0 vT0 _ _ ?_ ?_
   ·intro H' hx' hr T'
    rw [hr];refine uT0 ?_;exact hx'
   ·intro T' H' hx' k1 k3 hr
    have F:=J2 @k1 @k3;refine uT ?_;exact fin hx' rfl hr
  ·obtain ⟨m,rfl⟩:∃m,q=m+1:=⟨q - 1,oM⟩
   have e0:decide ((0:Int)<((m+1:Nat):Int))=true:=qk oM
   have e1:((m+1:Nat):Int) - 1=(m:Int):=oM
   have hm:m<l.length:=oM
   obtain ⟨p',hk'⟩:∃p,l[m]? =some p:=⟨_,qo hm⟩
   have hmem':p'∈l:=qy.2 ⟨m,hk'⟩;have hix':=ix44 (z:=44) (q:=m) hsl.is hm;have hqf:=fa_el hsl.is hm 44 1;have hqd:=(hsl.hx hx04).fld hk' (j:=1) (x:=.str p'.2.nm) rfl;have eo:ordB (rcs l) (m+1)=lessB p'.2.nm p.2.nm:=by
    unfold ordB;rw [qc6,zti hk',hgp];simp
   have hle:= @FnX.p _ _ _ _ (zja1 p'.2.nm p.2.nm (hs p' hmem') (hs p hmem));cases a6:lessB p'.2.nm p.2.nm with
   |false =>
    have F:=J16 @g1 @g3 @hg4 @hg4x @rc_0 @tb_0 @elt @e0 @e1 @tb_1 @rc_1 @hix' @hqf @hqd @hle @a6;refine uT ?_;exact ⟨no1 (by rw [eo,a6,qr3]),hx04⟩
   |true =>
    have F:=J16 @g1 @g3 @hg4 @hg4x @rc_0 @tb_0 @elt @e0 @e1 @tb_1 @rc_1 @hix' @hqf @hqd @hle @a6;refine uT ?_;refine rest _ _ (by rw [eo,a6]) (HX.refl _) (by have F:=@g1;exact vT) (by have F:=@g3;exact vT) vT0 vT0 _ _ ?_ ?_
    ·intro H' hx' hr T'
     rw [hr];refine uT0 ?_;exact hx'
    ·intro T' H' hx' k1 k3 hr
     have F:=J2 @k1 @k3;refine uT ?_;exact fin hx' (by rw [eo,a6]) hr
theorem dcur_ok {H:AH}[hn:HN H]{n:Int}:FnE lookM 103 [.agg cu0,.int .i64 n] H fun r H'=>r= .bool true/\HX H H':=by
 refine fI Tryz.f103 ?_;have F:=J3 @cu_all @cu_bu @cu_q;refine uT ?_
 (exact fin0)
theorem zkf1 {H:AH}[hn:HN H]{nn:Int}{v lv:AV}{l:List (AV×Rc)}(hsl:SlRc H v l) (hlv:Lv H lv) (hlen:l.length<=1000000) (hs:∀p,p∈l->p.2.nm.size<=1000000) :
  FnE lookM 90 [tbA nn v lv] H fun r H'=>r= .int .i64 (chkI ⟨nn,rcs l⟩)/\HX H H':=by
 refine fI Tryz.f90 ?_;have hl:=fun H'=>ztc (H':=H') uRs hsl.is
 have hll:=fun H'=>znn1 (H':=H') hlv
 have hw2:wi 2 2 8=true:=dC
 have hw0:wi 0 0 2147483647=true:=dC
 have hhd:headB ⟨nn,rcs l⟩=(wi nn 1 2147483648 && !decide (16<(l.length:Int))):=by
  unfold headB;simp only [zjb];congr 1;rw [qa3];simp;omega
 cases a1:wi nn 1 2147483648 with
 |false =>
  have hc:chkI ⟨nn,rcs l⟩=2:=by unfold chkI;rw [chk_h (by rw [hhd,a1];rfl)];rfl
  rw [hc];have F:=J4 @zba @tb_0 @zcf @a1;refine uT ?_;(exact fin0)
 |true =>
 by_cases a2:(16:Int)<(l.length:Int)
 ·have hc:chkI ⟨nn,rcs l⟩=2:=by unfold chkI;rw [chk_h (by rw [hhd,qk a2];simp)];rfl
  rw [hc];have d2:decide ((16:Int)<(l.length:Int))=true:=qk a2;have F:=J7 @zba @tb_0 @tb_1 @hl @zcf @a1 @d2;refine uT ?_;(exact fin0)
 have d2:decide ((16:Int)<(l.length:Int))=false:=qq a2;have hh:headB ⟨nn,rcs l⟩=true:=by rw [hhd,a1,d2];rfl
 have hcr:chkI ⟨nn,rcs l⟩=if recB ⟨nn,rcs l⟩ then 0 else 2:=by unfold chkI;rw [zjf1,hh,qn3]
 rw [hcr];have hx1:HX H (H.new (.cells (.lst (tbL nn v lv)) 53 7 false false)):=HX.new _ _;have F:=J10 @zba @tb_0 @tb_1 @tb_6 @hl @hll @zcf @a1 @d2 @hw2;refine uT ?_;have i0:=lv_i0 hlv;have i1:=lv_i1 hlv;have e0:=lv_0 (SlR.hx hlv hx1);have e1:=lv_1 (SlR.hx hlv hx1);refine rc_l (fun n T H'=>H'=H.new (.cells (.lst (tbL nn v lv)) 53 7 false false)/\gT T 1= .ptr H.next 0/\((n=2/\gT T 3= .int .i64 0)\/(n=1/\gT T 3= .int .i64 1)\/(n=0/\gT T 3= .int .i64 2))) 2 ?_ ?_
 ·exact ⟨rfl,vT0,.inl ⟨rfl,vT0⟩⟩
 rintro n T H' ⟨rfl,g1,⟨rfl,g3⟩|⟨rfl,g3⟩|⟨rfl,g3⟩⟩
 ·have F:=J8 @g1 @g3 @tb_6 @hll @i0 @e0 @zcf @hw0;refine uT ?_
  exact ⟨1,oM,.inr (.inl ⟨rfl,rfl⟩)⟩
 ·have F:=J8 @g1 @g3 @tb_6 @hll @i1 @e1 @zcf @hw0;refine uT ?_
  exact ⟨0,oM,.inr (.inr ⟨rfl,rfl⟩)⟩
 ·have F:=J5 @g1 @g3 @tb_6 @hll @zea;refine uT ?_
  refine cR_f (drec_ok (hsl.hx hx1) hlen hs) ?_;rintro r2 H2 ⟨rfl,hx2⟩;have hx02:=hx1.trans hx2;have hg2:=(hx2.get (i:=H.next) (qd1 _)).trans (zaa _);haveI:=hx02.hn;cases a3:recB ⟨nn,rcs l⟩ with
  |false=>refine uT0 ?_;exact hx02
  |true =>
   have F:=J5 @g1 @hg2 @tb_cu @tb_6 @hll;refine uT ?_;refine cR_f dcur_ok ?_;rintro r3 H3 ⟨rfl,hx3⟩;refine uT0 ?_;exact hx02.trans hx3
theorem ld35 (i o:Nat) (H:AH):zub lookM 82 (.ptr i o) H=ldN 35 (.ptr i o) H:=zeg kR kR
theorem ld44 (i o:Nat) (H:AH):zub lookM 84 (.ptr i o) H=ldN 44 (.ptr i o) H:=zeg kR kR
theorem ld7 (i o:Nat) (H:AH):zub lookM 53 (.ptr i o) H=ldN 7 (.ptr i o) H:=zeg kR kR
theorem zna1 {H:AH}[hn:HN H]:FnE lookM 149 [roA .nilSl] H fun r H'=>r=roA .nilSl/\HX H H':=by
 refine fI Tryz.f149 ?_;have hlo:=hn.lo;have ht:AV.toC (roA .nilSl)= .lst (roL .nilSl):=rfl;have h1:(roL .nilSl).all AV.oneCell=true:=rfl;have hcl:= @FnX.p _ _ _ _ zcu;have hst:∀(i o:Nat) (H:AH),H.lo<=i->st1 lookM 78 (.ptr i o) .nilSl H=wr1 (H.get i) i o .nilSl H:=fun i o H h=>st1_w szA rfl rfl h
 have htn:∀l:List AV,AV.toC (.agg (.nilSl::l))= .lst (.nilSl::l):=fun l=>rfl
 have hs0:(roL .nilSl).set 0 .nilSl=roL .nilSl:=rfl;have he:=hEq_f (oM:H.next≠H.next+1)
 have he2:=hEq_f (oM:H.next+1≠H.next)
 have F:=J10 @ht @htn @ro_0 @zbf1 @hcl @hst @hs0 @he @he2 @ld35;refine uT ?_
 (exact fin0)
def cmpN (a b:ByteArray):Int:=if lessB a b then -1 else if lessB b a then 1 else 0
theorem zhj1 {H:AH}[hn:HN H](p q:AV×Rc) (hp:p.2.nm.size<=1000000) (hq:q.2.nm.size<=1000000) :
  FnE lookM 173 [.agg (rcL p),.agg (rcL q)] H fun r H'=>r= .int .i64 (cmpN p.2.nm q.2.nm)/\HX H H':=by
 refine fI Tryz.f173 ?_;have he:=hEq_f (oM:H.next≠H.next+1)
 have F:=J3 @zpa @rc_1 @he;refine uT ?_;refine cR_at (fun H1=>HX H H1/\H1.next=H.next+2/\H1.get H.next=some (.cells (.lst (rcL p)) 84 44 false false)/\H1.get (H.next+1)=some (.cells (.lst (rcL q)) 84 44 false false)) ?_ ?_
 ·exact ⟨hxt,rfl,by rw [zah _ (oM:H.next≠H.next+1),zaa],zaa _⟩
 rintro H1 ⟨hx1,hn1,g1,g2⟩;haveI:=hx1.hn;refine cR_f (zyz _ _ hp hq _) ?_;rintro r H2 ⟨rfl,hx2⟩;have k1:=(hx2.get oM).trans g1
 have k2:=(hx2.get oM).trans g2
 haveI:=(hx1.trans hx2).hn;unfold cmpN;cases a1:lessB p.2.nm q.2.nm with
 |true=>refine uT0 ?_;(exact fin0)
 |false =>
  have F:=J3 @k1 @k2 @rc_1;refine uT ?_;refine cR_f (zyz _ _ hq hp _) ?_;rintro r H3 ⟨rfl,hx3⟩;cases a2:lessB q.2.nm p.2.nm with
  |true=>refine uT0 ?_;(exact fin0)
  |false=>refine uT0 ?_;(exact fin0)
theorem cmpN_lt (a b:ByteArray):decide (cmpN a b<0)=lessB a b:=by
 unfold cmpN;cases h:lessB a b with
 |true=>rfl
 |false=>cases h2:lessB b a<;>rfl
theorem nl_at {rs:List Rc}{k:Nat}(hk:k<rs.length):(nl rs)[k]? =some (AV.nilSl,get rs k):=by
 rw [qh1,get_lt hk];rfl
theorem zuk {rs:List Rc}{k:Nat}(hk:k<rs.length):get rs k∈rs:=qy.2 ⟨k,get_lt hk⟩
abbrev fLay:AV:=.fn (.func 173) [] []
theorem bs_ok {H:AH}[hn:HN H]{v:AV}{rs:List Rc}{x:Rc}(h:SlRc H v (nl rs)) (hlen:rs.length<=1000000) (hs:Srt rs) (hb:∀r,r∈rs->r.nm.size<=1000000) (hx:x.nm.size<=1000000) :
  FnE lookM 172 [v,.agg (rcL (.nilSl,x)),fLay] H fun r H'=>(∃b,r= .tup [.int .i64 (plc x rs:Nat),.bool b])/\HX H H':=by
 refine fI Tryz.f172 ?_;have hl:∀H',fstO (zda .len lookM [49] [v] H')=some (.int .i64 rs.length):=fun H'=>by have:=ztc (H':=H') uRs h.is;rwa [zoc] at this
 have F:=J2 @hl @zpa;refine uT ?_;refine rc_l (fun n T H'=> ∃i j:Nat,n+i=j/\j<=rs.length/\(∀k,k+1=i->lessB (get rs k).nm x.nm=true)/\(j<rs.length->lessB (get rs j).nm x.nm=false)/\HX (H.new (.cells (.lst (rcL (.nilSl,x))) 84 44 false false)) H' /\
  gT T 0=v/\gT T 2=fLay/\gT T 4= .ptr H.next 0/\gT T 8= .int .i64 rs.length/\gT T 9= .int .i64 i/\gT T 10= .int .i64 j) rs.length ?_ ?_
 ·exact ⟨0,rs.length,rfl,qn _,fun k hk=>oM,fun h=>absurd h (qv5 _),HX.refl _,vT0,vT0,vT0,vT0,by refine uT0 ?_;rfl,vT0⟩
 rintro n T H1 ⟨i,j,hij,hj,hi1,hj1,hx1,g0,g2,g4,g8,g9,g10⟩;have hgx:=(hx1.get (i:=H.next) (qd1 _)).trans (zaa _);have hx01:=(HX.new H (.cells (.lst (rcL (.nilSl,x))) 84 44 false false)).trans hx1;haveI:=hx01.hn;cases n with
 |zero =>
  have e:i=j:=oM
  subst e;have hpl:plc x rs=i:=zum1 hs hj (fun r h0 hr=>by
   have:=hi1 (i - 1) oM
   rwa [zbh hr] at this) (fun r hr=>by
   have:=hj1 (qp.1 hr).1
   rwa [zbh hr] at this)
  rw [hpl];have d0:decide ((i:Int)<(i:Int))=false:=by simp
  rcases qi2 i rs.length with hlt|hge
  ·have d1:decide ((i:Int)<(rs.length:Int))=true:=qk oM
   have hix:=ix44 (z:=44) (q:=i) (h.hx hx01).is (by rw [zoc];exact hlt)
   have hld:=(h.hx hx01).agg (nl_at hlt);have F:=J12 @g0 @g2 @g4 @g8 @g9 @g10 @d0 @d1 @hix @hld @hgx @zud;refine uX ?_;refine cR_f (zhj1 _ _ (hb _ (zuk hlt)) hx) ?_;rintro r2 H2 ⟨rfl,hx2⟩;refine uT0 ?_;exact ⟨⟨_,rfl⟩,hx01.trans hx2⟩
  ·have d1:decide ((i:Int)<(rs.length:Int))=false:=qq oM
   have F:=J8 @g0 @g2 @g4 @g8 @g9 @g10 @d0 @d1;refine uT ?_;exact ⟨⟨_,rfl⟩,hx01⟩
 |succ n =>
  obtain ⟨m,hm⟩:∃m,m=(i+j) / 2:=⟨_,rfl⟩
  have hmi:i<=m:=oM
  have hmj:m<j:=oM
  have hml:m<rs.length:=oM
  have d0:decide ((i:Int)<(j:Int))=true:=qk oM
  have hcv:cvI .u64 (.int .i64 ((i:Int)+j))=some (.int .u64 ((i:Int)+j)):=cv_u _ oM oM
  have hsh:∀s,binF .shr s (.int .u64 ((i:Int)+j)) (.int .u64 1)=some (.int .u64 (m:Int)):=fun s=>by
   rw [shr1];exact qu4 (fun x=>some (AV.int .u64 x)) oM
  have hcv2:cvI .i64 (.int .u64 (m:Int))=some (.int .i64 (m:Int)):=cv_i _ oM oM
  have hix:=ix44 (z:=44) (q:=m) (h.hx hx01).is (by rw [zoc];exact hml)
  have hld:=(h.hx hx01).agg (nl_at hml);have F:=J14 @g0 @g2 @g4 @g8 @g9 @g10 @d0 @hcv @hsh @hcv2 @hix @hld @hgx @zud;refine uX ?_;refine cR_f (zhj1 _ _ (hb _ (zuk hml)) hx) ?_;rintro r2 H2 ⟨rfl,hx2⟩;have hlt:=cmpN_lt (get rs m).nm x.nm;cases a1:lessB (get rs m).nm x.nm with
  |true =>
   rw [a1] at hlt;have F:=J7 @g0 @g2 @g4 @g8 @g9 @g10 @hlt;refine uT ?_;exact ⟨j - (m+1),oM,m+1,j,oM,hj,fun k hk=>(oM:k=m)▸a1,hj1,hx1.trans hx2,by push_cast;rfl,rfl⟩
  |false =>
   rw [a1] at hlt;have F:=J7 @g0 @g2 @g4 @g8 @g9 @g10 @hlt;refine uT ?_;exact ⟨m - i,oM,i,m,oM,oM,hi1,fun _=>a1,hx1.trans hx2,rfl,rfl⟩
theorem zvn1 (a b:List Rc):encC rcL (nl (a ++ b))=encC rcL (nl a) ++ encC rcL (nl b):=by
 show encC rcL ((a ++ b).map _)=_
 rw [qe3,zqi]
theorem zij1 (r:Rc):encC rcL (nl [r])=rcL (.nilSl,r):=by show encC rcL [(AV.nilSl,r)]=_;unfold encC;simp
theorem enc_ins (rs:List Rc) (r:Rc) (p:Nat):(encC rcL (nl rs)).take (p*44) ++ rcL (.nilSl,r) ++ (encC rcL (nl rs)).drop (p*44)=encC rcL (nl (rs.take p ++ r::rs.drop p)):=by
 rw [zse zra,znf zra,zvn1,show r::rs.drop p= [r] ++ rs.drop p from rfl,zvn1,zij1,qi1]
 show encC rcL ((rs.map _).take p) ++ (_ ++ encC rcL ((rs.map _).drop p))=encC rcL ((rs.take p).map _) ++ (_ ++ encC rcL ((rs.drop p).map _))
 rw [qk5,ql5]
theorem insx:lookM.ext 175=some HS.Ins.xInsert:=rfl
theorem slE_ls {L:Lk}{t e z:Nat}(ht:L.under t=some (.slice e)) (hz:L.size e=some z) (i n c:Nat) (op:Bool) (hc:n<=c):∃v,zua L t true false false [.sl i 0 n c op,.int .i64 (n:Int)]=some v:=by
 show ∃v,zgb L t (.sl i 0 n c op) (some (.int .i64 (n:Int))) none none=some v
 unfold zgb;simp only [maxOk,bndOf,ht,hz,natOf];rw [show Nat.ble n n=true from qe (qn _),show Nat.ble n c=true from qe hc]
 cases op with
 |false=>exact ⟨_,rfl⟩
 |true =>
  show ∃v,(match Nat.beq c n with|true=>(match Nat.beq 0 0 with|true=>some (AV.ext 1 i (c*z+1))|false=>none)|false=>some (AV.sl i (0+n*z) (n - n) (c - n) true))=some v
  cases Nat.beq c n<;>exact ⟨_,rfl⟩
theorem zlf1 {H:AH}[hn:HN H]{v:AV}{rs:List Rc}{N p j:Nat}{r:Rc}(h:OwR H v rs N) (hlen:rs.length<=1000) (hp:p<=rs.length) (hj:Row H j false false 84 44 (rcL (.nilSl,r))) (hjn:j<H.next) (hjb:blkNe v j) (hlo:H.lo<=N) (hN:N<=H.next) :
  FnE lookM 175 [v,.int .i64 (p:Int),.sl j 0 1 1 false] H fun s' H'=>OwR H' s' (rs.take p ++ r::rs.drop p) N/\HP (blkNe v) H H'/\(∀k,k<H.next->blkNe v k->blkNe s' k)/\s'.oneCell=true/\s'.toC= .lst [s']:=by
 have hll:(rs.take p ++ r::rs.drop p).length=rs.length+1:=by simp;omega
 rcases qi2 p rs.length with hlt|hge
 ·obtain ⟨h0,⟨rfl,h00⟩|⟨b,op,rfl,⟨cb,hg,hcb⟩,hNb,hb,hop⟩⟩:=h
  ·omega
  have hop:=hop oM;subst hop
  have hjb:j≠b:=fun e=>by subst e;exact hjb 0 rs.length rs.length true rfl
  obtain ⟨cj,hgj,hcj⟩:=hj;have hcjl:cj.l.length=44:=by rw [hcj];rfl
  obtain ⟨cv,hsub,hcv⟩:=Ce.sub_ex (c:=cj) (o:=0) (n:=44) oM
  have hcv:cv.l=rcL (.nilSl,r):=by rw [hcv,qd3,qx oM,hcj]
  have hx:HS.Ins.xInsert [.sl b 0 rs.length rs.length true,.int .i64 (Int.ofNat p),.sl j 0 1 1 false] H=some (.sl H.next 0 (rs.length+1) (rs.length+1) true,(H.drop b).new (.cells (.lst (HS.Ins.insL cb.l cv.l (p*44))) 84 44 true false)):=by
   have hsub':H.subC j 0 44=some cv:=by unfold AH.subC;rw [hgj];exact hsub
   unfold HS.Ins.xInsert;simp only [hn.hide];rw [show Nat.ble H.lo b=true from qe oM,show Nat.beq j b=false from by cases hq:Nat.beq j b with|false=>rfl|true=>exact absurd (qf hq) hjb,hg,hgj,hsub']
   simp only;have c1:Nat.beq rs.length rs.length=true:=qt2 _;have c2:Nat.blt p rs.length=true:=by rw [qt4];exact hlt
   have c3:Nat.beq cb.len (rs.length*44)=true:=by rw [Ce.len_l,hcb,h0];exact qt2 _
   have c4:Nat.beq cv.len 44=true:=by rw [Ce.len_l,hcv];rfl
   have c5:cv.one=true:=zdg (by rw [hcv];exact zbc _ rfl)
   have c6:cb.l.all AV.oneCell=true:=by rw [hcb];exact zqn1 rs
   have c7:Nat.blt 0 cj.len=true:=by rw [qt4,Ce.len_l,hcjl];omega
   have c8:Nat.ble rs.length 1000000=true:=qe oM
   rw [c1,c2,c3,c4,c5,c6,c7,c8];rfl
  refine (zaj insx hx).mono ?_;rintro r' H' ⟨rfl,rfl⟩;have hrow:Row ((H.drop b).new (.cells (.lst (HS.Ins.insL cb.l cv.l (p*44))) 84 44 true false)) H.next false true 84 44 (encC rcL (nl (rs.take p ++ r::rs.drop p))):=by
   have h1:Row ((H.drop b).new (.cells (.lst (HS.Ins.insL cb.l cv.l (p*44))) 84 44 true false)) (H.drop b).next false true 84 44 _:=Row.new (H:=H.drop b) hn.hide _ _ _ _ _;have h2:(Ce.lst (HS.Ins.insL cb.l cv.l (p*44))).l=encC rcL (nl (rs.take p ++ r::rs.drop p)):=by
    show HS.Ins.insL cb.l cv.l (p*44)=_
    unfold HS.Ins.insL;rw [hcb,hcv,enc_ins]
   rw [h2] at h1;exact h1
  refine ⟨⟨?_,.inr ⟨H.next,true,?_,hrow,hN,qd1 _,fun _=>rfl⟩⟩,?_,fun k hk _=>zga oM,rfl,rfl⟩
  ·rw [zmc zra,zoc]
  ·rw [hll]
  ·have h1:HP (·≠ b) H (H.drop b):=HP.put H b .defd
   have h2:HX (H.drop b) ((H.drop b).new (.cells (.lst (HS.Ins.insL cb.l cv.l (p*44))) 84 44 true false)):=HX.new _ _;exact h1.trans (h2.hp (fun _=>True)) fun i hi hb'=>⟨fun e=>by subst e;exact hb' 0 _ _ _ rfl,trivial⟩
 ·have hpe:p=rs.length:=oM
  subst hpe;rw [qp5,List.drop_length];have hxn:extS lookM 175 [v,.int .i64 (rs.length:Int),.sl j 0 1 1 false] H=none:=by
   unfold extS;rw [insx];show HS.Ins.xInsert [v,.int .i64 (Int.ofNat rs.length),.sl j 0 1 1 false] H=none
   rcases h.2 with ⟨rfl,_⟩|⟨b,op,rfl,_⟩
   ·rfl
   ·cases op with
    |false=>rfl
    |true =>
     unfold HS.Ins.xInsert;simp only [hn.hide];have c2:Nat.blt rs.length rs.length=false:=by cases hq:Nat.blt rs.length rs.length with|false=>rfl|true=>rw [qt4] at hq;exact absurd hq (qv5 _)
     split
     ·rw [c2];simp
     ·rfl
  refine zdf1 zwt hxn rfl ?_;have hl:∀H',fstO (zda .len lookM [49] [v] H')=some (.int .i64 rs.length):=fun H'=>ztc uRs (SlZ.is h.slZ)
  have hl1:∀H',fstO (zda .len lookM [49] [.sl j 0 1 1 false] H')=some (.int .i64 1):=fun H'=>rfl
  obtain ⟨u,hu⟩:∃u,zua lookM 49 true false false [v,.int .i64 (rs.length:Int)]=some u:=by
   rcases h.2 with ⟨rfl,h00⟩|⟨b,op,rfl,_⟩
   ·rw [h00];exact ⟨.nilSl,kR⟩
   ·exact slE_ls uRs sz3 b rs.length rs.length op (qn _)
  obtain ⟨s',H',ha,ho,hp2,hnx,hne⟩:=OwnS.app (b:=152) h (hj.slZ hjn (n:=1) (c:=1) (op':=false) rfl) (zbc _ rfl) oM oM hlo hN
  rw [← zij1,← zvn1] at ho;have d0:decide ((rs.length:Int)=(rs.length:Int))=true:=qk rfl;have F:=J6 f175c.eq_1 @hl @hl1 @hu @d0 @ha;refine uT ?_;have hs:s'.oneCell=true/\s'.toC= .lst [s']:=by
   rcases ho.2 with ⟨rfl,_⟩|⟨_,_,rfl,_⟩<;>exact ⟨rfl,rfl⟩
  refine ⟨?_,hp2,hne,hs.1,hs.2⟩;show OwnS H' s' (rs ++ [r]).length _ 44 _ N
  rw [qr];exact ho
theorem szR1:lookM.size 49=some 1:=kR
theorem zcj (nn:Int) (v v' lv:AV):(tbL nn v lv).set 1 v'=tbL nn v' lv:=rfl
theorem zjj1 (nn n':Int) (v lv:AV):(tbL nn v lv).set 0 (.int .i64 n')=tbL n' v lv:=rfl
theorem zha (nn:Int) (v lv:AV):(tbL nn v lv).length=7:=rfl
abbrev Fr (it:Nat) (v:AV):Nat->Prop:=fun k=>k≠it/\blkNe v k
theorem lay_ok {H:AH}[hn:HN H]{it N:Nat}{t:Tb}{v lv:AV}{x:Rc}(h:TbS H it t v lv N) (hlen:t.rs.length<=999) (hs:Srt t.rs) (hb:∀r,r∈t.rs->r.nm.size<=1000000) (hx:x.nm.size<=1000000) (hlo:H.lo<=N) (hN:N<=H.next) :
  FnE lookM 162 [.ptr it 0,.agg (rcL (.nilSl,x))] H fun r H'=>(∃v',TbS H' it ⟨t.nx,layL x t.rs⟩ v' lv N/\ ∀k,k<H.next->blkNe v k->blkNe v' k)/\HP (Fr it v) H H':=by
 refine fJ Tryz.f162 o162 ?_;have hit:=h.lt;have hge:=h.ge;have e1:=hEq_f (oM:it≠H.next)
 have F:=J5 @zpa @h.box @e1 @tb_1 @zud;refine uT ?_;have hx1:HX H (H.new (.cells (.lst (rcL (.nilSl,x))) 84 44 false false)):=HX.new _ _;refine cR_f (bs_ok (h.sl.hx hx1) oM hs hb hx) ?_
 rintro r1 H1 ⟨⟨b,rfl⟩,hx2⟩;have hx02:=hx1.trans hx2;have hgx:=(hx2.get (i:=H.next) (qd1 _)).trans (zaa _);have h1:=h.hx hx02;have hn1:=hx02.next;have hn2:H.next+1<=H1.next:=hx2.next;have hlo1:=hx02.lo;haveI:=hx02.hn;have hbs:∀H2:AH,bsF 44 1 (.agg [(.int .i64 (0)),(.str ⟨#[]⟩),(.int .i64 (0)),(.int .i64 (0)),.nilSl,(.int .i64 (0)),(.int .i64 (0)),(.int .u8 (0)),(.int .u8 (0)),(.int .u8 (0)),(.int .u8 (0)),(.int .u8 (0)),(.int .u8 (0)),(.int .u8 (0)),(.int .u8 (0)),(.int .u8 (0)),(.int .u8 (0)),(.int .u8 (0)),(.int .u8 (0)),(.int .u8 (0)),(.int .u8 (0)),(.int .u8 (0)),(.int .u8 (0)),(.int .u8 (0)),(.int .u8 (0)),(.int .u8 (0)),(.int .u8 (0)),(.int .u8 (0)),(.int .u8 (0)),(.int .u8 (0)),(.int .u8 (0)),(.int .u8 (0)),(.int .u8 (0)),(.int .u8 (0)),(.int .u8 (0)),(.int .u8 (0)),(.int .u8 (0)),(.int .u8 (0)),(.int .u8 (0)),(.int .i64 (0)),(.int .i64 (0)),(.int .i64 (0)),(.int .i64 (0)),(.int .i64 (0))]) 84 (zipF [0] [.agg (rcL (.nilSl,x))]) H2=some (.sl H2.next 0 1 1 false,H2.new (.cells (.lst (rcL (.nilSl,x))) 84 44 false false)):=fun H2=>bs1_q rfl rfl rfl
 have e2:=hEq_f (oM:it≠H1.next)
 have F:=J7 @h1.box @tb_1 @hgx @zud @hbs @zrk @zsk;refine uT ?_;have hx3:HX H1 (H1.new (.cells (.lst (rcL (.nilSl,x))) 84 44 false false)):=HX.new _ _;have h3:=h1.hx hx3;have hrow:Row (H1.new (.cells (.lst (rcL (.nilSl,x))) 84 44 false false)) H1.next false false 84 44 (rcL (.nilSl,x)):=Row.new HN.hide _ _ _ _ _;have hjb:blkNe v H1.next:=by
  rcases h1.own.2 with ⟨rfl,_⟩|⟨j,op,rfl,_,_,hj,_⟩
  ·exact zfa _
  ·exact zga oM
 refine cR_f (zlf1 h3.own oM (zrt _ _) hrow (qd1 _) hjb (by show H1.lo<=N;omega) (by show N<=H1.next+1;omega)) ?_
 rintro s' H4 ⟨ho4,hp4,hne4,hs1,hs2⟩;have hbx:blkNe v it:=OwnS.ne h3.own h3.box dC
 have hg4:=(hp4.get h3.lt hbx).trans h3.box;have hn4:=hp4.next;have hn4':H1.next+1<=H4.next:=hn4;have hlo4:H4.lo<=it:=by rw [hp4.lo];show H1.lo<=it;omega
 have hst:=st1_w (L:=lookM) (t:=49) (i:=it) (o:=1) (H:=H4) szR1 hs1 hs2 hlo4;have hwr:=wr1_l (i:=it) (o:=1) (v:=s') (H:=H4) (l:=tbL t.nx v lv) (e:=53) (z:=7) (op:=false) (by show 1<7;omega)
 have F:=J4 @hst @hg4 @hwr @zcj;refine uT ?_;have hxx:HP (Fr it v) H (H4.put it (.cells (.lst (tbL t.nx s' lv)) 53 7 false false)):=by
  have a1:=(hx02.trans hx3).hp (fun _=>True)
  exact (a1.trans hp4 (r:=Fr it v) (fun i hi hf=>⟨trivial,hf.2⟩)).trans (HP.put H4 it _) (fun i hi hf=>⟨hf,hf.1⟩)
 have hput:HP (·≠ it) H4 (H4.put it (.cells (.lst (tbL t.nx s' lv)) 53 7 false false)):=HP.put _ _ _;haveI:HN H4:=hp4.hn;refine ⟨⟨s',⟨?_,hge,zia _ _,?_,?_⟩,fun k hk hb=>hne4 k (oM:k<H1.next+1) hb⟩,hxx⟩
 ·show it<H4.next;omega
 ·refine OwnS.hq ho4 hput fun j o n c op he=> ?_
  intro e;subst e;exact hne4 _ (oM:_<H1.next+1) hbx _ _ _ _ he
 ·have a2:OwL H4 lv N:=OwnS.hq h3.lvo hp4 fun j o n c op he=>by
   rcases h3.lvo.2 with ⟨_,hc⟩|⟨j',op',rfl,⟨cc,hg,_⟩,_⟩
   ·cases hc
   ·cases he
    exact OwnS.ne h3.own hg dC
  refine OwnS.hq a2 hput fun j o n c op he=> ?_
  rcases a2.2 with ⟨_,hc⟩|⟨j',op',rfl,⟨cc,hg,_⟩,_⟩
  ·cases hc
  ·cases he
   intro e;subst e;rw [hg4] at hg;cases hg
def zoa1:Code:=bodyN lookM 166
def f166c:C2:=(.reg (m_ (tO 0) 4<|m_ (tO 0) 5<|l_ (tO 1) 6<|l_ (tO 2) 7<|nl_ (tO 4) 8<|fa_ 42 (tO 8) 9<|K2.gw (gwX lookM zoa1 0 6) (gwP lookM zoa1 0 6) none<|nl_ (tO 5) 10<|fa_ 43 (tO 10) 11<|s1_ false lookM 3 (tO 11) (tO 7)<| .done))
theorem f166_eq:fnF lookM 166=some ⟨12,f166c, []⟩:=kR
theorem sz3i:lookM.size 3=some 1:=kR
theorem zkj1 (a:AV) (x:Rc) (n:Int):(rcL (a,x)).set 0 (.int .i64 n)=rcL (a,{x with id:=n}):=rfl
theorem zmm {H:AH}[hn:HN H]{it N:Nat}{t:Tb}{v lv:AV}{x:Rc}(h:TbS H it t v lv N) (hlen:t.rs.length<=999) (hs:Srt t.rs) (hb:∀r,r∈t.rs->r.nm.size<=1000000) (hx:x.nm.size<=1000000) (hnx:0<=t.nx/\t.nx<=4294967296) (hlo:H.lo<=N) (hN:N<=H.next) :
  FnE lookM 147 [.ptr it 0,.agg (rcL (.nilSl,x))] H fun r H'=>(r= .int .i64 0/\ ∃v',TbS H' it (putT t x) v' lv N/\ ∀k,k<H.next->blkNe v k->blkNe v' k)/\HP (Fr it v) H H':=by
 refine fI Tryz.f147 ?_;have hit:=h.lt;have hge:=h.ge;have e1:=hEq_f (oM:it≠H.next)
 have e2:=hEq_f (oM:H.next≠it)
 have hlt:=hn.lo;have hnx1:=hnx.1;have hnx2:=hnx.2;have hst:∀(i o:Nat) (n:Int) (H:AH),H.lo<=i->st1 lookM 3 (.ptr i o) (.int .i64 n) H=wr1 (H.get i) i o (.int .i64 n) H:=fun i o n H h=>st1_w sz3i rfl rfl h
 have hw0:∀(n:Int) (i:Nat) (H:AH),wr1 (some (.cells (.lst (rcL (.nilSl,x))) 84 44 false false)) i 0 (.int .i64 n) H=some (H.put i (.cells (.lst (rcL (.nilSl,{x with id:=n}))) 84 44 false false)):=fun n i H=>by rw [wr1_l (by rw [zra];omega),zkj1]
 have hw1:∀(n:Int) (i:Nat) (H:AH),wr1 (some (.cells (.lst (tbL t.nx v lv)) 53 7 false false)) i 0 (.int .i64 n) H=some (H.put i (.cells (.lst (tbL n v lv)) 53 7 false false)):=fun n i H=>by rw [wr1_l (by show 0<7;omega),zjj1]
 have F:=J9 @zpa @h.box @e1 @e2 @tb_0 @hst @hw0 @hw1 @zud;refine uT ?_;have hx1:HX H ((H.new (.cells (.lst (rcL (.nilSl,x))) 84 44 false false)).put H.next (.cells (.lst (rcL (.nilSl,{x with id:=t.nx}))) 84 44 false false)):=hxt
 have h1:=h.hx hx1;have hgx:((H.new (.cells (.lst (rcL (.nilSl,x))) 84 44 false false)).put H.next (.cells (.lst (rcL (.nilSl,{x with id:=t.nx}))) 84 44 false false)).next=H.next+1:=rfl
 have hgl:((H.new (.cells (.lst (rcL (.nilSl,x))) 84 44 false false)).put H.next (.cells (.lst (rcL (.nilSl,{x with id:=t.nx}))) 84 44 false false)).lo=H.lo:=rfl
 have hh1:HN ((H.new (.cells (.lst (rcL (.nilSl,x))) 84 44 false false)).put H.next (.cells (.lst (rcL (.nilSl,{x with id:=t.nx}))) 84 44 false false)):=inferInstance
 generalize ((H.new (.cells (.lst (rcL (.nilSl,x))) 84 44 false false)).put H.next (.cells (.lst (rcL (.nilSl,{x with id:=t.nx}))) 84 44 false false))=H1 at *
 have h2:TbS (H1.put it (.cells (.lst (tbL (t.nx+1) v lv)) 53 7 false false)) it ⟨t.nx+1,t.rs⟩ v lv N:=by
  have hput:HP (·≠ it) H1 (H1.put it (.cells (.lst (tbL (t.nx+1) v lv)) 53 7 false false)):=HP.put _ _ _;refine ⟨h1.lt,hge,zia _ _,OwnS.hq h1.own hput fun j o n c op he=> ?_,OwnS.hq h1.lvo hput fun j o n c op he=> ?_⟩
  ·intro e
   subst e;exact OwnS.ne h1.own h1.box dC _ _ _ _ he
  ·intro e
   subst e;exact OwnS.ne h1.lvo h1.box dC _ _ _ _ he
 refine cR_f (lay_ok h2 hlen hs hb hx (by show H1.lo<=N;omega) (by show N<=H1.next;omega)) ?_
 rintro r H2 ⟨⟨v',h3,h4⟩,hp⟩;have hx1n:=hx1.next;refine uT0 ?_;refine ⟨⟨v',h3,fun k hk=>h4 k (oM:k<H1.next)⟩,?_⟩
 exact ((hx1.hp (fun _=>True)).trans (HP.put H1 it _) (r:=Fr it v) (fun i _ hi=>⟨trivial,hi.1⟩)).trans hp fun i _ hi=>⟨hi,hi⟩
def RdR (H:AH) (v:AV) (rs:List Rc):Prop:=(v= .nilSl/\rs= [])\/ ∃j c op cs,v= .sl j 0 rs.length c op/\j<H.next/\Row H j false op 84 44 cs/\rs.length<=c/\rs.length*44<=cs.length/\cs.take (rs.length*44)=encC rcL (nl rs)
theorem OwR.rd {H:AH}{v:AV}{rs:List Rc}{N:Nat}(h:OwR H v rs N):RdR H v rs:=by
 rcases h.2 with ⟨rfl,h0⟩|⟨j,op,rfl,hr,_,hj,_⟩
 ·exact .inl ⟨rfl,qk1 h0⟩
 ·exact .inr ⟨j,_,op,_,rfl,hj,hr,qn _,by rw [h.1];exact qn _,qx (by rw [h.1];exact qn _)⟩
theorem RdR.sl {H:AH}{v:AV}{rs:List Rc}(h:RdR H v rs):SlRc H v (nl rs):=by
 refine ⟨⟨by rw [zmc zra],?_⟩,fun p hp=> ?_,fun i o n c op hv=> ?_⟩
 ·rcases h with ⟨rfl,rfl⟩|⟨j,c,op,cs,rfl,hj,hr,hc,hl,ht⟩
  ·exact .inl ⟨rfl,rfl⟩
  ·refine .inr ⟨j,0,c,op,false,op,_,44,cs,by rw [zoc],hj,hr,by rw [zoc];omega,by rw [zoc,qd3];exact ht⟩
 ·obtain ⟨r,_,rfl⟩:=qy2.1 hp
  exact .inl ⟨rfl,rfl⟩
 ·rcases h with ⟨rfl,rfl⟩|⟨j,c',op',cs,rfl,hj,hr,hc,_⟩
  ·cases hv
  ·cases hv;exact hc
theorem RdR.hq {H H':AH}{v:AV}{rs:List Rc}(h:RdR H v rs){p:Nat->Prop}(hx:HP p H H') (hb:∀j o n c op,v= .sl j o n c op->p j):RdR H' v rs:=by
 rcases h with h|⟨j,c,op,cs,rfl,hj,hr,hc⟩
 ·exact .inl h
 ·exact .inr ⟨j,c,op,cs,rfl,qz hj hx.next,hr.hp hx hj (hb _ _ _ _ _ rfl),hc⟩
theorem RdR.ne {H:AH}{v:AV}{rs:List Rc}(h:RdR H v rs){it:Nat}{c:Ce}{e' z':Nat}{op ro:Bool}(hb:H.get it=some (.cells c e' z' op ro)) (hz:44≠z'):blkNe v it:=by
 rcases h with ⟨rfl,_⟩|⟨j,c,op',cs,rfl,hj,⟨cc,hg,_⟩,_⟩
 ·exact zfa _
 ·refine zga fun e=> ?_
  subst e;rw [hb] at hg;cases hg;exact hz rfl
theorem RdR.one {H:AH}{v:AV}{rs:List Rc}(h:RdR H v rs):v.oneCell=true:=by
 rcases h with ⟨rfl,_⟩|⟨j,c,op',cs,rfl,_⟩<;>rfl
structure TbO (H:AH) (it:Nat) (t:Tb) (v lv:AV) (N:Nat):Prop where
 box:H.get it=some (.cells (.lst (tbL t.nx v lv)) 53 7 false false)
 own:RdR H v t.rs
 lvo:OwL H lv N
theorem TbS.o {H:AH}{it:Nat}{t:Tb}{v lv:AV}{N:Nat}(h:TbS H it t v lv N):TbO H it t v lv N:=⟨h.box,OwR.rd h.own,h.lvo⟩
def ClOk (g:Nat) (caps:List AV) (H0:AH) (t:Tb) (out:Res):Prop:= ∀(H1:AH) (it:Nat) (v lv:AV),HX H0 H1->HN H1->TbS H1 it t v lv H0.next ->
 FnE lookM g (.ptr it 0::caps) H1 fun r H2=>r= .int .i64 out.2/\HP (Fr it v) H1 H2/\(∀t2,out.1=some t2-> ∃v2,TbO H2 it t2 v2 lv H0.next)
def ResW (out:Res):Prop:=(∃t2,out=good t2)\/(∃e,e≠0/\out=bad e)
abbrev tb0:AV:=tbA 0 .nilSl .nilSl
def TbR (H:AH) (r:AV) (out:Res):Prop:=(∃e,e≠0/\out=bad e/\r= .tup [tb0,.int .i64 e])\/(∃t2 v lv,out=good t2/\r= .tup [tbA t2.nx v lv,.int .i64 0]/\RdR H v t2.rs/\OwL H lv 0)
theorem ResW.bad {e:Int}(h:e≠0):ResW (bad e):=.inr ⟨e,h,rfl⟩
theorem ResW.good {t:Tb}:ResW (good t):=.inl ⟨t,rfl⟩
structure TbIn (H:AH) (t:Tb) (v lv:AV):Prop where
 sl:SlRc H v (nl t.rs)
 lv:Lv H lv
 len:t.rs.length<=900
 nm:∀r,r∈t.rs->r.nm.size<=100000
 nx:0<=t.nx/\t.nx<=4294967296
theorem TbIn.hx {H H':AH}{t:Tb}{v lv:AV}(h:TbIn H t v lv) (hx:HX H H'):TbIn H' t v lv:=⟨h.sl.hx hx,SlR.hx h.lv hx,h.len,h.nm,h.nx⟩
theorem tb_bu:zsa lookM 53 (zipF [] [])=some tb0:=kR
theorem zbb {nn:Int}{v lv:AV}(h1:v.oneCell=true) (h2:lv.oneCell=true):(tbL nn v lv).all AV.oneCell=true:=by
 show (true && (v.oneCell && (true && (true && (true && (true && (lv.oneCell && true)))))))=true
 rw [h1,h2];rfl
theorem OwnS.one {H:AH}{s:AV}{n e z N:Nat}{cs:List AV}(h:OwnS H s n e z cs N):s.oneCell=true/\s.toC= .lst [s]:=by
 rcases h.2 with ⟨rfl,_⟩|⟨j,op,rfl,_⟩<;>exact ⟨rfl,rfl⟩
theorem sz35:lookM.size 35=some 1:=kR
theorem tb_set6 (nn:Int) (v lv l':AV):(tbL nn v lv).set 6 l'=tbL nn v l':=rfl
abbrev tbx (nn:Int) (v lv:AV):ABlk:=.cells (.lst (tbL nn v lv)) 53 7 false false
theorem zch {H:AH}[hn:HN H]{t:Tb}{v lv:AV}{g:Nat}{caps:List AV}{out:Res}(h:TbIn H t v lv) (hcl:zvb t=true->ClOk g caps H t out) (hw:ResW out) :
  FnE lookM 142 [tbA t.nx v lv,.fn (.func g) [] caps] H fun r H'=>TbR H' r (if zvb t then out else bad 2)/\HX H H':=by
 refine fI Tryz.f142 ?_;have hlo:=hn.lo;have htz:AV.toC (.agg [(.int .i64 (0)),.nilSl,(.int .i64 (0)),(.int .i64 (0)),(.int .i64 (0)),(.int .i64 (0)),.nilSl])= .lst (tbL 0 .nilSl .nilSl):=rfl;have e1:=hEq_f (oM:H.next≠H.next+1)
 have e1':=hEq_f (oM:H.next+1≠H.next)
 have F:=J4 @zba @htz @e1 @zea;refine uT ?_;refine cR_at (fun H1=>HX H H1/\H1.next=H.next+2/\H1.get H.next=some (tbx t.nx v lv)/\H1.get (H.next+1)=some (tbx 0 .nilSl .nilSl)) ?_ ?_
 ·exact ⟨hxt,rfl,by rw [zah _ (oM:H.next≠H.next+1),zaa],zaa _⟩
 rintro H1 ⟨hx1,hn1,hg1,hr1⟩;haveI:=hx1.hn;refine cR_f (zpn1 (h.sl.hx hx1) (SlR.hx h.lv hx1) (by have:=h.len;rw [zoc];omega) (fun p hp=>by obtain ⟨r,hr,rfl⟩:=qy2.1 hp;have:=h.nm r hr;show r.nm.size<=_;omega)) ?_
 rw [zef1];rintro r2 H2 ⟨rfl,hx2⟩;have hx02:=hx1.trans hx2;have hn2:=hx2.next;have hg2:=(hx2.get oM).trans hg1
 have hr2:=(hx2.get oM).trans hr1
 haveI:=hx02.hn;have hlo2:H2.lo=H.lo:=hx02.lo;have o1:=zbb (nn:=0) (v:=.nilSl) (lv:=.nilSl) rfl rfl;unfold chkI;have htt:(⟨t.nx,t.rs⟩:Tb)=t:=rfl;rw [htt];cases hc:zvb t with
 |false =>
  have F:=J7 @hg2 @hr2 @tb_bu @zba @zea @zha @ld7;refine uX ?_;exact ⟨.inl ⟨2,dC,rfl,rfl⟩,by have K:=hx02;exact hxk⟩
 |true =>
 have F:=J3 @hg2 @hr2 @tb_6;refine uT ?_;refine cR_f (zff1 (SlR.hx h.lv hx02)) ?_;rintro l3 H3 ⟨hl3,hx3⟩;have hx03:=hx02.trans hx3;have hn3:=hx3.next;have hg3:=(hx3.get oM).trans hg2
 have hr3:=(hx3.get oM).trans hr2
 haveI:=hx03.hn;have hlo3:H3.lo=H.lo:=hx03.lo;have hst:=st1_w (L:=lookM) (t:=35) (i:=H.next) (o:=6) (H:=H3) sz35 (OwnS.one hl3).1 (OwnS.one hl3).2 oM
 have hwr:=wr1_l (i:=H.next) (o:=6) (v:=l3) (H:=H3) (l:=tbL t.nx v lv) (e:=53) (z:=7) (op:=false) (by show 6<7;omega)
 have F:=J5 @hst @hg3 @hwr @tb_set6 @tb_1;refine uT ?_;refine cR_at (fun H4=>HX H H4/\H4.next=H3.next/\H4.get H.next=some (tbx t.nx v l3)/\H4.get (H.next+1)=some (tbx 0 .nilSl .nilSl)/\OwL H4 l3 H.next) ?_ ?_
 ·refine ⟨HX.put hx03 (qn _) _,rfl,zia _ _,(zyb _ oM).trans hr3,OwnS.hq (OwnS.le hl3 oM) (HP.put H3 H.next _) fun j o n c op he=> ?_⟩
  intro e;subst e;exact OwnS.ne hl3 hg3 dC _ _ _ _ he
 rintro H4 ⟨hx04,hn4,hg4,hr4,hl4⟩;haveI:=hx04.hn;have hlo4:H4.lo=H.lo:=hx04.lo;refine cR_f (each_ok (h.sl.hx hx04) (by have:=h.len;omega)) ?_
 rintro v5 H5 ⟨hv5,hx5⟩;have hx05:=hx04.trans hx5;have hn5:=hx5.next;have hg5:=(hx5.get oM).trans hg4
 have hr5:=(hx5.get oM).trans hr4
 have hl5:=OwnS.hx hl4 hx5;haveI:=hx05.hn;have hlo5:H5.lo=H.lo:=hx05.lo;have hst:=st1_w (L:=lookM) (t:=49) (i:=H.next) (o:=1) (H:=H5) szR1 (OwnS.one hv5).1 (OwnS.one hv5).2 oM
 have hwr:=wr1_l (i:=H.next) (o:=1) (v:=v5) (H:=H5) (l:=tbL t.nx v l3) (e:=53) (z:=7) (op:=false) (by show 1<7;omega)
 have F:=J4 @hst @hg5 @hwr @zcj;refine uX ?_;refine cR_at (fun H6=>HX H H6/\H6.next=H5.next/\H6.get (H.next+1)=some (tbx 0 .nilSl .nilSl)/\TbS H6 H.next t v5 l3 H.next) ?_ ?_
 ·refine ⟨HX.put hx05 (qn _) _,rfl,(zyb _ oM).trans hr5,⟨by show H.next<H5.next;omega,qn _,zia _ _,OwnS.hq (OwnS.le hv5 oM) (HP.put H5 H.next _) fun j o n c op he=> ?_,OwnS.hq hl5 (HP.put H5 H.next _) fun j o n c op he=> ?_⟩⟩
  ·intro e
   subst e;exact OwnS.ne hv5 hg5 dC _ _ _ _ he
  ·intro e
   subst e;exact OwnS.ne hl5 hg5 dC _ _ _ _ he
 rintro H6 ⟨hx06,hn6,hr6,ht6⟩;haveI:=hx06.hn;refine cR_f (hcl hc H6 H.next v5 l3 hx06 inferInstance ht6) ?_;rintro r7 H7 ⟨rfl,hp7,ht7⟩;have hfr:∀i,i<H.next->Fr H.next v5 i:=fun i hi=>⟨oM,by
  rcases ht6.own.2 with ⟨rfl,_⟩|⟨j,op,rfl,_,hj,_⟩
  ·exact zfa _
  ·exact zga oM⟩
 have hx07:=HX.hp2 hx06 hp7 hfr;have hn7:=hp7.next;have hr7:=(hp7.get (i:=H.next+1) oM ⟨oM,OwnS.ne ht6.own hr6 dC⟩).trans hr6
 haveI:=hx07.hn;have hlo7:H7.lo=H.lo:=hx07.lo;rcases hw with ⟨t2,rfl⟩|⟨e,he,rfl⟩
 ·obtain ⟨v2,ht8⟩:=ht7 t2 rfl
  have o2:=zbb (nn:=t2.nx) (RdR.one ht8.own) (OwnS.one ht8.lvo).1;have eg:(good t2).2=0:=rfl;have F:=J7 @eg @ht8.box @hr7 @zea @zba @zha @ld7;refine uT ?_;have hpx:HX H7 (H7.put (H.next+1) (tbx t2.nx v2 l3))\/True:=.inr trivial;refine ⟨.inr ⟨t2,v2,l3,rfl,rfl,?_,?_⟩,HX.put hx07 oM _⟩
  ·refine RdR.hq ht8.own (HP.put H7 (H.next+1) _) fun j o n c op he=> ?_
   intro e;subst e;exact RdR.ne ht8.own hr7 dC _ _ _ _ he
  ·refine OwnS.le (OwnS.hq ht8.lvo (HP.put H7 (H.next+1) _) fun j o n c op he=> ?_) (qo2 _)
   intro e;subst e;exact OwnS.ne ht8.lvo hr7 dC _ _ _ _ he
 ·have eb:(bad e).2=e:=rfl
  have d1:decide (e≠0)=true:=qk he;have F:=J8 @eb @d1 @hr7 @tb_bu @zba @zea @zha @ld7;refine uT ?_;exact ⟨.inl ⟨e,he,rfl,rfl⟩,HX.put hx07 oM _⟩
theorem TbR.put {H:AH}[hn:HN H]{t2:Tb}{v lv:AV}{rb:Nat}{nn:Int}{v' l':AV}(h1:RdR H v t2.rs) (h2:OwL H lv 0) (hb:H.get rb=some (tbx nn v' l')) (b:ABlk):RdR (H.put rb b) v t2.rs/\OwL (H.put rb b) lv 0:=by
 refine ⟨RdR.hq h1 (HP.put H rb _) fun j o n c op he=> ?_,OwnS.hq h2 (HP.put H rb _) fun j o n c op he=> ?_⟩
 ·intro e
  subst e;exact RdR.ne h1 hb dC _ _ _ _ he
 ·intro e
  subst e;exact OwnS.ne h2 hb dC _ _ _ _ he
theorem zvd (d:Nat) (v:AV) (T:Tr AV):putS (some (sOf d)) v T=pS d v T:=rfl
theorem zhb {H H':AH}(hx:HX H H'):∀js:List Nat,(∀i,i∈js->i<H.next/\ ∃c e z op ro,H.get i=some (.cells c e z op ro))->zsg H H' js=true
 | [],_=>rfl
 |i::js,h=>by
  obtain ⟨h1,c,e,z,op,ro,h2⟩:=h i qq1;exact zzl (show Row H i ro op e z c.l from ⟨c,h2,rfl⟩) (hx.get h1) (zhb hx js fun k hk=>h k (qj1 _ hk))
theorem mk_bu (s:ByteArray) (n m:Int):zsa lookM 84 (zipF [1,2,3,5] [.str s,.int .i64 1,.int .i64 n,.int .i64 m])=some (.agg (rcL (.nilSl,⟨0,s,1,n,m,0,0,0,0⟩))):=kR
theorem sn_bu (s:ByteArray) (n m o:Int):zsa lookM 84 (zipF [1,2,3,4,5,6] [.str s,.int .i64 2,.int .i64 n,roA .nilSl,.int .i64 m,.int .i64 o])=some (.agg (rcL (.nilSl,⟨0,s,2,n,m,o,0,0,0⟩))):=kR
theorem cl_bu (s:ByteArray) (n m o:Int):zsa lookM 84 (zipF [1,2,3,4,5,7] [.str s,.int .i64 1,.int .i64 n,roA .nilSl,.int .i64 m,.int .i64 o])=some (.agg (rcL (.nilSl,⟨0,s,1,n,m,0,o,0,0⟩))):=kR
abbrev bxs (s:ByteArray):ABlk:=.cells (.lst [.str s]) 9 1 false false
abbrev bxi (n:Int):ABlk:=.cells (.lst [.int .i64 n]) 3 1 false false
def makeO (t:Tb) (s:ByteArray) (n:Int):Res:=if partB s && wi n 1 64 then (if roomE t s=0 then good (putT t ⟨0,s,1,n,1,0,0,0,0⟩) else bad (roomE t s)) else bad 2
theorem zpa1 (t:Tb) (s:ByteArray) (n:Int):makeT t s n=if zvb t then makeO t s n else bad 2:=by
 unfold makeT makeO;cases zvb t<;>rfl
theorem makeO_w (t:Tb) (s:ByteArray) (n:Int):ResW (makeO t s n):=by
 unfold makeO;split
 ·split
  ·exact .good
  ·next h=>exact .bad h
 ·exact .bad dC
theorem zqa1 {H:AH}[hn:HN H]{it:Nat}{t:Tb}{v lv:AV}{N:Nat}{s:ByteArray}(ht:TbS H it t v lv N) (hlen:t.rs.length<=900):FnE lookM 146 [.ptr it 0,.str s] H fun r H'=>r= .int .i64 (roomE t s)/\HX H H':=by
 have:=room_ok (s:=s) ht.lt ht.box ht.sl (by rw [zoc];omega)
 rw [zef1] at this;exact this
theorem zxh {H:AH}[hn:HN H]{t:Tb}{v lv:AV}{s:ByteArray}(hsl:SlRc H v (nl t.rs)) (hlen:t.rs.length<=900):FnE lookM 68 [tbA t.nx v lv,.str s] H fun r H'=>r= .tup [.int .i64 (fndI s t.rs:Nat),.bool (hasB s t.rs)]/\HX H H':=by
 have:=zzz (nn:=t.nx) (lv:=lv) (s:=s) hsl (by rw [zoc];omega)
 rw [zef1] at this;exact this
theorem zwn1 {H0:AH}[hn0:HN H0]{t:Tb}{s:ByteArray}{n:Int}{b1 b2 b3:Nat}(hk:Ok t) (hlen:t.rs.length<=900) (hnm:∀r,r∈t.rs->r.nm.size<=100000) (hs:s.size<=100000)
  (h1:b1<H0.next) (h2:b2<H0.next) (h3:b3<H0.next) (g1:H0.get b1=some (bxs s)) (g2:H0.get b2=some (bxi n)) (g3:H0.get b3=some (bxi 1)) :
  ClOk 143 [.ptr b1 0,.ptr b2 0,.ptr b3 0] H0 t (makeO t s n):=by
 intro H1 it v lv hx hn1 ht;refine fI Tryz.f143 ?_;have k1:=(hx.get h1).trans g1;have k2:=(hx.get h2).trans g2;have k3:=(hx.get h3).trans g3;have hv:= @FnX.p _ _ _ _ (zvn s);have hz:= @FnX.p _ _ _ _ (zaa1 n);have hcm:= @FnX.p _ _ _ _ zwn;have hN:=hx.next;have hlo:H1.lo<=H0.next:=by rw [hx.lo];exact hn0.lo
 unfold makeO;cases a1:partB s with
 |false=>have F:=J3 @k1 @hv @a1;refine uT ?_;exact ⟨rfl,HP.refl _ _,fun t2 h=>by cases h⟩
 |true =>
 cases a2:wi n 1 64 with
 |false=>have F:=J6 @k1 @k2 @hv @hz @a1 @a2;refine uT ?_;exact ⟨rfl,HP.refl _ _,fun t2 h=>by cases h⟩
 |true =>
 have F:=J8 @k1 @k2 @k3 @hv @hz @hcm @a1 @a2;refine uT ?_;refine cR_f (zqa1 ht hlen) ?_;rintro r2 H2 ⟨rfl,hx2⟩;have hx02:=hx.trans hx2;have m1:=(hx02.get h1).trans g1;have m2:=(hx02.get h2).trans g2;have m3:=(hx02.get h3).trans g3;haveI:=hx02.hn;have hn2:=hx2.next;by_cases hr:roomE t s=0
 ·have hgd:(if (true && true)=true then (if roomE t s=0 then good (putT t ⟨0,s,1,n,1,0,0,0,0⟩) else bad (roomE t s)) else bad 2)=good (putT t ⟨0,s,1,n,1,0,0,0,0⟩):=by simp [hr]
  rw [hgd,hr];have F:=J4 @m1 @m2 @m3 @mk_bu;refine uT ?_;refine cR_f (zmm (ht.hx hx2) oM hk.srt (fun r hr=>by have:=hnm r hr;omega) (by show s.size<=_;omega) (by have:=hk.nx;omega) (by rw [hx2.lo];exact hlo) oM) ?_
  rintro r3 H3 ⟨⟨rfl,v',ht3,_⟩,hp3⟩;refine uT0 ?_;exact ⟨rfl,(hx2.hp (fun _=>True)).trans hp3 fun i _ hi=>⟨trivial,hi⟩,fun t2 h=>by cases h;exact ⟨v',ht3.o⟩⟩
 ·have hgd:(if (true && true)=true then (if roomE t s=0 then good (putT t ⟨0,s,1,n,1,0,0,0,0⟩) else bad (roomE t s)) else bad 2)=bad (roomE t s):=by simp [hr]
  rw [hgd];have d1:decide (roomE t s≠0)=true:=qk hr;have F:=@d1;refine uT ?_;exact ⟨rfl,hx2.hp _,fun t2 h=>by cases h⟩
theorem zcb:AV.toC (.agg [(.int .i64 (0)),.nilSl,(.int .i64 (0)),(.int .i64 (0)),(.int .i64 (0)),(.int .i64 (0)),.nilSl])= .lst (tbL 0 .nilSl .nilSl):=rfl
theorem make_ok {H:AH}[hn:HN H]{t:Tb}{v lv:AV}{s:ByteArray}{n:Int}(h:TbIn H t v lv) (hs:s.size<=100000) :
  FnE lookM 134 [tbA t.nx v lv,.str s,.int .i64 n,.int .i64 1] H fun r H'=>TbR H' r (makeT t s n)/\HX H H':=by
 refine fI Tryz.f134 ?_;have hlo:=hn.lo;have F:=J3 @zba @zcb @zea;refine uT ?_;refine cR_at (fun H1=>HX H H1/\H1.next=H.next+5/\H1.get (H.next+1)=some (bxs s)/\H1.get (H.next+2)=some (bxi n)/\H1.get (H.next+3)=some (bxi 1)/\H1.get (H.next+4)=some (tbx 0 .nilSl .nilSl)) ?_ ?_
 ·exact ⟨hxt,rfl,vT0,vT0,vT0,vT0⟩
 rintro H1 ⟨hx1,hn1,g1,g2,g3,gr⟩;haveI:=hx1.hn;refine cR_f (zch (h.hx hx1) (fun hc=>zwn1 (checkB_ok.1 hc) h.len h.nm hs oM oM oM g1 g2 g3) (makeO_w t s n)) ?_
 rw [← zpa1];rintro r2 H2 ⟨ht2,hx2⟩;have gr2:=(hx2.get oM).trans gr
 have hx02:=hx1.trans hx2;haveI:=hx02.hn;have hlo2:H2.lo=H.lo:=hx02.lo;rcases ht2 with ⟨e,he,h1,rfl⟩|⟨t2,v2,l2,h1,rfl,h3,h4⟩
 ·have o1:=zbb (nn:=0) (v:=.nilSl) (lv:=.nilSl) rfl rfl
  have F:=J5 @gr2 @zea @zba @zha @ld7;refine uT ?_;exact ⟨.inl ⟨e,he,h1,rfl⟩,HX.put hx02 oM _⟩
 ·have o1:=zbb (nn:=t2.nx) (v:=v2) (lv:=l2) (RdR.one h3) (OwnS.one h4).1
  have F:=J5 @gr2 @zea @zba @zha @ld7;refine uT ?_;obtain ⟨p1,p2⟩:=TbR.put h3 h4 gr2 (tbx t2.nx v2 l2);exact ⟨.inr ⟨t2,v2,l2,h1,rfl,p1,p2⟩,HX.put hx02 oM _⟩
def snapO (t:Tb) (s:ByteArray):Res:=if snapB s then (if hasB (splA s) t.rs then (if roomE t s=0 then good (putT t ⟨0,s,2,(get t.rs (fndI (splA s) t.rs)).sz,1,(get t.rs (fndI (splA s) t.rs)).id,0,0,0⟩) else bad (roomE t s)) else bad 6) else bad 2
theorem zra1 (t:Tb) (s:ByteArray):snapT t s=if zvb t then snapO t s else bad 2:=by
 unfold snapT snapO;cases zvb t<;>rfl
theorem snapO_w (t:Tb) (s:ByteArray):ResW (snapO t s):=by
 unfold snapO;split
 ·split
  ·split
   ·exact .good
   ·next h=>exact .bad h
  ·exact .bad dC
 ·exact .bad dC
theorem zwc (ks:List S2) (T:Tr AV):ptrsO (some ks) T=ptrsT T ks:=rfl
theorem zsa1 {H:AH}[hn:HN H]{c:Ce}(r:AV×Rc):((H.new (.cells c 84 44 false false)).put H.next (.cells (.lst (rcL r)) 84 44 false false)).get H.next=some (.cells (.lst (rcL r)) 84 44 false false):=zia _ _
abbrev rcb (r:Rc):ABlk:=.cells (.lst (rcL (.nilSl,r))) 84 44 false false
theorem zxn1 {H0:AH}[hn0:HN H0]{t:Tb}{s:ByteArray}{b1 b2:Nat}(hk:Ok t) (hlen:t.rs.length<=900) (hnm:∀r,r∈t.rs->r.nm.size<=100000) (hs:s.size<=100000)
  (h1:b1<H0.next) (h2:b2<H0.next) (g1:H0.get b1=some (bxs s)) (g2:H0.get b2=some (bxi 1)) :
  ClOk 148 [.ptr b1 0,.ptr b2 0] H0 t (snapO t s):=by
 intro H1 it v lv hx hn1 ht;refine fJ Tryz.f148 o148 ?_;have k1:=(hx.get h1).trans g1;have k2:=(hx.get h2).trans g2;have hsp:= @FnX.p _ _ _ _ (zhg s oM)
 have hcm:= @FnX.p _ _ _ _ zwn;have hN:=hx.next;have hlo:H1.lo<=H0.next:=by rw [hx.lo];exact hn0.lo
 unfold snapO;cases a1:snapB s with
 |false=>have F:=J3 @k1 @hsp @a1;refine uT ?_;exact ⟨rfl,HP.refl _ _,fun t2 h=>by cases h⟩
 |true =>
 have F:=J7 @k1 @k2 @hsp @a1 @hcm @ht.box @zea;refine uT ?_;refine cR_f (zxh ht.sl hlen) ?_;rintro r2 H2 ⟨rfl,hx2⟩;have hx02:=hx.trans hx2;have m1:=(hx02.get h1).trans g1;have ht2:=ht.hx hx2;haveI:=hx02.hn;have hn2:=hx2.next;cases a2:hasB (splA s) t.rs with
 |false=>refine uT0 ?_;exact ⟨rfl,hx2.hp _,fun t2 h=>by cases h⟩
 |true =>
 obtain ⟨q1,q2⟩:=zza a2;have F:=@m1;refine uT ?_;refine cR_f (zqa1 ht2 hlen) ?_;rintro r3 H3 ⟨rfl,hx3⟩;have hx03:=hx02.trans hx3;have hx13:=hx2.trans hx3;have m1:=(hx03.get h1).trans g1;have m2:=(hx03.get h2).trans g2;have ht3:=ht2.hx hx3;haveI:=hx03.hn;have hn3:=hx3.next;have hlo3:H3.lo<=H3.next:=HN.lo;by_cases hr:roomE t s=0
 ·have hix:=ix44 (z:=44) (q:=fndI (splA s) t.rs) ht3.sl.is (by rw [zoc];exact q1)
  have hld:=ht3.sl.agg (nl_at q1);have ho:=zbc (AV.nilSl,get t.rs (fndI (splA s) t.rs)) rfl;have e1:=hEq_f (oM:b1≠H3.next)
  have e2:=hEq_f (oM:b2≠H3.next)
  simp only [hr,reduceIte,qz3,qr2];have F:=J13 @m1 @m2 @ht3.box @tb_1 @hix @hld @zpa @rc_3 @rc_5 @rc_0 @rc_ro @e1 @e2;refine uT ?_;refine rk_at (fun H4=>HX H3 H4/\H4.next=H3.next+1/\H4.get H3.next=some (rcb (get t.rs (fndI (splA s) t.rs)))) ?_ ?_
  ·exact ⟨hxt,rfl,zsa1 _⟩
  rintro H4 ⟨hx4,hn4,hg4⟩;have hx04:=hx03.trans hx4;have m1:=(hx04.get h1).trans g1;have m2:=(hx04.get h2).trans g2;haveI:=hx04.hn;refine rk_cw (js:= [H3.next,b2,H3.next,b1]) (R:=fun r H'=>r=roA .nilSl/\HX H4 H') ?_ ?_ ?_
  ·rw [zwc]
   refine zka (o:=0) ?_ (zka (o:=0) ?_ (zka (o:=3) ?_ (zka (o:=0) ?_ zeb)))<;>(exact vT0)
  ·refine uT0 ?_;exact zna1
  rintro r5 H5 ⟨rfl,hx5⟩;refine ⟨zhb hx5 _ fun i hi=> ?_,?_⟩
  ·simp only [qg1,qf5,qj7] at hi
   rcases hi with rfl|rfl|rfl|rfl
   ·exact ⟨oM,_,_,_,_,_,hg4⟩
   ·exact ⟨oM,_,_,_,_,_,m2⟩
   ·exact ⟨oM,_,_,_,_,_,hg4⟩
   ·exact ⟨oM,_,_,_,_,_,m1⟩
  have hx05:=hx04.trans hx5;have hx15:=(hx13.trans hx4).trans hx5;haveI:=hx05.hn;have hn5:=hx5.next;have F:=J2 @zvd @sn_bu;refine uT ?_;refine cR_f (zmm (ht.hx hx15) oM hk.srt (fun r hr=>by have:=hnm r hr;omega) (by show s.size<=_;omega) (by have:=hk.nx;omega) (by rw [hx15.lo];exact hlo) oM) ?_
  rintro r6 H6 ⟨⟨rfl,v',ht6,_⟩,hp6⟩;refine uT0 ?_;exact ⟨rfl,(hx15.hp (fun _=>True)).trans hp6 fun i _ hi=>⟨trivial,hi⟩,fun t2 h=>by cases h;exact ⟨v',ht6.o⟩⟩
 ·simp only [qd hr,reduceIte,qz3,qr2]
  have d1:decide (roomE t s≠0)=true:=qk hr;have F:=@d1;refine uT ?_;exact ⟨rfl,hx13.hp _,fun t2 h=>by cases h⟩
theorem zyn1 {H:AH}[hn:HN H]{t:Tb}{v lv:AV}{s:ByteArray}(h:TbIn H t v lv) (hs:s.size<=100000) :
  FnE lookM 135 [tbA t.nx v lv,.str s,.int .i64 1] H fun r H'=>TbR H' r (snapT t s)/\HX H H':=by
 refine fI Tryz.f135 ?_;have hlo:=hn.lo;have F:=J3 @zba @zcb @zea;refine uT ?_;refine cR_at (fun H1=>HX H H1/\H1.next=H.next+4/\H1.get (H.next+1)=some (bxs s)/\H1.get (H.next+2)=some (bxi 1)/\H1.get (H.next+3)=some (tbx 0 .nilSl .nilSl)) ?_ ?_
 ·exact ⟨hxt,rfl,vT0,vT0,vT0⟩
 rintro H1 ⟨hx1,hn1,g1,g2,gr⟩;haveI:=hx1.hn;refine cR_f (zch (h.hx hx1) (fun hc=>zxn1 (checkB_ok.1 hc) h.len h.nm hs oM oM g1 g2) (snapO_w t s)) ?_
 rw [← zra1];rintro r2 H2 ⟨ht2,hx2⟩;have gr2:=(hx2.get oM).trans gr
 have hx02:=hx1.trans hx2;haveI:=hx02.hn;have hlo2:H2.lo=H.lo:=hx02.lo;rcases ht2 with ⟨e,he,h1,rfl⟩|⟨t2,v2,l2,h1,rfl,h3,h4⟩
 ·have o1:=zbb (nn:=0) (v:=.nilSl) (lv:=.nilSl) rfl rfl
  have F:=J5 @gr2 @zea @zba @zha @ld7;refine uT ?_;exact ⟨.inl ⟨e,he,h1,rfl⟩,HX.put hx02 oM _⟩
 ·have o1:=zbb (nn:=t2.nx) (v:=v2) (lv:=l2) (RdR.one h3) (OwnS.one h4).1
  have F:=J5 @gr2 @zea @zba @zha @ld7;refine uT ?_;obtain ⟨p1,p2⟩:=TbR.put h3 h4 gr2 (tbx t2.nx v2 l2);exact ⟨.inr ⟨t2,v2,l2,h1,rfl,p1,p2⟩,HX.put hx02 oM _⟩
def zkr (t:Tb) (s to:ByteArray):Res:=if snapB s && partB to then (if hasB s t.rs then (if roomE t to=0 then good (putT t ⟨0,to,1,(get t.rs (fndI s t.rs)).sz,1,0,(get t.rs (fndI s t.rs)).id,0,0⟩) else bad (roomE t to)) else bad 6) else bad 2
theorem zgu (t:Tb) (s to:ByteArray):zsn t s to=if zvb t then zkr t s to else bad 2:=by
 unfold zsn zkr;cases zvb t<;>rfl
theorem zzn1 (t:Tb) (s to:ByteArray):ResW (zkr t s to):=by
 unfold zkr;split
 ·split
  ·split
   ·exact .good
   ·next h=>exact .bad h
  ·exact .bad dC
 ·exact .bad dC
theorem zmf1 {H0:AH}[hn0:HN H0]{t:Tb}{s to:ByteArray}{b1 b2 b3:Nat}(hk:Ok t) (hlen:t.rs.length<=900) (hnm:∀r,r∈t.rs->r.nm.size<=100000) (hs:s.size<=100000) (hto:to.size<=100000)
  (h1:b1<H0.next) (h2:b2<H0.next) (h3:b3<H0.next) (g1:H0.get b1=some (bxs s)) (g2:H0.get b2=some (bxs to)) (g3:H0.get b3=some (bxi 1)) :
  ClOk 150 [.ptr b1 0,.ptr b2 0,.ptr b3 0] H0 t (zkr t s to):=by
 intro H1 it v lv hx hn1 ht;refine fJ Tryz.f150 o150 ?_;have k1:=(hx.get h1).trans g1;have k2:=(hx.get h2).trans g2;have k3:=(hx.get h3).trans g3;have hsn:= @FnX.p _ _ _ _ (zau s oM)
 have hv:= @FnX.p _ _ _ _ (zvn to);have hcm:= @FnX.p _ _ _ _ zwn;have hN:=hx.next;have hlo:H1.lo<=H0.next:=by rw [hx.lo];exact hn0.lo
 unfold zkr;cases a1:snapB s with
 |false=>have F:=J3 @k1 @hsn @a1;refine uT ?_;exact ⟨rfl,HP.refl _ _,fun t2 h=>by cases h⟩
 |true =>
 cases a0:partB to with
 |false=>have F:=J6 @k1 @k2 @hsn @hv @a1 @a0;refine uT ?_;exact ⟨rfl,HP.refl _ _,fun t2 h=>by cases h⟩
 |true =>
 have F:=J10 @k1 @k2 @k3 @hsn @hv @a1 @a0 @hcm @ht.box @zea;refine uT ?_;refine cR_f (zxh ht.sl hlen) ?_;rintro r2 H2 ⟨rfl,hx2⟩;have hx02:=hx.trans hx2;have m2:=(hx02.get h2).trans g2;have ht2:=ht.hx hx2;haveI:=hx02.hn;have hn2:=hx2.next;cases a2:hasB s t.rs with
 |false=>refine uT0 ?_;exact ⟨rfl,hx2.hp _,fun t2 h=>by cases h⟩
 |true =>
 obtain ⟨q1,q2⟩:=zza a2;have F:=@m2;refine uT ?_;refine cR_f (zqa1 ht2 hlen) ?_;rintro r3 H3 ⟨rfl,hx3⟩;have hx03:=hx02.trans hx3;have hx13:=hx2.trans hx3;have m2:=(hx03.get h2).trans g2;have m3:=(hx03.get h3).trans g3;have ht3:=ht2.hx hx3;haveI:=hx03.hn;have hn3:=hx3.next;have hlo3:H3.lo<=H3.next:=HN.lo;by_cases hr:roomE t to=0
 ·have hix:=ix44 (z:=44) (q:=fndI s t.rs) ht3.sl.is (by rw [zoc];exact q1)
  have hld:=ht3.sl.agg (nl_at q1);have ho:=zbc (AV.nilSl,get t.rs (fndI s t.rs)) rfl;have e2:=hEq_f (oM:b2≠H3.next)
  have e3:=hEq_f (oM:b3≠H3.next)
  simp only [hr,reduceIte,qz3,qr2];have F:=J13 @m2 @m3 @ht3.box @tb_1 @hix @hld @zpa @rc_3 @rc_5 @rc_0 @rc_ro @e2 @e3;refine uT ?_;refine rk_at (fun H4=>HX H3 H4/\H4.next=H3.next+1/\H4.get H3.next=some (rcb (get t.rs (fndI s t.rs)))) ?_ ?_
  ·exact ⟨hxt,rfl,zsa1 _⟩
  rintro H4 ⟨hx4,hn4,hg4⟩;have hx04:=hx03.trans hx4;have m2:=(hx04.get h2).trans g2;have m3:=(hx04.get h3).trans g3;haveI:=hx04.hn;refine rk_cw (js:= [H3.next,b3,H3.next,b2]) (R:=fun r H'=>r=roA .nilSl/\HX H4 H') ?_ ?_ ?_
  ·rw [zwc]
   refine zka (o:=0) ?_ (zka (o:=0) ?_ (zka (o:=3) ?_ (zka (o:=0) ?_ zeb)))<;>(exact vT0)
  ·refine uT0 ?_;exact zna1
  rintro r5 H5 ⟨rfl,hx5⟩;refine ⟨zhb hx5 _ fun i hi=> ?_,?_⟩
  ·simp only [qg1,qf5,qj7] at hi
   rcases hi with rfl|rfl|rfl|rfl
   ·exact ⟨oM,_,_,_,_,_,hg4⟩
   ·exact ⟨oM,_,_,_,_,_,m3⟩
   ·exact ⟨oM,_,_,_,_,_,hg4⟩
   ·exact ⟨oM,_,_,_,_,_,m2⟩
  have hx05:=hx04.trans hx5;have hx15:=(hx13.trans hx4).trans hx5;haveI:=hx05.hn;have hn5:=hx5.next;have F:=J2 @zvd @cl_bu;refine uT ?_;refine cR_f (zmm (ht.hx hx15) oM hk.srt (fun r hr=>by have:=hnm r hr;omega) (by show to.size<=_;omega) (by have:=hk.nx;omega) (by rw [hx15.lo];exact hlo) oM) ?_
  rintro r6 H6 ⟨⟨rfl,v',ht6,_⟩,hp6⟩;refine uT0 ?_;exact ⟨rfl,(hx15.hp (fun _=>True)).trans hp6 fun i _ hi=>⟨trivial,hi⟩,fun t2 h=>by cases h;exact ⟨v',ht6.o⟩⟩
 ·simp only [qd hr,reduceIte,qz3,qr2]
  have d1:decide (roomE t to≠0)=true:=qk hr;have F:=@d1;refine uT ?_;exact ⟨rfl,hx13.hp _,fun t2 h=>by cases h⟩
theorem znf1 {H:AH}[hn:HN H]{t:Tb}{v lv:AV}{s to:ByteArray}(h:TbIn H t v lv) (hs:s.size<=100000) (hto:to.size<=100000) :
  FnE lookM 136 [tbA t.nx v lv,.str s,.str to,.int .i64 1] H fun r H'=>TbR H' r (zsn t s to)/\HX H H':=by
 refine fI Tryz.f136 ?_;have hlo:=hn.lo;have F:=J3 @zba @zcb @zea;refine uT ?_;refine cR_at (fun H1=>HX H H1/\H1.next=H.next+5/\H1.get (H.next+1)=some (bxs s)/\H1.get (H.next+2)=some (bxs to)/\H1.get (H.next+3)=some (bxi 1)/\H1.get (H.next+4)=some (tbx 0 .nilSl .nilSl)) ?_ ?_
 ·exact ⟨hxt,rfl,vT0,vT0,vT0,vT0⟩
 rintro H1 ⟨hx1,hn1,g1,g2,g3,gr⟩;haveI:=hx1.hn;refine cR_f (zch (h.hx hx1) (fun hc=>zmf1 (checkB_ok.1 hc) h.len h.nm hs hto oM oM oM g1 g2 g3) (zzn1 t s to)) ?_
 rw [← zgu];rintro r2 H2 ⟨ht2,hx2⟩;have gr2:=(hx2.get oM).trans gr
 have hx02:=hx1.trans hx2;haveI:=hx02.hn;have hlo2:H2.lo=H.lo:=hx02.lo;rcases ht2 with ⟨e,he,h1,rfl⟩|⟨t2,v2,l2,h1,rfl,h3,h4⟩
 ·have o1:=zbb (nn:=0) (v:=.nilSl) (lv:=.nilSl) rfl rfl
  have F:=J5 @gr2 @zea @zba @zha @ld7;refine uT ?_;exact ⟨.inl ⟨e,he,h1,rfl⟩,HX.put hx02 oM _⟩
 ·have o1:=zbb (nn:=t2.nx) (v:=v2) (lv:=l2) (RdR.one h3) (OwnS.one h4).1
  have F:=J5 @gr2 @zea @zba @zha @ld7;refine uT ?_;obtain ⟨p1,p2⟩:=TbR.put h3 h4 gr2 (tbx t2.nx v2 l2);exact ⟨.inr ⟨t2,v2,l2,h1,rfl,p1,p2⟩,HX.put hx02 oM _⟩
theorem zao1 {H:AH}[hn:HN H](p q:AV×Rc):FnE lookM 154 [.agg (rcL p),.agg (rcL q)] H fun r H'=>r= .bool (zop p.2 q.2)/\HX H H':=by
 refine fI Tryz.f154 ?_;have he:=hEq_f (oM:H.next≠H.next+1)
 have e:zop p.2 q.2=(decide (q.2.md<p.2.md) || (decide (p.2.md=q.2.md) && decide (q.2.id<p.2.id))):=rfl;rw [e];cases a1:decide (q.2.md<p.2.md) with
 |true=>have F:=J5 @zpa @rc_39 @rc_0 @he @a1;refine uT ?_;(exact fin0)
 |false =>
  cases a2:decide (p.2.md=q.2.md) with
  |false=>have F:=J6 @zpa @rc_39 @rc_0 @he @a1 @a2;refine uT ?_;(exact fin0)
  |true=>have F:=J6 @zpa @rc_39 @rc_0 @he @a1 @a2;refine uT ?_;(exact fin0)
def rb11 (q:Rc) (p:Rc):Bool:=decide (p.ow=q.ow) && zop p q
theorem rb11_ok {H:AH}[hn:HN H](p:AV×Rc){b:Nat}{q:AV×Rc}(hb:b<H.next) (hg:H.get b=some (.cells (.lst (rcL q)) 84 44 false false)) :
  FnE lookM 153 [.agg (rcL p),.ptr b 0] H fun r H'=>r= .bool (rb11 q.2 p.2)/\HX H H':=by
 refine fI Tryz.f153 ?_;have he:=hEq_f (oM:b≠H.next)
 unfold rb11;cases a1:decide (p.2.ow=q.2.ow) with
 |false=>have F:=J5 @zpa @rc_40 @hg @he @a1;refine uT ?_;(exact fin0)
 |true =>
  have F:=J6 @zpa @rc_40 @zud @hg @he @a1;refine uT ?_;refine cR_f (zao1 p q) ?_;rintro r H2 ⟨rfl,hx⟩;refine uT0 ?_
  (exact fin0)
theorem zhu {H:AH}[hn:HN H]{v:AV}{rs:List Rc}{p:Rc->Bool}{g:Nat}{caps:List AV}(hsl:SlRc H v (nl rs)) (hlen:rs.length<=1000000)
  (hp:∀H1,HX H H1-> ∀r:AV×Rc,FnE lookM g (.agg (rcL r)::caps) H1 fun r' H'=>r'= .bool (p r.2)/\HX H1 H') :
  FnE lookM 152 [v,.fn (.func g) [] caps] H fun r H'=>r= .bool (rs.any p)/\HX H H':=by
 have:=zln1 (p:=p) hsl (by rw [zoc];exact hlen) (fun H1 hx k r _=>hp H1 hx r)
 rw [zef1,zoc] at this;rw [zfa1];exact this
def rollO (t:Tb) (s:ByteArray):Res:=if snapB s then (if hasB s t.rs then (if t.rs.any (rb11 (get t.rs (fndI s t.rs))) then bad 17 else good ⟨t.nx,setSz t.rs (fndI (splA s) t.rs) (get t.rs (fndI s t.rs)).sz⟩) else bad 6) else bad 2
theorem zta1 (t:Tb) (s:ByteArray):rollT t s=if zvb t then rollO t s else bad 2:=by
 unfold rollT rollO rb11;cases zvb t<;>rfl
theorem rollO_w (t:Tb) (s:ByteArray):ResW (rollO t s):=by
 unfold rollO;split
 ·split
  ·split
   ·exact .bad dC
   ·exact .good
  ·exact .bad dC
 ·exact .bad dC
theorem zlj1 {s:ByteArray}{l:List Rc}(h:0<l.length):fndI s l<l.length:=by
 unfold fndI;split<;>assumption
theorem zof1 (rs:List Rc) (k:Nat) (r:Rc):(nl rs).set k (.nilSl,r)=nl (rs.set k r):=by
 show (rs.map _).set k _=(rs.set k r).map _
 rw [List.map_set]
theorem zbo1 {rs:List Rc}{k:Nat}(hk:k<rs.length):(encC rcL (nl rs)).take (k*44+4) ++ roL .nilSl ++ (encC rcL (nl rs)).drop (k*44+4+35)=encC rcL (nl rs):=by
 have h1:=zof zra (nl_at hk);have h2:((encC rcL (nl rs)).drop (k*44+4)).take 35=roL .nilSl:=by
  have:((((encC rcL (nl rs)).drop (k*44)).take 44).drop 4).take 35=roL .nilSl:=by rw [h1];rfl
  rw [qd7,qh5,qq3] at this;exact this
 have h3:(encC rcL (nl rs)).drop (k*44+4)=roL .nilSl ++ (encC rcL (nl rs)).drop (k*44+4+35):=by
  have h4:=(qo4 35 ((encC rcL (nl rs)).drop (k*44+4))).symm;rw [h2,qq3] at h4;exact h4
 rw [qi1,← h3,qo4]
theorem zco1 {H0:AH}[hn0:HN H0]{t:Tb}{s:ByteArray}{b1:Nat}(hk:Ok t) (hlen:t.rs.length<=900) (hs:s.size<=100000)
  (h1:b1<H0.next) (g1:H0.get b1=some (bxs s)):ClOk 151 [.ptr b1 0] H0 t (rollO t s):=by
 intro H1 it v lv hx hn1 ht;refine fJ Tryz.f151 o151 ?_;have k1:=(hx.get h1).trans g1;have hsp:= @FnX.p _ _ _ _ (zhg s oM)
 have hN:=hx.next;have hlo:H1.lo<=H0.next:=by rw [hx.lo];exact hn0.lo
 unfold rollO;cases a1:snapB s with
 |false=>have F:=J3 @k1 @hsp @a1;refine uT ?_;exact ⟨rfl,HP.refl _ _,fun t2 h=>by cases h⟩
 |true =>
 have F:=J5 @k1 @hsp @a1 @ht.box @zea;refine uT ?_;refine cR_f (zxh ht.sl hlen) ?_;rintro r2 H2 ⟨rfl,hx2⟩;have hx02:=hx.trans hx2;have ht2:=ht.hx hx2;haveI:=hx02.hn;have hn2:=hx2.next;have hlo2:H2.lo<=H2.next:=HN.lo;cases a2:hasB s t.rs with
 |false=>refine uT0 ?_;exact ⟨rfl,hx2.hp _,fun t2 h=>by cases h⟩
 |true =>
 obtain ⟨q1,q2⟩:=zza a2;have hit:=ht.lt;have hix:=ix44 (z:=44) (q:=fndI s t.rs) ht2.sl.is (by rw [zoc];exact q1)
 have hld:=ht2.sl.agg (nl_at q1);have ho:=zbc (AV.nilSl,get t.rs (fndI s t.rs)) rfl;have e1:=hEq_f (oM:it≠H2.next)
 have F:=J6 @ht2.box @tb_1 @hix @hld @zpa @e1;refine uT ?_;refine cR_at (fun H3=>HX H2 H3/\H3.next=H2.next+1/\H3.get H2.next=some (rcb (get t.rs (fndI s t.rs)))) ?_ ?_
 ·exact ⟨hxt,rfl,zsa1 _⟩
 rintro H3 ⟨hx3,hn3,hg3⟩;have hx03:=hx02.trans hx3;have ht3:=ht2.hx hx3;haveI:=hx03.hn;refine cR_f (zhu (p:=rb11 (get t.rs (fndI s t.rs))) ht3.sl oM fun H hxx r=> ?_) ?_
 ·haveI:=hxx.hn
  exact rb11_ok r (by have:=hxx.next;omega) ((hxx.get oM).trans hg3)
 rintro r4 H4 ⟨rfl,hx4⟩;have hx04:=hx03.trans hx4;have hx14:=(hx2.trans hx3).trans hx4;have ht4:=ht3.hx hx4;haveI:=hx04.hn;have hn4:=hx4.next;have hg4:=(hx4.get oM).trans hg3
 cases a3:t.rs.any (rb11 (get t.rs (fndI s t.rs))) with
 |true=>refine uT0 ?_;exact ⟨rfl,hx14.hp _,fun t2 h=>by cases h⟩
 |false =>
 have F:=J2 @ht4.box @zea;refine uX ?_;refine cR_f (zxh ht4.sl hlen) ?_;rintro r5 H5 ⟨rfl,hx5⟩;have hx05:=hx04.trans hx5;have hx15:=hx14.trans hx5;have ht5:=ht4.hx hx5;haveI:=hx05.hn;have hn5:=hx5.next;have hg5:=(hx5.get oM).trans hg4
 have q3:fndI (splA s) t.rs<t.rs.length:=zlj1 oM
 have F:=J5 @ht5.box @tb_1 @hg5 @rc_3 @rc_ro;refine uT ?_;refine rk_cw (js:= [H2.next,it,it]) (R:=fun r H'=>r=roA .nilSl/\HX H5 H') ?_ ?_ ?_
 ·rw [zwc]
  refine zka (o:=3) ?_ (zka (o:=1) ?_ (zka (o:=1) ?_ zeb))<;>(exact vT0)
 ·refine uT0 ?_;exact zna1
 rintro r6 H6 ⟨rfl,hx6⟩;refine ⟨zhb hx6 _ fun i hi=> ?_,?_⟩
 ·simp only [qg1,qf5,qj7] at hi
  rcases hi with rfl|rfl|rfl
  ·exact ⟨oM,_,_,_,_,_,hg5⟩
  ·exact ⟨by have:=ht5.lt;omega,_,_,_,_,_,ht5.box⟩
  ·exact ⟨by have:=ht5.lt;omega,_,_,_,_,_,ht5.box⟩
 have hx06:=hx05.trans hx6;have hx16:=hx15.trans hx6;have ht6:=ht5.hx hx6;haveI:=hx06.hn;have hn6:=hx6.next;have hge:=ht6.ge;have ho6:=ht6.own;have hbx6:=ht6.box;have hlv6:=ht6.lvo;obtain ⟨c0,⟨rfl,c00⟩|⟨j,op,rfl,hr,hNj,hj,hop⟩⟩:=ho6
 ·omega
 have hne:j≠it:=fun e=>by
  subst e;exact OwnS.ne ht6.own hbx6 dC _ _ _ _ rfl
 have hlo6:H6.lo<=j:=by rw [hx16.lo];omega
 have hk3:fndI (splA s) t.rs*44+3<(encC rcL (nl t.rs)).length:=by rw [c0];have:(fndI (splA s) t.rs+1)*44<=t.rs.length*44:=qd2 44 q3;omega
 obtain ⟨H7,w1,w2,w3,w4⟩:=Row.st1 (L:=lookM) (t:=3) (k:=fndI (splA s) t.rs*44+3) (v:=.int .i64 (get t.rs (fndI s t.rs)).sz) hr HN.hide hlo6 sz3i rfl hk3;rw [zwh zra (nl_at q3) oM (b:=(AV.nilSl,{get t.rs (fndI (splA s) t.rs) with sz:=(get t.rs (fndI s t.rs)).sz})) rfl,zof1] at w2
 have hset:t.rs.set (fndI (splA s) t.rs) {get t.rs (fndI (splA s) t.rs) with sz:=(get t.rs (fndI s t.rs)).sz}=setSz t.rs (fndI (splA s) t.rs) (get t.rs (fndI s t.rs)).sz:=rfl
 rw [hset] at w2;have hsl:(setSz t.rs (fndI (splA s) t.rs) (get t.rs (fndI s t.rs)).sz).length=t.rs.length:=by rw [← hset,qj2]
 have hcl:(encC rcL (nl (setSz t.rs (fndI (splA s) t.rs) (get t.rs (fndI s t.rs)).sz))).length=t.rs.length*44:=by rw [zmc zra,zoc,hsl]
 have hlo7:H7.lo<=j:=by rw [w3.lo];exact hlo6
 haveI:HN H7:=w3.hn;obtain ⟨H8,x1,x2,x3,x4⟩:=Row.stN (L:=lookM) (t:=0) (s:=35) (k:=fndI (splA s) t.rs*44+4) (v:=roA .nilSl) w2 HN.hide hlo7 rfl rfl (by rw [hcl];have:(fndI (splA s) t.rs+1)*44<=t.rs.length*44:=qd2 44 q3;omega)
 have hcells:(roA .nilSl).cells=roL .nilSl:=rfl;rw [hcells,zbo1 (by rw [hsl];exact q3)] at x2
 have hix6:ixS 44 (.sl j 0 t.rs.length t.rs.length op) (.int .i64 (fndI (splA s) t.rs:Nat))=some (elA 44 (.sl j 0 t.rs.length t.rs.length op) (fndI (splA s) t.rs)):=ix44 (H:=H6) (SlZ.is (hr.slZ hj c0)) q3;have F:=J4 @zvd @hix6 @w1 @x1;refine uT ?_;have hp8:HP (·≠ j) H6 H8:=w3.trans x3 fun i _ hi=>⟨hi,hi⟩
 refine ⟨rfl,(hx16.hp (fun _=>True)).trans hp8 (fun i hi hf=>⟨trivial,fun e=>by subst e;exact hf.2 _ _ _ _ rfl⟩),fun t2 h=> ?_⟩
 cases h
 refine ⟨.sl j 0 t.rs.length t.rs.length op,(hp8.get oM (fun e=>hne e.symm)).trans hbx6,?_,OwnS.hq hlv6 hp8 fun j' o n c op' he=> ?_⟩
 ·refine .inr ⟨j,t.rs.length,op,_,by rw [hsl],oM,x2,by rw [hsl];exact qn _,by rw [hcl,hsl];exact qn _,by rw [hsl];exact qx (by rw [hcl];exact qn _)⟩
 ·intro e
  subst e;obtain ⟨cc,hg,_⟩:=hr;exact OwnS.ne hlv6 hg dC _ _ _ _ he
theorem zdo1 {H:AH}[hn:HN H]{t:Tb}{v lv:AV}{s:ByteArray}(h:TbIn H t v lv) (hs:s.size<=100000) :
  FnE lookM 137 [tbA t.nx v lv,.str s] H fun r H'=>TbR H' r (rollT t s)/\HX H H':=by
 refine fI Tryz.f137 ?_;have hlo:=hn.lo;have F:=J3 @zba @zcb @zea;refine uT ?_;refine cR_at (fun H1=>HX H H1/\H1.next=H.next+3/\H1.get (H.next+1)=some (bxs s)/\H1.get (H.next+2)=some (tbx 0 .nilSl .nilSl)) ?_ ?_
 ·exact ⟨hxt,rfl,vT0,vT0⟩
 rintro H1 ⟨hx1,hn1,g1,gr⟩;haveI:=hx1.hn;refine cR_f (zch (h.hx hx1) (fun hc=>zco1 (checkB_ok.1 hc) h.len hs oM g1) (rollO_w t s)) ?_
 rw [← zta1];rintro r2 H2 ⟨ht2,hx2⟩;have gr2:=(hx2.get oM).trans gr
 have hx02:=hx1.trans hx2;haveI:=hx02.hn;have hlo2:H2.lo=H.lo:=hx02.lo;rcases ht2 with ⟨e,he,h1,rfl⟩|⟨t2,v2,l2,h1,rfl,h3,h4⟩
 ·have o1:=zbb (nn:=0) (v:=.nilSl) (lv:=.nilSl) rfl rfl
  have F:=J5 @gr2 @zea @zba @zha @ld7;refine uT ?_;exact ⟨.inl ⟨e,he,h1,rfl⟩,HX.put hx02 oM _⟩
 ·have o1:=zbb (nn:=t2.nx) (v:=v2) (lv:=l2) (RdR.one h3) (OwnS.one h4).1
  have F:=J5 @gr2 @zea @zba @zha @ld7;refine uT ?_;obtain ⟨p1,p2⟩:=TbR.put h3 h4 gr2 (tbx t2.nx v2 l2);exact ⟨.inr ⟨t2,v2,l2,h1,rfl,p1,p2⟩,HX.put hx02 oM _⟩
theorem zR:lookM.zero 84=some (.agg (rcL (.nilSl,Rc0))):=kR
theorem zRcc:(AV.agg (rcL (.nilSl,Rc0))).cells=rcL (.nilSl,Rc0):=rfl
theorem zeo1 (rs:List Rc) (k:Nat):(nl rs).take k ++ (nl rs).drop (k+1)=nl (rs.eraseIdx k):=by
 show (rs.map _).take k ++ (rs.map _).drop (k+1)=(rs.eraseIdx k).map _
 rw [qi5,qe3,qk5,ql5]
theorem sl3 {L:Lk}{t e z:Nat}(ht:L.under t=some (.slice e)) (hz:L.size e=some z) (j n k m:Nat) (op:Bool) (h1:k<=m) (h2:m<=n):∃u,zua L t true true true [.sl j 0 n n op,.int .i64 (k:Int),.int .i64 (m:Int),.int .i64 (n:Int)]=some u:=by
 show ∃u,zgb L t (.sl j 0 n n op) (some (.int .i64 (k:Int))) (some (.int .i64 (m:Int))) (some (.int .i64 (n:Int)))=some u
 unfold zgb;simp only [maxOk,bndOf,ht,hz,natOf];rw [show Nat.ble k m=true from qe h1,show Nat.ble m n=true from qe h2,show Nat.ble n n=true from qe (qn _)]
 exact ⟨_,rfl⟩
theorem slo_hi {L:Lk}{t e z:Nat}(ht:L.under t=some (.slice e)) (hz:L.size e=some z) (j n c k:Nat) (h0:0<c) (h2:k<=c):zua L t false true false [.sl j 0 n c true,.int .i64 (k:Int)]=some (.sl j 0 k c true):=by
 show zgb L t (.sl j 0 n c true) none (some (.int .i64 (k:Int))) none=_
 unfold zgb;simp only [maxOk,bndOf,ht,hz,natOf];rw [show Nat.ble 0 k=true from qe (qo2 _),show Nat.ble k c=true from qe h2]
 show (match Nat.beq c 0 with|true=>_|false=>some (AV.sl j (0+0*z) (k - 0) (c - 0) true))=_
 rw [show Nat.beq c 0=false from by cases c with|zero=>omega|succ c=>rfl,qy4]
 rfl
theorem zfo1 {L:Lk}{t e z:Nat}(ht:L.under t=some (.slice e)) (hz:L.size e=some z) (j n k:Nat) (h2:k<=n):zua L t true false false [.sl j 0 n n true,.int .i64 (k:Int)]=some (if k=n then .ext 1 j (n*z+1) else .sl j (k*z) (n - k) (n - k) true):=by
 show zgb L t (.sl j 0 n n true) (some (.int .i64 (k:Int))) none none=_
 unfold zgb;simp only [maxOk,bndOf,ht,hz,natOf];rw [show Nat.ble k n=true from qe h2,show Nat.ble n n=true from qe (qn _)]
 show (match Nat.beq n k with|true=>(match Nat.beq 0 0 with|true=>some (AV.ext 1 j (n*z+1))|false=>none)|false=>some (AV.sl j (0+k*z) (n - k) (n - k) true))=_
 by_cases h:k=n
 ·subst h
  rw [qi rfl,show Nat.beq k k=true from qt2 k]
 ·rw [qd h,show Nat.beq n k=false from by cases hb:Nat.beq n k with|false=>rfl|true=>exact absurd (qf hb).symm h,qy1]
theorem slo_lh {L:Lk}{t e z:Nat}(ht:L.under t=some (.slice e)) (hz:L.size e=some z) (j n c k m:Nat) (h1:k<=m) (h2:m<=c) (h3:k≠c):zua L t true true false [.sl j 0 n c true,.int .i64 (k:Int),.int .i64 (m:Int)]=some (.sl j (k*z) (m - k) (c - k) true):=by
 show zgb L t (.sl j 0 n c true) (some (.int .i64 (k:Int))) (some (.int .i64 (m:Int))) none=_
 unfold zgb;simp only [maxOk,bndOf,ht,hz,natOf];rw [show Nat.ble k m=true from qe h1,show Nat.ble m c=true from qe h2]
 show (match Nat.beq c k with|true=>_|false=>some (AV.sl j (0+k*z) (m - k) (c - k) true))=_
 rw [show Nat.beq c k=false from by cases hb:Nat.beq c k with|false=>rfl|true=>exact absurd (qf hb).symm h3,qy1]
theorem zpf1 {H:AH}[hn:HN H]{j:Nat}{rs:List Rc}{k:Nat}(hr:Row H j false true 84 44 (encC rcL (nl rs))) (hj:j<H.next) (hlo:H.lo<=j) (hk:k<rs.length) (hlen:rs.length<=900) :
  FnE lookM 158 [.sl j 0 rs.length rs.length true,.int .i64 (k:Int),.int .i64 ((k:Int)+1)] H fun r H'=>(∃n',n'+1=rs.length/\r= .sl j 0 n' rs.length true)/\RdR H' r (rs.eraseIdx k)/\HP (·≠ j) H H':=by
 refine fI Tryz.f158 ?_;obtain ⟨n',hn'⟩:∃n',n'+1=rs.length:=⟨rs.length - 1,oM⟩
 have c0:(encC rcL (nl rs)).length=rs.length*44:=by rw [zmc zra,zoc]
 have hl:∀(n c:Nat) (op:Bool) H',fstO (zda .len lookM [49] [.sl j 0 n c op] H')=some (.int .i64 n):=fun n c op H'=>rfl
 have hk1:((k+1:Nat):Int)=(k:Int)+1:=by push_cast;rfl
 obtain ⟨u,hu⟩:=sl3 (L:=lookM) uRs sz3 j rs.length k (k+1) true oM oM
 rw [hk1] at hu;have hd:decide ((k:Int)=(k:Int)+1)=false:=qq oM
 have s1:=slo_hi (L:=lookM) uRs sz3 j rs.length rs.length k oM oM
 have s2:=zfo1 (L:=lookM) uRs sz3 j rs.length (k+1) oM
 rw [hk1] at s2;obtain ⟨m,hm⟩:∃m,k+1+m=rs.length:=⟨rs.length - (k+1),oM⟩
 obtain ⟨x,hx,hxl,hxs⟩:∃x,(if k+1=rs.length then AV.ext 1 j (rs.length*44+1) else .sl j ((k+1)*44) (rs.length - (k+1)) (rs.length - (k+1)) true)=x/\lenOf x=some m/\ ∃new,zib 44 x m H=some new/\new.l=(encC rcL (nl rs)).drop ((k+1)*44):=by
  by_cases h:k+1=rs.length
  ·refine ⟨_,qi h,?_,?_⟩
   ·have:m=0:=oM
    subst this;show (match Nat.beq 1 1 && Nat.ble 1 (rs.length*44+1) with|true=>some 0|false=>none)=some 0
    rw [show Nat.ble 1 (rs.length*44+1)=true from qe oM];rfl
   ·have:m=0:=oM
    subst this;refine ⟨.lst [],?_,?_⟩
    ·show (match Nat.beq 1 1 && (Nat.ble 1 (rs.length*44+1) && Nat.beq 0 0) with|true=>some (Ce.lst [])|false=>none)=_
     rw [show Nat.ble 1 (rs.length*44+1)=true from qe oM];rfl
    ·rw [ql4 (by rw [c0];omega)];rfl
  ·refine ⟨_,qd h,?_,?_⟩
   ·show some (rs.length - (k+1))=some m
    rw [show rs.length - (k+1)=m from oM]
   ·obtain ⟨new,n1,n2⟩:=zzq (z:=44) (m:=rs.length - (k+1)) (c:=rs.length - (k+1)) (op:=true) hr (o:=(k+1)*44) (n:=m) (by rw [c0,← qj4];exact qd2 44 oM)
    refine ⟨new,n1,?_⟩;rw [n2,qx];rw [qb2,c0];omega
 rw [hx] at s2;obtain ⟨new,hsrc,hnl⟩:=hxs;have hnll:new.l.length=m*44:=by rw [hnl,qb2,c0];omega
 have hone:new.one=true:=zdg (by rw [hnl];exact qb1.2 fun y hy=>qb1.1 (zqn1 rs) y (qt3 hy))
 obtain ⟨cc,hg,hcc⟩:=hr;obtain ⟨c',h3,h4⟩:=Ce.over_ex (x:=new) (c:=cc) (o:=0+k*44) (by rw [hnll,hcc,c0];omega)
 have ha:appX 84 44 152 [.sl j 0 k rs.length true,x] H=some (.sl j 0 n' rs.length true,H.put j (.cells c' 84 44 true false)):=by
  rw [zxn hxl hsrc hone];show brec _ (orec none (fun H'=>some (AV.sl j 0 (Nat.add k m) rs.length true,H')) (zpe H j (Nat.add 0 (Nat.mul k 44)) new)) (Nat.ble (Nat.add k m) rs.length)=_
  have e:Nat.add k m=n':=by show k+m=n';omega
  rw [e,show Nat.ble n' rs.length=true from qe oM,zad]
  unfold AH.writeC;rw [show Nat.ble H.lo j=true from qe hlo,hg]
  have h3':Ce.over new cc (Nat.add 0 (Nat.mul k 44))=some c':=h3;simp only [hone,h3'];rfl
 have s3:=slo_lh (L:=lookM) uRs sz3 j n' rs.length n' rs.length oM (qn _) oM
 have hc'l:c'.l.length=rs.length*44:=by
  rw [h4,qr,qr,qa1,qb2,hnll,hcc,c0];omega
 obtain ⟨c2,h5,h6⟩:=Ce.over_ex (x:=Ce.of (rep (rcL (.nilSl,Rc0)) 1)) (c:=c') (o:=n'*44) (by rw [Ce.of_l,zqd,zra,hc'l];omega)
 have hcl:∀H0:AH,H0=H.put j (.cells c' 84 44 true false)->zda .clear lookM [49] [.sl j (n'*44) (rs.length - n') (rs.length - n') true] H0=some (.undef,H0.put j (.cells c2 84 44 true false)):=fun H0 h0=>by
  show (match zrj lookM 49 (.sl j (n'*44) (rs.length - n') (rs.length - n') true) H0 with|some H'=>some (AV.undef,H')|none=>none)=_
  have hw:zrj lookM 49 (.sl j (n'*44) (rs.length - n') (rs.length - n') true) H0=some (H0.put j (.cells c2 84 44 true false)):=by
   unfold zrj;rw [uRs];simp only [zR,zRcc];rw [show rs.length - n'=1 from oM]
   show (match Nat.beq 1 0 with|true=>some H0|false=>H0.write j (n'*44) (rep (rcL (.nilSl,Rc0)) 1))=_
   show H0.writeC j (n'*44) (Ce.of (rep (rcL (.nilSl,Rc0)) 1))=_
   unfold AH.writeC;subst h0;rw [show Nat.ble (H.put j (.cells c' 84 44 true false)).lo j=true from qe hlo,zia]
   simp only [h5];rw [show (Ce.of (rep (rcL (.nilSl,Rc0)) 1)).one=true from zdg (by rw [Ce.of_l];rfl)]
  rw [hw]
 have hcl':=hcl _ rfl;have F:=J8 @hl @hu @hd @s1 @s2 @ha @s3 @hcl';refine uT ?_;have hel:(rs.eraseIdx k).length=n':=by rw [List.length_eraseIdx_of_lt hk];omega
 have hc2:c2.l.take (n'*44)=encC rcL (nl (rs.eraseIdx k)):=by
  have hzl:(Ce.of (rep (rcL (.nilSl,Rc0)) 1)).l.length=44:=by rw [Ce.of_l];rfl
  rw [h6,qi1,qo3 (by rw [qa1,hc'l];omega),qh5,Nat.min_self,h4,qy1,hcc,hnl]
  have e1:(encC rcL (nl rs)).drop (k*44+((encC rcL (nl rs)).drop ((k+1)*44)).length)=(encC rcL (nl rs)).drop (n'*44):=by
   congr 1
   rw [qb2,c0];omega
  rw [e1,zse zra,znf zra,← zqi,zeo1,qo3 (by rw [zmc zra,zoc,hel];exact qn _),qx (by rw [zmc zra,zoc,hel];exact qn _)]
 have hc2l:c2.l.length=rs.length*44:=by
  have hzl:(Ce.of (rep (rcL (.nilSl,Rc0)) 1)).l.length=44:=by rw [Ce.of_l];rfl
  rw [h6,qr,qr,qa1,qb2,hzl,hc'l];omega
 refine ⟨⟨n',hn',rfl⟩,.inr ⟨j,rs.length,true,c2.l,by rw [hel],hj,⟨c2,zia _ _,rfl⟩,by rw [hel];omega,by rw [hel,hc2l];omega,by rw [hel];exact hc2⟩,(HP.put H j _).trans (HP.put _ j _) fun i _ hi=>⟨hi,hi⟩⟩
def drp (id:Int) (x:Rc):Bool:=decide (x.ow=id) || decide (x.og=id)
theorem drp_ok {H:AH}[hn:HN H](p:AV×Rc){b:Nat}{id:Int}(hb:b<H.next) (hg:H.get b=some (bxi id)) :
  FnE lookM 157 [.agg (rcL p),.ptr b 0] H fun r H'=>r= .bool (drp id p.2)/\HX H H':=by
 refine fI Tryz.f157 ?_;have he:=hEq_f (oM:b≠H.next)
 unfold drp;cases a1:decide (p.2.ow=id) with
 |true=>have F:=J5 @zpa @rc_40 @hg @he @a1;refine uT ?_;(exact fin0)
 |false=>have F:=J6 @zpa @rc_40 @rc_41 @hg @he @a1;refine uT ?_;(exact fin0)
def dropO (t:Tb) (s:ByteArray):Res:=if partB s || snapB s then (if hasB s t.rs then (if t.rs.any (drp (get t.rs (fndI s t.rs)).id) then bad 17 else good ⟨t.nx,t.rs.eraseIdx (fndI s t.rs)⟩) else bad 6) else bad 2
theorem zua1 (t:Tb) (s:ByteArray):dropT t s=if zvb t then dropO t s else bad 2:=by
 unfold dropT dropO drp;cases zvb t<;>rfl
theorem dropO_w (t:Tb) (s:ByteArray):ResW (dropO t s):=by
 unfold dropO;split
 ·split
  ·split
   ·exact .bad dC
   ·exact .good
  ·exact .bad dC
 ·exact .bad dC
theorem zgo1 {H0:AH}[hn0:HN H0]{t:Tb}{s:ByteArray}{b1:Nat}(hk:Ok t) (hlen:t.rs.length<=900) (hs:s.size<=100000)
  (h1:b1<H0.next) (g1:H0.get b1=some (bxs s)):ClOk 155 [.ptr b1 0] H0 t (dropO t s):=by
 intro H1 it v lv hx hn1 ht;refine fI Tryz.f155 ?_;have k1:=(hx.get h1).trans g1;have hnm:= @FnX.p _ _ _ _ (zca1 s oM)
 have hN:=hx.next;have hlo:H1.lo<=H0.next:=by rw [hx.lo];exact hn0.lo
 unfold dropO;cases a1:partB s || snapB s with
 |false=>have F:=J3 @k1 @hnm @a1;refine uT ?_;exact ⟨rfl,HP.refl _ _,fun t2 h=>by cases h⟩
 |true =>
 have F:=J5 @k1 @hnm @a1 @ht.box @zea;refine uT ?_;refine cR_f (zxh ht.sl hlen) ?_;rintro r2 H2 ⟨rfl,hx2⟩;have hx02:=hx.trans hx2;have ht2:=ht.hx hx2;haveI:=hx02.hn;have hn2:=hx2.next;have hlo2:H2.lo<=H2.next:=HN.lo;cases a2:hasB s t.rs with
 |false=>refine uT0 ?_;exact ⟨rfl,hx2.hp _,fun t2 h=>by cases h⟩
 |true =>
 obtain ⟨q1,q2⟩:=zza a2;have hit:=ht.lt;have hix:=ix44 (z:=44) (q:=fndI s t.rs) ht2.sl.is (by rw [zoc];exact q1)
 have hfa:=fa_el ht2.sl.is (show fndI s t.rs<(nl t.rs).length by rw [zoc];exact q1) 44 0
 have hld:=ht2.sl.fld (nl_at q1) (j:=0) (x:=.int .i64 (get t.rs (fndI s t.rs)).id) rfl;have e1:=hEq_f (oM:it≠H2.next)
 have hst:∀(i o:Nat) (n:Int) (H:AH),H.lo<=i->st1 lookM 3 (.ptr i o) (.int .i64 n) H=wr1 (H.get i) i o (.int .i64 n) H:=fun i o n H h=>st1_w sz3i rfl rfl h
 have F:=J7 @ht2.box @tb_1 @hix @hfa @hld @e1 @hst;refine uT ?_;refine cR_at (fun H3=>HX H2 H3/\H3.next=H2.next+1/\H3.get H2.next=some (bxi (get t.rs (fndI s t.rs)).id)) ?_ ?_
 ·exact ⟨hxt,rfl,zia _ _⟩
 rintro H3 ⟨hx3,hn3,hg3⟩;have hx03:=hx02.trans hx3;have ht3:=ht2.hx hx3;haveI:=hx03.hn;refine cR_f (zhu (p:=drp (get t.rs (fndI s t.rs)).id) ht3.sl oM fun H hxx r=> ?_) ?_
 ·haveI:=hxx.hn
  exact drp_ok r (by have:=hxx.next;omega) ((hxx.get oM).trans hg3)
 rintro r4 H4 ⟨rfl,hx4⟩;have hx04:=hx03.trans hx4;have hx14:=(hx2.trans hx3).trans hx4;have ht4:=ht3.hx hx4;haveI:=hx04.hn;have hn4:=hx4.next;cases a3:t.rs.any (drp (get t.rs (fndI s t.rs)).id) with
 |true=>refine uT0 ?_;exact ⟨rfl,hx14.hp _,fun t2 h=>by cases h⟩
 |false =>
 have hge:=ht4.ge;have hbx4:=ht4.box;have hlv4:=ht4.lvo;have ho4:=ht4.own;obtain ⟨c0,⟨rfl,c00⟩|⟨j,op,rfl,hr,hNj,hj,hop⟩⟩:=ho4
 ·omega
 have hop:=hop oM
 subst hop;have hne:j≠it:=fun e=>by
  subst e;exact OwnS.ne ht4.own hbx4 dC _ _ _ _ rfl
 have F:=J2 @hbx4 @tb_1;refine uX ?_;refine cR_f (zpf1 hr hj (by rw [hx14.lo];omega) q1 hlen) ?_
 rintro r5 H5 ⟨⟨n',hn',rfl⟩,hrd5,hp5⟩;haveI:HN H5:=hp5.hn;have hn5:=hp5.next;have hb5:=(hp5.get (i:=it) oM (fun e=>hne e.symm)).trans hbx4
 have hlo5:H5.lo<=it:=by rw [hp5.lo,hx14.lo];omega
 have hst:=st1_w (L:=lookM) (t:=49) (i:=it) (o:=1) (v:=.sl j 0 n' t.rs.length true) (H:=H5) szR1 rfl rfl hlo5;have hwr:=wr1_l (i:=it) (o:=1) (v:=.sl j 0 n' t.rs.length true) (H:=H5) (l:=tbL t.nx (.sl j 0 t.rs.length t.rs.length true) lv) (e:=53) (z:=7) (op:=false) (by show 1<7;omega)
 have F:=J4 @hst @hb5 @hwr @zcj;refine uT ?_;have hput:HP (·≠ it) H5 (H5.put it (tbx t.nx (.sl j 0 n' t.rs.length true) lv)):=HP.put _ _ _;refine ⟨rfl,((hx14.hp (fun _=>True)).trans hp5 (r:=Fr it (.sl j 0 t.rs.length t.rs.length true)) (fun i _ hf=>⟨trivial,fun e=>by subst e;exact hf.2 _ _ _ _ rfl⟩)).trans hput (fun i _ hf=>⟨hf,hf.1⟩),fun t2 h=> ?_⟩
 cases h
 refine ⟨.sl j 0 n' t.rs.length true,zia _ _,RdR.hq hrd5 hput fun j' o n c op' he=> ?_,OwnS.hq (OwnS.hq hlv4 hp5 fun j' o n c op' he=> ?_) hput fun j' o n c op' he=> ?_⟩
 ·cases he;exact hne
 ·intro e
  subst e;obtain ⟨cc,hg,_⟩:=hr;exact OwnS.ne hlv4 hg dC _ _ _ _ he
 ·intro e
  subst e;exact OwnS.ne hlv4 hbx4 dC _ _ _ _ he
theorem zho1 {H:AH}[hn:HN H]{t:Tb}{v lv:AV}{s:ByteArray}(h:TbIn H t v lv) (hs:s.size<=100000) :
  FnE lookM 138 [tbA t.nx v lv,.str s] H fun r H'=>TbR H' r (dropT t s)/\HX H H':=by
 refine fI Tryz.f138 ?_;have hlo:=hn.lo;have F:=J3 @zba @zcb @zea;refine uT ?_;refine cR_at (fun H1=>HX H H1/\H1.next=H.next+3/\H1.get (H.next+1)=some (bxs s)/\H1.get (H.next+2)=some (tbx 0 .nilSl .nilSl)) ?_ ?_
 ·exact ⟨hxt,rfl,vT0,vT0⟩
 rintro H1 ⟨hx1,hn1,g1,gr⟩;haveI:=hx1.hn;refine cR_f (zch (h.hx hx1) (fun hc=>zgo1 (checkB_ok.1 hc) h.len hs oM g1) (dropO_w t s)) ?_
 rw [← zua1];rintro r2 H2 ⟨ht2,hx2⟩;have gr2:=(hx2.get oM).trans gr
 have hx02:=hx1.trans hx2;haveI:=hx02.hn;have hlo2:H2.lo=H.lo:=hx02.lo;rcases ht2 with ⟨e,he,h1,rfl⟩|⟨t2,v2,l2,h1,rfl,h3,h4⟩
 ·have o1:=zbb (nn:=0) (v:=.nilSl) (lv:=.nilSl) rfl rfl
  have F:=J5 @gr2 @zea @zba @zha @ld7;refine uT ?_;exact ⟨.inl ⟨e,he,h1,rfl⟩,HX.put hx02 oM _⟩
 ·have o1:=zbb (nn:=t2.nx) (v:=v2) (lv:=l2) (RdR.one h3) (OwnS.one h4).1
  have F:=J5 @gr2 @zea @zba @zha @ld7;refine uT ?_;obtain ⟨p1,p2⟩:=TbR.put h3 h4 gr2 (tbx t2.nx v2 l2);exact ⟨.inr ⟨t2,v2,l2,h1,rfl,p1,p2⟩,HX.put hx02 oM _⟩
theorem zio1 (a b:ByteArray) (ha:a.size<=1000000) (hb:b.size<=1000000) (H:AH):FnX lookM 160 [.str a,.str b] H (.bool (zgj a b)) H:=by
 refine fI Tryz.f160 ?_;have s1:= @FnX.p _ _ _ _ (zhg a ha);have s2:= @FnX.p _ _ _ _ (zhg b hb);have v1:= @FnX.p _ _ _ _ (zvn a);have v2:= @FnX.p _ _ _ _ (zvn b);unfold zgj;have tail:∀p:Bool,(p=partB a)->(p=true->partB b=false)->FnE lookM 160 [.str a,.str b] H (fun r G=>r= .bool (snapB a && (snapB b && decide (splA a=splA b)))/\G=H)->True:=fun _ _ _ _=>trivial
 cases p1:partB a with
 |true =>
  cases p2:partB b with
  |true=>have F:=J6 @s1 @s2 @v1 @v2 @p1 @p2;refine uT ?_;rfl
  |false =>
   cases p3:snapB a with
   |false=>have F:=J7 @s1 @s2 @v1 @v2 @p1 @p2 @p3;refine uT ?_;rfl
   |true =>
    cases p4:snapB b with
    |false=>have F:=J8 @s1 @s2 @v1 @v2 @p1 @p2 @p3 @p4;refine uT ?_;rfl
    |true=>have F:=J9 @s1 @s2 @v1 @v2 @p1 @p2 @p3 @p4 @zte;refine uT ?_;rfl
 |false =>
   cases p3:snapB a with
   |false=>have F:=J6 @s1 @s2 @v1 @v2 @p1 @p3;refine uT ?_;rfl
   |true =>
    cases p4:snapB b with
    |false=>have F:=J7 @s1 @s2 @v1 @v2 @p1 @p3 @p4;refine uT ?_;rfl
    |true=>have F:=J8 @s1 @s2 @v1 @v2 @p1 @p3 @p4 @zte;refine uT ?_;rfl
def renO (t:Tb) (s to:ByteArray):Res:=if zgj s to then (if hasB s t.rs then (if hasB to t.rs then bad 7 else good ⟨t.nx,sortL (t.rs.map (ren s to))⟩) else bad 6) else bad 2
theorem zmj1 (t:Tb) (s to:ByteArray):renT t s to=if zvb t then renO t s to else bad 2:=by
 unfold renT renO;cases zvb t<;>rfl
theorem renO_w (t:Tb) (s to:ByteArray):ResW (renO t s to):=by
 unfold renO;split
 ·split
  ·split
   ·exact .bad dC
   ·exact .good
  ·exact .bad dC
 ·exact .bad dC
theorem ziu (l:List Rc):(sortL l).length=l.length:=by
 have key:∀(l out:List Rc),(l.foldl (fun out x=>layL x out) out).length=l.length+out.length:=by
  intro l
  induction l with
  |nil=>intro out;simp
  |cons x l ih=>intro out;rw [qr6,ih,ztm1,ql2];omega
 have:=key l []
 simpa [sortL] using this
theorem zqf1 (l:List Rc):Srt (sortL l):=zut l [] List.Pairwise.nil
theorem zzn (a b:ByteArray):(joinB a b).size<=100:=by
 unfold joinB;split
 ·next h =>
  simp only [qm] at h;have h1:=zpj h.1;have h2:=zpj h.2;have e1:(a ++ sign).size=a.size+1:=qn4;have e2:(a ++ sign ++ b).size=(a ++ sign).size+b.size:=qn4;omega
 ·show (0:Nat)<=100;omega
theorem zva1 {s to:ByteArray}{x:Rc}(hto:to.size<=100000) (hx:x.nm.size<=100000):(ren s to x).nm.size<=100000:=by
 unfold Md.ren;split
 ·exact hto
 ·split
  ·have:=zzn to (splB x.nm);show (joinB to (splB x.nm)).size<=_;omega
  ·exact hx
theorem rc_set1 (a:AV) (x:Rc) (s:ByteArray):(rcL (a,x)).set 1 (.str s)=rcL (a,{x with nm:=s}):=rfl
theorem sz9:lookM.size 9=some 1:=kR
set_option maxHeartbeats 16000000 in
theorem ren1_ok {H0:AH}[hn0:HN H0]{t:Tb}{s to:ByteArray}{b1 b2:Nat}(hk:Ok t) (hlen:t.rs.length<=900) (hnm:∀r,r∈t.rs->r.nm.size<=100000) (hs:s.size<=100000) (hto:to.size<=100000)
  (h1:b1<H0.next) (h2:b2<H0.next) (g1:H0.get b1=some (bxs s)) (g2:H0.get b2=some (bxs to)) :
  ClOk 159 [.ptr b1 0,.ptr b2 0] H0 t (renO t s to):=by
 intro H1 it v lv hx hn1 ht;refine fI Tryz.f159 ?_;have k1:=(hx.get h1).trans g1;have k2:=(hx.get h2).trans g2;have hal:= @FnX.p _ _ _ _ (zio1 s to oM oM)
 have hN:=hx.next;have hlo:H1.lo<=H0.next:=by rw [hx.lo];exact hn0.lo
 have hge:=ht.ge;unfold renO;cases a1:zgj s to with
 |false=>have F:=J4 @k1 @k2 @hal @a1;refine uT ?_;exact ⟨rfl,HP.refl _ _,fun t2 h=>by cases h⟩
 |true =>
 have F:=J6 @k1 @k2 @hal @a1 @ht.box @zea;refine uT ?_;refine cR_f (zxh ht.sl hlen) ?_;rintro r2 H2 ⟨rfl,hx2⟩;have hx02:=hx.trans hx2;have m2:=(hx02.get h2).trans g2;have ht2:=ht.hx hx2;haveI:=hx02.hn;have hn2:=hx2.next;cases a2:hasB s t.rs with
 |false=>refine uT0 ?_;exact ⟨rfl,hx2.hp _,fun t2 h=>by cases h⟩
 |true =>
 have F:=J3 @m2 @ht2.box @zea;refine uT ?_;refine cR_f (zxh ht2.sl hlen) ?_;rintro r3 H3 ⟨rfl,hx3⟩;have hx03:=hx02.trans hx3;have hx13:=hx2.trans hx3;have ht3:=ht2.hx hx3;haveI:=hx03.hn;have hn3:=hx3.next;cases a3:hasB to t.rs with
 |true=>refine uT0 ?_;exact ⟨rfl,hx13.hp _,fun t2 h=>by cases h⟩
 |false =>
 have hlo3:H3.lo<=it:=by rw [hx13.lo];omega
 have hst:=st1_w (L:=lookM) (t:=49) (i:=it) (o:=1) (v:=.nilSl) (H:=H3) szR1 rfl rfl hlo3;have hwr:=wr1_l (i:=it) (o:=1) (v:=.nilSl) (H:=H3) (l:=tbL t.nx v lv) (e:=53) (z:=7) (op:=false) (by show 1<7;omega)
 have hl:∀H',fstO (zda .len lookM [49] [v] H')=some (.int .i64 t.rs.length):=fun H'=>by have:=ztc (H':=H') uRs ht3.sl.is;rwa [zoc] at this
 have F:=J6 @ht3.box @tb_1 @hst @hwr @zcj @hl;refine uX ?_;have hput:HP (·≠ it) H3 (H3.put it (tbx t.nx .nilSl lv)):=HP.put _ _ _;refine rc_l (fun n T H'=> ∃q v',n+q=t.rs.length/\TbS H' it ⟨t.nx,sortL ((t.rs.take q).map (ren s to))⟩ v' lv H0.next/\HP (·≠ it) H3 H'/\(∀k,k<H3.next->blkNe v' k) /\
  gT T 0= .ptr it 0/\gT T 1= .ptr b1 0/\gT T 2= .ptr b2 0/\gT T 45=v/\gT T 46= .int .i64 t.rs.length/\gT T 47= .int .i64 q) t.rs.length ?_ ?_
 ·refine ⟨0,.nilSl,rfl,⟨ht3.lt,hge,zia _ _,OwnS.nil _ _ _ _,OwnS.hq ht3.lvo hput fun j o n c op he=> ?_⟩,hput,fun k _=>zfa _,vT0,vT0,vT0,vT0,vT0,by refine uT0 ?_;rfl⟩
  intro e;subst e;exact OwnS.ne ht3.lvo ht3.box dC _ _ _ _ he
 rintro n T H4 ⟨q,v',hnq,ht4,hp4,hne4,g0,gg1,gg2,g45,g46,g47⟩;haveI:HN H4:=hp4.hn;have hn4:=hp4.next;have hvb:blkNe v it:=OwnS.ne ht3.own ht3.box dC
 have hrd4:RdR H4 v t.rs:=RdR.hq (OwR.rd ht3.own) hp4 fun j o n c op he=>fun e=>by
  subst e;exact hvb _ _ _ _ he
 have hsl4:=hrd4.sl;have hit4:=ht4.lt;have hit3:=ht3.lt;have m1:=((hp4.get (i:=b1) oM oM).trans (hx03.get h1)).trans g1
 have m2:=((hp4.get (i:=b2) oM oM).trans (hx03.get h2)).trans g2
 have hlo4:H4.lo<=H4.next:=HN.lo;cases n with
 |zero =>
  have hq:q=t.rs.length:=oM
  subst hq;rw [qp5] at ht4;have F:=J6 @g0 @gg1 @gg2 @g45 @g46 @g47;refine uT ?_;exact ⟨rfl,(hx13.hp (fun _=>True)).trans hp4 (fun i _ hf=>⟨trivial,hf.1⟩),fun t2 h=>by cases h;exact ⟨v',ht4.o⟩⟩
 |succ n =>
  have hq:q<t.rs.length:=oM
  have hix:=ix44 (z:=44) (q:=q) hsl4.is (by rw [zoc];exact hq)
  have hld:=hsl4.agg (nl_at hq);have ho:=zbc (AV.nilSl,get t.rs q) rfl;have hsz:=hnm _ (zuk hq);have hsp:= @FnX.p _ _ _ _ (zhg (get t.rs q).nm oM)
  have e1:=hEq_f (oM:b1≠H4.next)
  have e2:=hEq_f (oM:b2≠H4.next)
  have hst9:∀(i o:Nat) (n:ByteArray) (H:AH),H.lo<=i->st1 lookM 9 (.ptr i o) (.str n) H=wr1 (H.get i) i o (.str n) H:=fun i o n H h=>st1_w sz9 rfl rfl h
  have hw9:∀(n:ByteArray) (i:Nat) (H:AH),wr1 (some (rcb (get t.rs q))) i 1 (.str n) H=some (H.put i (rcb {get t.rs q with nm:=n})):=fun n i H=>by rw [wr1_l (by rw [zra];omega),rc_set1]
  have fin:∀(H5:AH) (x:Rc) (T':Tr AV) (Q:PostC) (ss:List Kf),x=ren s to (get t.rs q)->HX H4 H5->HN H5 ->
    (∀(r:AV) (H6:AH) (v6:AV),TbS H6 it ⟨t.nx,sortL ((t.rs.take (q+1)).map (ren s to))⟩ v6 lv H0.next->HP (·≠ it) H3 H6->(∀k,k<H3.next->blkNe v6 k)->RK lookM K2.done ss (pS 81 r T') H6 Q) ->
    cR false lookM 162 [.ptr it 0,.agg (rcL (.nilSl,x))] H5 81 K2.done ss T' Q:=by
   intro H5 x T' Q ss hxe hx5 hn5 hk5;have ht5:=ht4.hx hx5;refine cR_f (lay_ok ht5 ?_ (zqf1 _) (fun r hr=> ?_) ?_ (by rw [hx5.lo,hp4.lo,hx13.lo];exact hlo) (by have:=hx5.next;omega)) ?_
   ·show (sortL _).length<=999
    rw [ziu,qm3,qa1];omega
   ·obtain ⟨y,hy,rfl⟩:=qy2.1 (ztn hr)
    have:=zva1 (s:=s) hto (hnm y (qd5 hy));omega
   ·rw [hxe];have:=zva1 (s:=s) hto hsz;omega
   rintro r H6 ⟨⟨v6,ht6,hb6⟩,hp6⟩;have hlay:layL x (sortL ((t.rs.take q).map (ren s to)))=sortL ((t.rs.take (q+1)).map (ren s to)):=by
    rw [qc4,get_lt hq,qj3,qe3,List.map_singleton,znj,hxe]
   have ht6':TbS H6 it ⟨t.nx,sortL ((t.rs.take (q+1)).map (ren s to))⟩ v6 lv H0.next:=by rw [← hlay];exact ht6
   refine hk5 r H6 v6 ht6' ((hp4.trans (hx5.hp (fun _=>True)) (r:=(·≠ it)) (fun i _ hi=>⟨hi,trivial⟩)).trans hp6 fun i hi3 hi=>⟨hi,hi,hne4 i hi3⟩) fun k hk3=>hb6 k (by have:=hx5.next;omega) (hne4 k hk3)
  by_cases c1:(get t.rs q).nm=s
  ·have d1:decide ((get t.rs q).nm=s)=true:=qk c1
   have F:=J16 @g0 @gg1 @gg2 @g45 @g46 @g47 @hix @hld @zpa @rc_1 @zud @hsp @m1 @m2 @e1 (J5 @e2 @zte @d1 @hst9 @hw9);refine uT ?_;refine fin _ _ _ _ _ (by unfold Md.ren;rw [qi c1]) (hxt) inferInstance fun r H6 v6 ht6 hp6 hb6=> ?_
   have F:=J6 @g0 @gg1 @gg2 @g45 @g46 @g47;refine uT ?_;exact ⟨n,oM,q+1,v6,oM,ht6,hp6,hb6,by push_cast;rfl⟩
  ·have d1:decide ((get t.rs q).nm=s)=false:=qq c1
   cases c2:snapB (get t.rs q).nm with
   |false =>
    have F:=J16 @g0 @gg1 @gg2 @g45 @g46 @g47 @hix @hld @zpa @rc_1 @zud @hsp @m1 @m2 @e1 (J4 @e2 @zte @d1 @c2);refine uT ?_;refine fin _ _ _ _ _ (by unfold Md.ren;rw [qd c1,c2];simp) (hxt) inferInstance fun r H6 v6 ht6 hp6 hb6=> ?_
    have F:=J6 @g0 @gg1 @gg2 @g45 @g46 @g47;refine uT ?_;exact ⟨n,oM,q+1,v6,oM,ht6,hp6,hb6,by push_cast;rfl⟩
   |true =>
    by_cases c3:splA (get t.rs q).nm=s
    ·have d3:decide (splA (get t.rs q).nm=s)=true:=qk c3
     have hj:= @FnX.p _ _ _ _ (join_ok to (splB (get t.rs q).nm));have F:=J16 @g0 @gg1 @gg2 @g45 @g46 @g47 @hix @hld @zpa @rc_1 @zud @hsp @m1 @m2 @e1 (J8 @e2 @zte @d1 @c2 @d3 @hj @hst9 @hw9);refine uT ?_;refine fin _ _ _ _ _ (by unfold Md.ren;rw [qd c1,c2,d3];rfl) (hxt) inferInstance fun r H6 v6 ht6 hp6 hb6=> ?_
     have F:=J6 @g0 @gg1 @gg2 @g45 @g46 @g47;refine uT ?_;exact ⟨n,oM,q+1,v6,oM,ht6,hp6,hb6,by push_cast;rfl⟩
    ·have d3:decide (splA (get t.rs q).nm=s)=false:=qq c3
     have F:=J16 @g0 @gg1 @gg2 @g45 @g46 @g47 @hix @hld @zpa @rc_1 @zud @hsp @m1 @m2 @e1 (J5 @e2 @zte @d1 @c2 @d3);refine uT ?_;refine fin _ _ _ _ _ (by unfold Md.ren;rw [qd c1,c2,d3];rfl) (hxt) inferInstance fun r H6 v6 ht6 hp6 hb6=> ?_
     have F:=J6 @g0 @gg1 @gg2 @g45 @g46 @g47;refine uT ?_;exact ⟨n,oM,q+1,v6,oM,ht6,hp6,hb6,by push_cast;rfl⟩
theorem renf_ok {H:AH}[hn:HN H]{t:Tb}{v lv:AV}{s to:ByteArray}(h:TbIn H t v lv) (hs:s.size<=100000) (hto:to.size<=100000) :
  FnE lookM 139 [tbA t.nx v lv,.str s,.str to] H fun r H'=>TbR H' r (renT t s to)/\HX H H':=by
 refine fI Tryz.f139 ?_;have hlo:=hn.lo;have F:=J3 @zba @zcb @zea;refine uT ?_;refine cR_at (fun H1=>HX H H1/\H1.next=H.next+4/\H1.get (H.next+1)=some (bxs s)/\H1.get (H.next+2)=some (bxs to)/\H1.get (H.next+3)=some (tbx 0 .nilSl .nilSl)) ?_ ?_
 ·exact ⟨hxt,rfl,vT0,vT0,vT0⟩
 rintro H1 ⟨hx1,hn1,g1,g2,gr⟩;haveI:=hx1.hn;refine cR_f (zch (h.hx hx1) (fun hc=>ren1_ok (checkB_ok.1 hc) h.len h.nm hs hto oM oM g1 g2) (renO_w t s to)) ?_
 rw [← zmj1];rintro r2 H2 ⟨ht2,hx2⟩;have gr2:=(hx2.get oM).trans gr
 have hx02:=hx1.trans hx2;haveI:=hx02.hn;have hlo2:H2.lo=H.lo:=hx02.lo;rcases ht2 with ⟨e,he,h1,rfl⟩|⟨t2,v2,l2,h1,rfl,h3,h4⟩
 ·have o1:=zbb (nn:=0) (v:=.nilSl) (lv:=.nilSl) rfl rfl
  have F:=J5 @gr2 @zea @zba @zha @ld7;refine uT ?_;exact ⟨.inl ⟨e,he,h1,rfl⟩,HX.put hx02 oM _⟩
 ·have o1:=zbb (nn:=t2.nx) (v:=v2) (lv:=l2) (RdR.one h3) (OwnS.one h4).1
  have F:=J5 @gr2 @zea @zba @zha @ld7;refine uT ?_;obtain ⟨p1,p2⟩:=TbR.put h3 h4 gr2 (tbx t2.nx v2 l2);exact ⟨.inr ⟨t2,v2,l2,h1,rfl,p1,p2⟩,HX.put hx02 oM _⟩
def DoOk (g:Nat) (caps:List AV) (H0:AH) (f:Rc->Rc):Prop:= ∀(H1:AH) (j:Nat) (op:Bool) (rs:List Rc) (k:Nat),HX H0 H1->HN H1->Row H1 j false op 84 44 (encC rcL (nl rs))->H1.lo<=j->H0.next<=j->k<rs.length ->
 FnE lookM g (.ptr j (k*44)::caps) H1 fun r H2=>HP (·≠ j) H1 H2/\Row H2 j false op 84 44 (encC rcL (nl (rs.set k (f (get rs k)))))
def chgO (t:Tb) (s:ByteArray) (fine:Bool) (f:Rc->Rc):Res:=if fine && (partB s || snapB s) then (if hasB s t.rs then (if (get t.rs (fndI s t.rs)).kd=2 then bad 18 else good ⟨t.nx,t.rs.set (fndI s t.rs) (f (get t.rs (fndI s t.rs)))⟩) else bad 6) else bad 2
theorem znj1 (t:Tb) (s:ByteArray) (fine:Bool) (f:Rc->Rc):zsd t s fine f=if zvb t then chgO t s fine f else bad 2:=by
 unfold zsd chgO;cases zvb t<;>rfl
theorem chgO_w (t:Tb) (s:ByteArray) (fine:Bool) (f:Rc->Rc):ResW (chgO t s fine f):=by
 unfold chgO;split
 ·split
  ·split
   ·exact .bad dC
   ·exact .good
  ·exact .bad dC
 ·exact .bad dC
abbrev bxb (b:Bool):ABlk:=.cells (.lst [.bool b]) 4 1 false false
theorem chg1_ok {H00 H0:AH}[hn0:HN H0]{t:Tb}{s:ByteArray}{fine:Bool}{f:Rc->Rc}{g:Nat}{caps:List AV}{b1 b2 b3 e3:Nat}(hx00:HX H00 H0) (hdo:DoOk g caps H00 f) (hlen:t.rs.length<=900) (hs:s.size<=100000)
  (h1:b1<H0.next) (h2:b2<H0.next) (h3:b3<H0.next) (g1:H0.get b1=some (bxb fine)) (g2:H0.get b2=some (bxs s)) (g3:H0.get b3=some (.cells (.lst [.fn (.func g) [] caps]) e3 1 false false)) :
  ClOk 176 [.ptr b1 0,.ptr b2 0,.ptr b3 0] H0 t (chgO t s fine f):=by
 intro H1 it v lv hx hn1 ht;refine fI Tryz.f176 ?_;have k1:=(hx.get h1).trans g1;have k2:=(hx.get h2).trans g2;have hnm:= @FnX.p _ _ _ _ (zca1 s oM)
 have hN:=hx.next;have hlo:H1.lo<=H0.next:=by rw [hx.lo];exact hn0.lo
 unfold chgO;cases a0:fine with
 |false=>rw [a0] at k1;have F:=@k1;refine uT ?_;exact ⟨rfl,HP.refl _ _,fun t2 h=>by cases h⟩
 |true =>
 rw [a0] at k1;cases a1:partB s || snapB s with
 |false=>have F:=J4 @k1 @k2 @hnm @a1;refine uT ?_;exact ⟨rfl,HP.refl _ _,fun t2 h=>by cases h⟩
 |true =>
 have F:=J6 @k1 @k2 @hnm @a1 @ht.box @zea;refine uT ?_;refine cR_f (zxh ht.sl hlen) ?_;rintro r2 H2 ⟨rfl,hx2⟩;have hx02:=hx.trans hx2;have ht2:=ht.hx hx2;have m3:=(hx02.get h3).trans g3;haveI:=hx02.hn;have hn2:=hx2.next;cases a2:hasB s t.rs with
 |false=>refine uT0 ?_;exact ⟨rfl,hx2.hp _,fun t2 h=>by cases h⟩
 |true =>
 obtain ⟨q1,q2⟩:=zza a2;have hix:=ix44 (z:=44) (q:=fndI s t.rs) ht2.sl.is (by rw [zoc];exact q1)
 have hfa:=fa_el ht2.sl.is (show fndI s t.rs<(nl t.rs).length by rw [zoc];exact q1) 44 2
 have hld:=ht2.sl.fld (nl_at q1) (j:=2) (x:=.int .i64 (get t.rs (fndI s t.rs)).kd) rfl;by_cases c2:(get t.rs (fndI s t.rs)).kd=2
 ·have d2:decide ((get t.rs (fndI s t.rs)).kd=2)=true:=qk c2
  simp only [qi c2,reduceIte,qz3,qr2,qn3];have F:=J6 @ht2.box @tb_1 @hix @hfa @hld @d2;refine uT ?_;exact ⟨rfl,hx2.hp _,fun t2 h=>by cases h⟩
 ·have d2:decide ((get t.rs (fndI s t.rs)).kd=2)=false:=qq c2
  simp only [qd c2,reduceIte,qz3,qr2,qn3];have hge:=ht2.ge;have hbx2:=ht2.box;have hlv2:=ht2.lvo;have ho2:=ht2.own;obtain ⟨c0,⟨rfl,c00⟩|⟨j,op,rfl,hr,hNj,hj,hop⟩⟩:=ho2
  ·omega
  have hne:j≠it:=fun e=>by
   subst e;exact OwnS.ne ht2.own hbx2 dC _ _ _ _ rfl
  have hrd:=hr.rd (k:=fndI s t.rs*44+2) (v:=.int .i64 (get t.rs (fndI s t.rs)).kd) (by rw [zri zra (nl_at q1) oM];rfl)
  rw [ld1_q] at hrd;have F:=J6 @hbx2 @tb_1 @hix @hrd @d2 @m3;refine uX ?_;refine cR_f (hdo H2 j op t.rs (fndI s t.rs) (hx00.trans hx02) inferInstance hr (by rw [hx2.lo];omega) (by have:=hx00.next;omega) q1) ?_
  rintro r3 H3 ⟨hp3,hr3⟩;refine uT0 ?_;have hn3:=hp3.next;have hsl:(t.rs.set (fndI s t.rs) (f (get t.rs (fndI s t.rs)))).length=t.rs.length:=qj2;refine ⟨rfl,(hx2.hp (fun _=>True)).trans hp3 (fun i _ hf=>⟨trivial,fun e=>by subst e;exact hf.2 _ _ _ _ rfl⟩),fun t2 h=> ?_⟩
  cases h
  refine ⟨.sl j 0 t.rs.length t.rs.length op,(hp3.get (by have:=ht2.lt;omega) (fun e=>hne e.symm)).trans hbx2,?_,OwnS.hq hlv2 hp3 fun j' o n c op' he=> ?_⟩
  ·refine .inr ⟨j,t.rs.length,op,_,by rw [hsl],oM,hr3,by rw [hsl];exact qn _,by rw [zmc zra,zoc];exact qn _,qx (by rw [zmc zra,zoc];exact qn _)⟩
  ·intro e
   subst e;obtain ⟨cc,hg,_⟩:=hr;exact OwnS.ne hlv2 hg dC _ _ _ _ he
theorem chg_ok {H:AH}[hn:HN H]{t:Tb}{v lv:AV}{s:ByteArray}{fine:Bool}{f:Rc->Rc}{g:Nat}{caps:List AV}(h:TbIn H t v lv) (hs:s.size<=100000) (hdo:DoOk g caps H f) :
  FnE lookM 163 [tbA t.nx v lv,.str s,.bool fine,.fn (.func g) [] caps] H fun r H'=>TbR H' r (zsd t s fine f)/\HX H H':=by
 refine fI Tryz.f163 ?_;have hlo:=hn.lo;have F:=J3 @zba @zcb @zea;refine uT ?_;refine cR_at (fun H1=>HX H H1/\H1.next=H.next+5/\H1.get (H.next+1)=some (bxs s)/\H1.get (H.next+2)=some (bxb fine)/\(∃e3,H1.get (H.next+3)=some (.cells (.lst [.fn (.func g) [] caps]) e3 1 false false))/\H1.get (H.next+4)=some (tbx 0 .nilSl .nilSl)) ?_ ?_
 ·refine ⟨hxt,rfl,vT0,vT0,⟨190,vT0⟩,vT0⟩
 rintro H1 ⟨hx1,hn1,g1,g2,⟨e3,g3⟩,gr⟩;haveI:=hx1.hn;refine cR_f (zch (h.hx hx1) (fun hc=>chg1_ok hx1 hdo h.len hs oM oM oM g2 g1 g3) (chgO_w t s fine f)) ?_
 rw [← znj1];rintro r2 H2 ⟨ht2,hx2⟩;have gr2:=(hx2.get oM).trans gr
 have hx02:=hx1.trans hx2;haveI:=hx02.hn;have hlo2:H2.lo=H.lo:=hx02.lo;rcases ht2 with ⟨e,he,h1,rfl⟩|⟨t2,v2,l2,h1,rfl,h3,h4⟩
 ·have o1:=zbb (nn:=0) (v:=.nilSl) (lv:=.nilSl) rfl rfl
  have F:=J5 @gr2 @zea @zba @zha @ld7;refine uT ?_;exact ⟨.inl ⟨e,he,h1,rfl⟩,HX.put hx02 oM _⟩
 ·have o1:=zbb (nn:=t2.nx) (v:=v2) (lv:=l2) (RdR.one h3) (OwnS.one h4).1
  have F:=J5 @gr2 @zea @zba @zha @ld7;refine uT ?_;obtain ⟨p1,p2⟩:=TbR.put h3 h4 gr2 (tbx t2.nx v2 l2);exact ⟨.inr ⟨t2,v2,l2,h1,rfl,p1,p2⟩,HX.put hx02 oM _⟩
theorem zrf1 {rs:List Rc}{k:Nat}(hk:k<rs.length){i:Nat}(hi:i<44):k*44+i<(encC rcL (nl rs)).length:=by
 rw [zmc zra,zoc];have:(k+1)*44<=rs.length*44:=qd2 44 hk;omega
theorem resz_do {H0:AH}{b:Nat}{n:Int}(hb:b<H0.next) (g:H0.get b=some (bxi n)):DoOk 164 [.ptr b 0] H0 fun x=> {x with sz:=n}:=by
 intro H1 j op rs k hx hn1 hr hlo hj hk;refine fI Tryz.f164 ?_;have k1:=(hx.get hb).trans g;obtain ⟨H7,w1,w2,w3,w4⟩:=Row.st1 (L:=lookM) (t:=3) (k:=k*44+3) (v:=.int .i64 n) hr hn1.hide hlo sz3i rfl (zrf1 hk oM)
 rw [zwh zra (nl_at hk) oM (b:=(AV.nilSl,{get rs k with sz:=n})) rfl,zof1] at w2
 have F:=J2 @k1 @w1;refine uT ?_;exact ⟨w3,w2⟩
theorem lim_do {H0:AH}{b1 b2:Nat}{q r:Int}(hb1:b1<H0.next) (hb2:b2<H0.next) (g1:H0.get b1=some (bxi q)) (g2:H0.get b2=some (bxi r)):DoOk 166 [.ptr b1 0,.ptr b2 0] H0 fun x=> {x with qu:=q,rs:=r}:=by
 intro H1 j op rs k hx hn1 hr hlo hj hk;refine zuc f166_eq rfl rfl ?_;have k1:=(hx.get hb1).trans g1;have k2:=(hx.get hb2).trans g2;obtain ⟨H7,w1,w2,w3,w4⟩:=Row.st (L:=lookM) (t:=3) (s:=1) (k:=k*44+42) (v:=.int .i64 q) hr hn1.hide hlo sz3i rfl rfl (by have:=zrf1 (rs:=rs) hk (i:=42) oM;omega)
 have hset:(encC rcL (nl rs)).take (k*44+42) ++ (AV.int .i64 q).cells ++ (encC rcL (nl rs)).drop (k*44+42+1)=(encC rcL (nl rs)).set (k*44+42) (.int .i64 q):=by
  rw [qr4,qi (zrf1 hk oM)]
  show _ ++ [AV.int .i64 q] ++ _=_
  simp
 rw [hset,zwh zra (nl_at hk) oM (b:=(AV.nilSl,{get rs k with qu:=q})) rfl,zof1] at w2
 have hlen:(rs.set k {get rs k with qu:=q}).length=rs.length:=qj2
 have hk':k<(rs.set k {get rs k with qu:=q}).length:=by rw [hlen];exact hk
 have hgk:get (rs.set k {get rs k with qu:=q}) k= {get rs k with qu:=q}:=zbh (by rw [qk4 hk])
 haveI:HN H7:=w3.hn;obtain ⟨H8,x1,x2,x3,x4⟩:=Row.st1 (L:=lookM) (t:=3) (k:=k*44+43) (v:=.int .i64 r) w2 HN.hide (by rw [w3.lo];exact hlo) sz3i rfl (zrf1 hk' oM)
 rw [zwh zra (nl_at hk') oM (b:=(AV.nilSl,{get rs k with qu:=q,rs:=r})) (by rw [hgk];rfl),zof1,List.set_set] at x2
 have F:=J3 f166c.eq_1 @k1 @k2;refine uT ?_;refine rk_gst (t:=3) (a:=9) (b:=6) (i:=j) (o:=k*44+42) (u:=.int .i64 q) (ks:= [sOf 2]) (js:= [b2]) kR kR ?_ ?_ ?_ (by intro h;cases h) ?_ w1 ?_
 ·refine zka (o:=0) ?_ zeb
  exact vT0
 ·exact vT0
 ·exact vT0
 ·intro i hi
  simp only [qx1] at hi;omega
 ·show RK lookM _ _ (putS none _ _) _ _
  have hn:∀(v:AV) (T:Tr AV),putS none v T=T:=fun _ _=>rfl
  have F:=J2 @hn @x1;refine uT ?_;exact ⟨w3.trans x3 fun i _ hi=>⟨hi,hi⟩,x2⟩
theorem resz_ok {H:AH}[hn:HN H]{t:Tb}{v lv:AV}{s:ByteArray}{n:Int}(h:TbIn H t v lv) (hs:s.size<=100000) :
  FnE lookM 140 [tbA t.nx v lv,.str s,.int .i64 n] H fun r H'=>TbR H' r (sizeT t s n)/\HX H H':=by
 refine fJ Tryz.f140 o140 ?_;have hlo:=hn.lo;have F:=J3 @zba @zcb @zea;refine uT ?_;refine rk_at (fun H1=>HX H H1/\H1.next=H.next+3/\H1.get H.next=some (tbx t.nx v lv)/\H1.get (H.next+1)=some (bxi n)/\H1.get (H.next+2)=some (tbx 0 .nilSl .nilSl)) ?_ ?_
 ·exact ⟨hxt,rfl,vT0,vT0,vT0⟩
 rintro H1 ⟨hx1,hn1,g0,g1,gr⟩;haveI:=hx1.hn;refine rk_cw (js:= [H.next]) (R:=fun r H'=>r= .bool (wi n 1 64)/\H'=H1) ?_ ?_ ?_
 ·rw [zwc]
  refine zka (o:=0) ?_ zeb<;>(exact vT0)
 ·refine uT0 ?_;exact zaa1 n H1
 rintro r2 H2 ⟨rfl,rfl⟩;refine ⟨zhb (HX.refl _) _ fun i hi=> ?_,?_⟩
 ·simp only [qx1] at hi
  subst hi;exact ⟨oM,_,_,_,_,_,g0⟩
 have F:=@zvd;refine uT ?_;refine cR_f (chg_ok (h.hx hx1) hs (resz_do oM g1)) ?_
 rintro r2 H2 ⟨ht2,hx2⟩;have gr2:=(hx2.get oM).trans gr
 have hx02:=hx1.trans hx2;haveI:=hx02.hn;have hlo2:H2.lo=H.lo:=hx02.lo;rcases ht2 with ⟨e,he,h1,rfl⟩|⟨t2,v2,l2,h1,rfl,h3,h4⟩
 ·have o1:=zbb (nn:=0) (v:=.nilSl) (lv:=.nilSl) rfl rfl
  have F:=J5 @gr2 @zea @zba @zha @ld7;refine uT ?_;exact ⟨.inl ⟨e,he,h1,rfl⟩,HX.put hx02 oM _⟩
 ·have o1:=zbb (nn:=t2.nx) (v:=v2) (lv:=l2) (RdR.one h3) (OwnS.one h4).1
  have F:=J5 @gr2 @zea @zba @zha @ld7;refine uT ?_;obtain ⟨p1,p2⟩:=TbR.put h3 h4 gr2 (tbx t2.nx v2 l2);exact ⟨.inr ⟨t2,v2,l2,h1,rfl,p1,p2⟩,HX.put hx02 oM _⟩
theorem lim_ok {H:AH}[hn:HN H]{t:Tb}{v lv:AV}{s:ByteArray}{q r:Int}(h:TbIn H t v lv) (hs:s.size<=100000) :
  FnE lookM 141 [tbA t.nx v lv,.str s,.int .i64 q,.int .i64 r] H fun r' H'=>TbR H' r' (limT t s q r)/\HX H H':=by
 refine fJ Tryz.f141 o141 ?_;have hlo:=hn.lo;have F:=J3 @zba @zcb @zea;refine uT ?_;refine rk_at (fun H1=>HX H H1/\H1.next=H.next+4/\H1.get H.next=some (tbx t.nx v lv)/\H1.get (H.next+1)=some (bxi q)/\H1.get (H.next+2)=some (bxi r)/\H1.get (H.next+3)=some (tbx 0 .nilSl .nilSl)) ?_ ?_
 ·exact ⟨hxt,rfl,vT0,vT0,vT0,vT0⟩
 rintro H1 ⟨hx1,hn1,g0,g1,g2,gr⟩;haveI:=hx1.hn;have cont:∀(T:Tr AV) (ss:List Kf) (Q:PostC),(∀v2 H2,TbR H2 v2 (limT t s q r)->HX H1 H2->RK lookM (ex_ 0 (tO 19) 20<|ex_ 1 (tO 19) 21<|sN_ false 7 (tO 8) (tO 20)<|m_ (tO 21) 9<| .done) ss (pS 19 v2 T) H2 Q) ->
   cR false lookM 163 [tbA t.nx v lv,.str s,.bool (wi q 0 64 && wi r 0 64),.fn (.func 166) [] [.ptr (H.next+1) 0,.ptr (H.next+2) 0]] H1 19 (ex_ 0 (tO 19) 20<|ex_ 1 (tO 19) 21<|sN_ false 7 (tO 8) (tO 20)<|m_ (tO 21) 9<| .done) ss T Q:=by
  intro T ss Q hk;refine cR_f (chg_ok (h.hx hx1) hs (lim_do oM oM g1 g2)) ?_
  rintro v2 H2 ⟨ht2,hx2⟩;exact hk v2 H2 ht2 hx2
 refine rk_cw (js:= [H.next]) (R:=fun r H'=>r= .bool (wi q 0 64)/\H1=H') ?_ ?_ ?_
 ·rw [zwc]
  refine zka (o:=0) ?_ zeb<;>(exact vT0)
 ·refine uT0 ?_;exact (zba1 q H1).mono fun _ _ h=>⟨h.1,h.2.symm⟩
 rintro r2 H2 ⟨rfl,rfl⟩;refine ⟨zhb (HX.refl _) _ fun i hi=> ?_,?_⟩
 ·simp only [qx1] at hi
  subst hi;exact ⟨oM,_,_,_,_,_,g0⟩
 have tail:∀(T:Tr AV) (v2:AV) (H2:AH),TbR H2 v2 (limT t s q r)->HX H2 H2->True:=fun _ _ _ _ _=>trivial
 cases a1:wi q 0 64 with
 |false =>
  rw [a1] at cont;have F:=@zvd;refine uX ?_;refine cont _ _ _ ?_;intro r2 H2 ht2 hx2;have gr2:=(hx2.get oM).trans gr
  have hx02:=hx1.trans hx2;haveI:=hx02.hn;have hlo2:H2.lo=H.lo:=hx02.lo;rcases ht2 with ⟨e,he,h1,rfl⟩|⟨t2,v2,l2,h1,rfl,h3,h4⟩
  ·have o1:=zbb (nn:=0) (v:=.nilSl) (lv:=.nilSl) rfl rfl
   have F:=J5 @gr2 @zea @zba @zha @ld7;refine uT ?_;exact ⟨.inl ⟨e,he,h1,rfl⟩,HX.put hx02 oM _⟩
  ·have o1:=zbb (nn:=t2.nx) (v:=v2) (lv:=l2) (RdR.one h3) (OwnS.one h4).1
   have F:=J5 @gr2 @zea @zba @zha @ld7;refine uT ?_;obtain ⟨p1,p2⟩:=TbR.put h3 h4 gr2 (tbx t2.nx v2 l2);exact ⟨.inr ⟨t2,v2,l2,h1,rfl,p1,p2⟩,HX.put hx02 oM _⟩
 |true =>
  rw [a1] at cont;have F:=J2 @zvd @g2;refine uT ?_;refine rk_cw (js:= [H.next]) (R:=fun r' H'=>r'= .bool (wi r 0 64)/\H1=H') ?_ ?_ ?_
  ·rw [zwc]
   refine zka (o:=0) ?_ zeb<;>(exact vT0)
  ·refine uT0 ?_;exact (zba1 r H1).mono fun _ _ h=>⟨h.1,h.2.symm⟩
  rintro r2 H2 ⟨rfl,rfl⟩;refine ⟨zhb (HX.refl _) _ fun i hi=> ?_,?_⟩
  ·simp only [qx1] at hi
   subst hi;exact ⟨oM,_,_,_,_,_,g0⟩
  have F:=@zvd;refine uT ?_;refine cont _ _ _ ?_;intro r2 H2 ht2 hx2;have gr2:=(hx2.get oM).trans gr
  have hx02:=hx1.trans hx2;haveI:=hx02.hn;have hlo2:H2.lo=H.lo:=hx02.lo;rcases ht2 with ⟨e,he,h1,rfl⟩|⟨t2,v2,l2,h1,rfl,h3,h4⟩
  ·have o1:=zbb (nn:=0) (v:=.nilSl) (lv:=.nilSl) rfl rfl
   have F:=J5 @gr2 @zea @zba @zha @ld7;refine uT ?_;exact ⟨.inl ⟨e,he,h1,rfl⟩,HX.put hx02 oM _⟩
  ·have o1:=zbb (nn:=t2.nx) (v:=v2) (lv:=l2) (RdR.one h3) (OwnS.one h4).1
   have F:=J5 @gr2 @zea @zba @zha @ld7;refine uT ?_;obtain ⟨p1,p2⟩:=TbR.put h3 h4 gr2 (tbx t2.nx v2 l2);exact ⟨.inr ⟨t2,v2,l2,h1,rfl,p1,p2⟩,HX.put hx02 oM _⟩
def zwa1:Code:=bodyN lookM 94
def f94l0:C2:=(.seq (.seq (.reg (m_ (tO 4) 15<|fa_ 1 (tO 1) 16<|l_ (tO 16) 17<|le_ lookM 49 (tO 17) 18<|b_ lookM .lss 3 (.tmp 15) (.tmp 18) 19<| .done))
 (.cond (tO 19) .skip (.exit 0)))
 (.seq (.block 1 (.seq (.reg (fa_ 1 (tO 1) 22<|l_ (tO 22) 23<|m_ (tO 4) 24<|ix_ 44 (tO 23) (tO 24) 25<|lN_ 44 (tO 25) 26<|al_ false (AV.toC (.agg [(.int .i64 (0)),(.str ⟨#[]⟩),(.int .i64 (0)),(.int .i64 (0)),.nilSl,(.int .i64 (0)),(.int .i64 (0)),(.int .u8 (0)),(.int .u8 (0)),(.int .u8 (0)),(.int .u8 (0)),(.int .u8 (0)),(.int .u8 (0)),(.int .u8 (0)),(.int .u8 (0)),(.int .u8 (0)),(.int .u8 (0)),(.int .u8 (0)),(.int .u8 (0)),(.int .u8 (0)),(.int .u8 (0)),(.int .u8 (0)),(.int .u8 (0)),(.int .u8 (0)),(.int .u8 (0)),(.int .u8 (0)),(.int .u8 (0)),(.int .u8 (0)),(.int .u8 (0)),(.int .u8 (0)),(.int .u8 (0)),(.int .u8 (0)),(.int .u8 (0)),(.int .u8 (0)),(.int .u8 (0)),(.int .u8 (0)),(.int .u8 (0)),(.int .u8 (0)),(.int .u8 (0)),(.int .i64 (0)),(.int .i64 (0)),(.int .i64 (0)),(.int .i64 (0)),(.int .i64 (0))])) 84 44 5<|sN_ false 44 (tO 5) (tO 26)<| .done))
 (.seq (.reg (hn_ false (fun xs H=>bsF 2 0 (.agg [(.int .i64 (0)),(.int .i64 (0))]) 161 (zipF [] xs) H) [] 27<|fa_ 4 (tO 5) 28<|fa_ 0 (tO 28) 29<|l_ (tO 29) 30<|hn_ false (appX 161 2 16) [(tO 27),(tO 30)] 31<|fa_ 4 (tO 5) 32<|fa_ 0 (tO 32) 33<|s1_ false lookM 78 (tO 33) (tO 31)<| .done))
 (.reg (fa_ 1 (tO 3) 34<|l_ (tO 34) 35<|lN_ 44 (tO 5) 36<|hn_ false (fun xs H=>bsF 44 1 (.agg [(.int .i64 (0)),(.str ⟨#[]⟩),(.int .i64 (0)),(.int .i64 (0)),.nilSl,(.int .i64 (0)),(.int .i64 (0)),(.int .u8 (0)),(.int .u8 (0)),(.int .u8 (0)),(.int .u8 (0)),(.int .u8 (0)),(.int .u8 (0)),(.int .u8 (0)),(.int .u8 (0)),(.int .u8 (0)),(.int .u8 (0)),(.int .u8 (0)),(.int .u8 (0)),(.int .u8 (0)),(.int .u8 (0)),(.int .u8 (0)),(.int .u8 (0)),(.int .u8 (0)),(.int .u8 (0)),(.int .u8 (0)),(.int .u8 (0)),(.int .u8 (0)),(.int .u8 (0)),(.int .u8 (0)),(.int .u8 (0)),(.int .u8 (0)),(.int .u8 (0)),(.int .u8 (0)),(.int .u8 (0)),(.int .u8 (0)),(.int .u8 (0)),(.int .u8 (0)),(.int .u8 (0)),(.int .i64 (0)),(.int .i64 (0)),(.int .i64 (0)),(.int .i64 (0)),(.int .i64 (0))]) 84 (zipF [0] xs) H) [(tO 36)] 37<|hn_ false (appX 84 44 152) [(tO 35),(tO 37)] 38<|fa_ 1 (tO 3) 39<|s1_ false lookM 49 (tO 39) (tO 38)<| .done)))))
 (.reg (m_ (tO 4) 20<|b_ lookM .add 3 (.tmp 20) (.const (.int .i64 (1))) 21<|m_ (tO 21) 4<| .done))))
def f94b0:Code:=lpN zwa1 0
theorem zjo1:comp lookM f94b0=f94l0:=kR
def f94c:C2:=(.seq (.reg (bx_ false 53 7 (tO 0) 1<|al_ false (AV.toC (.agg [(.int .i64 (0)),.nilSl,(.int .i64 (0)),(.int .i64 (0)),(.int .i64 (0)),(.int .i64 (0)),.nilSl])) 53 7 2<| .done))
 (.seq (.reg (fa_ 0 (tO 1) 6<|l_ (tO 6) 7<|fa_ 2 (tO 1) 8<|lN_ 4 (tO 8) 9<|fa_ 6 (tO 1) 11<|l_ (tO 11) 12<|hn_ true (fun xs H=>bsF 1 0 (.int .i64 (0)) 3 (zipF [] xs) H) [] 10<|K2.gw (gwX lookM zwa1 1 7) (gwP lookM zwa1 1 7) (some (sOf 13))<|bu_ lookM 53 [0,2,3] [(tO 7),(tO 9),(tO 13)] 14<|al_ true (AV.toC (.agg [(.int .i64 (0)),.nilSl,(.int .i64 (0)),(.int .i64 (0)),(.int .i64 (0)),(.int .i64 (0)),.nilSl])) 53 7 3<|sN_ false 7 (tO 3) (tO 14)<| .done))
 (.seq (.seq (.reg (m_ (.con (.int .i64 (0))) 4<| .done))
 (.block 0 (.loop f94b0)))
 (.seq (.reg (lN_ 7 (tO 3) 40<|sN_ false 7 (tO 2) (tO 40)<| .done))
 .ret))))
theorem f94_eq:fnF lookM 94=some ⟨41,f94c, [.cell 2 53]⟩:=kR
def f81body:Code:=bodyN lookM 81
def f81l0:C2:=(.seq (.seq (.reg (m_ (tO 21) 95<|fa_ 1 (tO 19) 96<|l_ (tO 96) 97<|le_ lookM 49 (tO 97) 98<|b_ lookM .lss 3 (.tmp 95) (.tmp 98) 99<| .done))
 (.cond (tO 99) .skip (.exit 0)))
 (.seq (.block 1 (.seq (.reg (fa_ 1 (tO 19) 103<|l_ (tO 103) 104<|m_ (tO 21) 105<|ix_ 44 (tO 104) (tO 105) 106<|fa_ 1 (tO 106) 107<|l_ (tO 107) 108<|cl_ false 62 [(tO 108)] 109<|m_ (tO 109) 102<|ex_ 0 (tO 102) 110<|ex_ 1 (tO 102) 111<|ex_ 2 (tO 102) 112<|m_ (tO 110) 22<|m_ (tO 111) 23<|m_ (tO 112) 24<| .done))
 (.seq (.reg (m_ (tO 14) 113<|m_ (tO 113) 114<|o_ 114 true 115 (m_ (tO 24) 115)<|pk_ (tO 114) (tO 115) (.con (.bool false)) 116<|m_ (tO 116) 117<|o_ 117 true 118 (fa_ 1 (tO 19) 118)<|o_ 117 true 119 (l_ (tO 118) 119)<|o_ 117 true 120 (m_ (tO 21) 120)<|o_ 117 true 121 (ix_ 44 (tO 119) (tO 120) 121)<|o_ 117 true 122 (fa_ 40 (tO 121) 122)<|o_ 117 true 123 (l_ (tO 122) 123)<|o_ 117 true 124 (m_ (tO 20) 124)<|o_ 117 true 125 (b_ lookM .eql 3 (.tmp 123) (.tmp 124) 125)<|pk_ (tO 117) (tO 125) (.con (.bool false)) 126<| .done))
 (.cond (tO 126) (.reg (fa_ 1 (tO 19) 127<|l_ (tO 127) 128<|m_ (tO 21) 129<|m_ (tO 2) 130<|b_ lookM .add 9 (.tmp 130) (.const (.string ⟨#[64]⟩)) 131<|m_ (tO 23) 132<|b_ lookM .add 9 (.tmp 131) (.tmp 132) 133<|ix_ 44 (tO 128) (tO 129) 134<|fa_ 1 (tO 134) 135<|s1_ false lookM 9 (tO 135) (tO 133)<| .done)) .skip))))
 (.reg (m_ (tO 21) 100<|b_ lookM .add 3 (.tmp 100) (.const (.int .i64 (1))) 101<|m_ (tO 101) 21<| .done))))
def f81b0:Code:=lpN f81body 0
theorem zko1:comp lookM f81b0=f81l0:=kR
def f81c:C2:=(.seq (.reg (bx_ false 53 7 (tO 0) 3<|al_ false (AV.toC (.agg [(.int .i64 (0)),.nilSl,(.int .i64 (0)),(.int .i64 (0)),(.int .i64 (0)),(.int .i64 (0)),.nilSl])) 53 7 6<|m_ (.con (.int .i64 (0))) 7<| .done))
 (.seq (.reg (m_ (tO 1) 26<|cl_ false 62 [(tO 26)] 27<|m_ (tO 27) 25<|ex_ 0 (tO 25) 28<|ex_ 1 (tO 25) 29<|ex_ 2 (tO 25) 30<|m_ (tO 28) 8<|m_ (tO 29) 9<|m_ (tO 30) 10<| .done))
 (.seq (.reg (m_ (tO 2) 32<|cl_ false 62 [(tO 32)] 33<|m_ (tO 33) 31<|ex_ 0 (tO 31) 34<|ex_ 1 (tO 31) 35<|ex_ 2 (tO 31) 36<|m_ (tO 34) 11<|m_ (tO 35) 12<|m_ (tO 36) 13<| .done))
 (.seq (.reg (m_ (tO 1) 37<|cl_ false 34 [(tO 37)] 38<|m_ (tO 38) 39<|o_ 39 true 40 (m_ (tO 2) 40)<|o_ 39 true 41 (cl_ false 34 [(tO 40)] 41)<|pk_ (tO 39) (tO 41) (.con (.bool false)) 42<|m_ (tO 42) 14<| .done))
 (.seq (.seq (.reg (lN_ 7 (tO 3) 43<|cl_ false 90 [(tO 43)] 44<|b_ lookM .neq 34 (.tmp 44) (.const (.int .i64 (0))) 45<|m_ (tO 45) 46<|o_ 46 false 47 (m_ (tO 14) 47)<|o_ 46 false 48 (nt_ (tO 47) 48)<|o_ 46 false 49 (m_ (tO 48) 49)<|o_ 49 true 50 (m_ (tO 10) 50)<|o_ 49 true 51 (nt_ (tO 50) 51)<|o_ 49 true 52 (m_ (tO 51) 52)<|o_ 52 false 53 (m_ (tO 13) 53)<|o_ 52 false 54 (nt_ (tO 53) 54)<|o_ 49 true 55 (pk_ (tO 52) (.con (.bool true)) (tO 54) 55)<|o_ 49 true 56 (m_ (tO 55) 56)<|o_ 56 false 57 (m_ (tO 8) 57)<|o_ 56 false 58 (m_ (tO 11) 58)<|o_ 56 false 59 (b_ lookM .neq 9 (.tmp 57) (.tmp 58) 59)<|o_ 49 true 60 (pk_ (tO 56) (.con (.bool true)) (tO 59) 60)<|o_ 46 false 61 (pk_ (tO 49) (tO 60) (.con (.bool false)) 61)<|pk_ (tO 46) (.con (.bool true)) (tO 61) 62<| .done))
 (.cond (tO 62) (.seq (.reg (bu_ lookM 53 [] [] 63<|sN_ false 7 (tO 6) (tO 63)<|m_ (.con (.int .i64 (2))) 7<| .done))
 .ret) .skip))
 (.seq (.reg (lN_ 7 (tO 3) 65<|m_ (tO 1) 66<|cl_ false 66 [(tO 65),(tO 66)] 67<|m_ (tO 67) 64<|ex_ 0 (tO 64) 68<|ex_ 1 (tO 64) 69<|m_ (tO 68) 15<|m_ (tO 69) 16<| .done))
 (.seq (.seq (.reg (m_ (tO 16) 70<|nt_ (tO 70) 71<| .done))
 (.cond (tO 71) (.seq (.reg (bu_ lookM 53 [] [] 72<|sN_ false 7 (tO 6) (tO 72)<|m_ (.con (.int .i64 (6))) 7<| .done))
 .ret) .skip))
 (.seq (.reg (lN_ 7 (tO 3) 74<|m_ (tO 2) 75<|cl_ false 66 [(tO 74),(tO 75)] 76<|m_ (tO 76) 73<|ex_ 0 (tO 73) 77<|ex_ 1 (tO 73) 78<|m_ (tO 77) 17<|m_ (tO 78) 18<| .done))
 (.seq (.seq (.reg (m_ (tO 18) 79<| .done))
 (.cond (tO 79) (.seq (.reg (bu_ lookM 53 [] [] 80<|sN_ false 7 (tO 6) (tO 80)<|m_ (.con (.int .i64 (7))) 7<| .done))
 .ret) .skip))
 (.seq (.reg (lN_ 7 (tO 3) 81<|cl_ false 94 [(tO 81)] 82<|al_ false (AV.toC (.agg [(.int .i64 (0)),.nilSl,(.int .i64 (0)),(.int .i64 (0)),(.int .i64 (0)),(.int .i64 (0)),.nilSl])) 53 7 19<|sN_ false 7 (tO 19) (tO 82)<| .done))
 (.seq (.reg (fa_ 1 (tO 19) 83<|l_ (tO 83) 84<|m_ (tO 15) 85<|ix_ 44 (tO 84) (tO 85) 86<|fa_ 0 (tO 86) 87<|l_ (tO 87) 88<|m_ (tO 88) 20<| .done))
 (.seq (.reg (fa_ 1 (tO 19) 89<|l_ (tO 89) 90<|m_ (tO 15) 91<|m_ (tO 2) 92<|ix_ 44 (tO 90) (tO 91) 93<|fa_ 1 (tO 93) 94<|s1_ false lookM 9 (tO 94) (tO 92)<| .done))
 (.seq (.seq (.reg (m_ (.con (.int .i64 (0))) 21<| .done))
 (.block 0 (.loop f81b0)))
 (.seq (.reg (fa_ 1 (tO 19) 136<|l_ (tO 136) 137<|cl_ false 97 [(tO 137)] 138<|fa_ 1 (tO 19) 139<|s1_ false lookM 49 (tO 139) (tO 138)<| .done))
 (.seq (.reg (lN_ 7 (tO 19) 140<|sN_ false 7 (tO 6) (tO 140)<|m_ (.con (.int .i64 (0))) 7<| .done))
 .ret)))))))))))))))
theorem f81_eq:fnF lookM 81=some ⟨141,f81c, [.cell 6 53,.tmp 7]⟩:=kR
def HoD (H:AH) (a:AV):Prop:=a= .nilSl\/ ∃i op cc op',a= .sl i 0 0 0 op/\i<H.next/\H.get i=some (.cells cc 161 2 op' false)
theorem HoD.is {H:AH}{a:AV}(h:HoD H a):IsSl H a 0:=by
 rcases h with rfl|⟨i,op,cc,op',rfl,hi,hg⟩
 ·exact .inl ⟨rfl,rfl⟩
 ·exact .inr ⟨i,0,0,op,rfl,hi,cc,_,_,_,_,hg,qo2 _⟩
theorem HoD.z {H:AH}{a:AV}(h:HoD H a):SlZ H a 0 2 []:=by
 rcases h with rfl|⟨i,op,cc,op',rfl,hi,hg⟩
 ·exact ⟨by simp,.inl ⟨rfl,rfl⟩⟩
 ·exact ⟨by simp,.inr ⟨i,0,0,op,false,op',_,_,cc.l,rfl,hi,⟨cc,hg,rfl⟩,oM,by simp⟩⟩
theorem HoD.hx {H H':AH}{a:AV}(h:HoD H a) (hx:HX H H'):HoD H' a:=by
 rcases h with h|⟨i,op,cc,op',rfl,hi,hg⟩
 ·exact .inl h
 ·exact .inr ⟨i,op,cc,op',rfl,qz hi hx.next,(hx.get hi).trans hg⟩
theorem HoD.put {H H':AH}{a:AV}(h:HoD H a){b:Nat}(hp:HP (·≠ b) H H') (hb:∀cc op ro,H.get b≠some (.cells cc 161 2 op ro)):HoD H' a:=by
 rcases h with h|⟨i,op,cc,op',rfl,hi,hg⟩
 ·exact .inl h
 ·exact .inr ⟨i,op,cc,op',rfl,qz hi hp.next,(hp.get hi (fun e=>by subst e;exact hb _ _ _ hg)).trans hg⟩
theorem OwnS.hod {H:AH}{a:AV}{N:Nat}{cs:List AV}(h:OwnS H a 0 161 2 cs N):HoD H a:=by
 rcases h.2 with ⟨rfl,_⟩|⟨j,op,rfl,⟨cc,hg,_⟩,_,hj,_⟩
 ·exact .inl rfl
 ·exact .inr ⟨j,op,cc,op,rfl,hj,hg⟩
structure OwD (H:AH) (v:AV) (l:List (AV×Rc)) (N:Nat):Prop where
 own:OwnS H v l.length 84 44 (encC rcL l) N
 ho:∀p,p∈l->HoD H p.1
theorem OwD.hx {H H':AH}{v:AV}{l:List (AV×Rc)}{N:Nat}(h:OwD H v l N) (hx:HX H H'):OwD H' v l N:=⟨OwnS.hx h.own hx,fun p hp=>(h.ho p hp).hx hx⟩
structure RdD (H:AH) (v:AV) (l:List (AV×Rc)):Prop where
 rd:(v= .nilSl/\l= [])\/ ∃j c op op' cs,v= .sl j 0 l.length c op/\j<H.next/\Row H j false op' 84 44 cs/\l.length<=c/\l.length*44<=cs.length/\cs.take (l.length*44)=encC rcL l
 ho:∀p,p∈l->HoD H p.1
theorem OwD.rd {H:AH}{v:AV}{l:List (AV×Rc)}{N:Nat}(h:OwD H v l N):RdD H v l:=by
 refine ⟨?_,h.ho⟩;rcases h.own.2 with ⟨rfl,h0⟩|⟨j,op,rfl,hr,_,hj,_⟩
 ·exact .inl ⟨rfl,qk1 h0⟩
 ·exact .inr ⟨j,_,op,op,_,rfl,hj,hr,qn _,by rw [h.own.1];exact qn _,qx (by rw [h.own.1];exact qn _)⟩
theorem RdD.sl {H:AH}{v:AV}{l:List (AV×Rc)}(h:RdD H v l):SlRc H v l:=by
 refine ⟨⟨by rw [zmc zra],?_⟩,fun p hp=>(h.ho p hp).is,fun i o n c op hv=> ?_⟩
 ·rcases h.rd with ⟨rfl,rfl⟩|⟨j,c,op,op',cs,rfl,hj,hr,hc,hl,ht⟩
  ·exact .inl ⟨rfl,rfl⟩
  ·exact .inr ⟨j,0,c,op,false,op',_,44,cs,rfl,hj,hr,oM,by rw [qd3];exact ht⟩
 ·rcases h.rd with ⟨rfl,rfl⟩|⟨j,c',op',op2,cs,rfl,hj,hr,hc,_⟩
  ·cases hv
  ·cases hv;exact hc
theorem RdD.hx {H H':AH}{v:AV}{l:List (AV×Rc)}(h:RdD H v l) (hx:HX H H'):RdD H' v l:=by
 refine ⟨?_,fun p hp=>(h.ho p hp).hx hx⟩
 rcases h.rd with h|⟨j,c,op,op',cs,rfl,hj,hr,hc⟩
 ·exact .inl h
 ·exact .inr ⟨j,c,op,op',cs,rfl,qz hj hx.next,hr.hx hx hj,hc⟩
theorem RdD.put {H H':AH}{v:AV}{l:List (AV×Rc)}(h:RdD H v l){b:Nat}(hp:HP (·≠ b) H H'){cb:Ce}{eb zb:Nat}{opb rob:Bool}(hb:H.get b=some (.cells cb eb zb opb rob)) (hz:zb≠44) (hz2:zb≠2):RdD H' v l:=by
 refine ⟨?_,fun p hp'=>(h.ho p hp').put hp fun cc op ro e=>by rw [hb] at e;cases e;exact hz2 rfl⟩
 rcases h.rd with h|⟨j,c,op,op',cs,rfl,hj,hr,hc⟩
 ·exact .inl h
 ·refine .inr ⟨j,c,op,op',cs,rfl,qz hj hp.next,hr.hp hp hj fun e=> ?_,hc⟩
  subst e;obtain ⟨cc,hg,_⟩:=hr;rw [hb] at hg;cases hg;exact hz rfl
theorem RdD.one {H:AH}{v:AV}{l:List (AV×Rc)}(h:RdD H v l):v.oneCell=true:=zsi h.sl.is
def LvD (H:AH) (lv:AV):Prop:= ∃j op,lv= .sl j 0 2 2 op/\Row H j false op 3 1 lvL/\j<H.next
theorem OwL.lvd {H:AH}{lv:AV}{N:Nat}(h:OwL H lv N):LvD H lv:=by
 rcases h.2 with ⟨_,h⟩|⟨j,op,rfl,hr,_,hj,_⟩
 ·cases h
 ·exact ⟨j,op,rfl,hr,hj⟩
theorem LvD.hx {H H':AH}{lv:AV}(h:LvD H lv) (hx:HX H H'):LvD H' lv:=by
 obtain ⟨j,op,rfl,hr,hj⟩:=h;exact ⟨j,op,rfl,hr.hx hx hj,qz hj hx.next⟩
theorem LvD.put {H H':AH}{lv:AV}(h:LvD H lv){b:Nat}(hp:HP (·≠ b) H H'){cb:Ce}{eb zb:Nat}{opb rob:Bool}(hb:H.get b=some (.cells cb eb zb opb rob)) (hz1:zb≠1):LvD H' lv:=by
 obtain ⟨j,op,rfl,hr,hj⟩:=h;refine ⟨j,op,rfl,hr.hp hp hj ?_,qz hj hp.next⟩;intro e;subst e;obtain ⟨cc,hg,_⟩:=hr;rw [hb] at hg;cases hg;exact hz1 rfl
theorem LvD.one {H:AH}{lv:AV}(h:LvD H lv):lv.oneCell=true/\lv.toC= .lst [lv]:=by
 obtain ⟨j,op,rfl,_⟩:=h;exact ⟨rfl,rfl⟩
theorem LvD.z {H:AH}{lv:AV}(h:LvD H lv):SlZ H lv 2 1 lvL:=by
 obtain ⟨j,op,rfl,hr,hj⟩:=h;exact hr.slZ hj rfl
theorem LvD.lv {H:AH}{lv:AV}(h:LvD H lv):Lv H lv:=by
 obtain ⟨j,op,rfl,hr,hj⟩:=h;refine hr.slR hj (qo2 _) fun k hk=> ?_
 have hk:k<2:=hk;rcases k with _|_|k
 ·rfl
 ·rfl
 ·omega
structure TbD (H:AH) (t:Tb) (v lv:AV) (l:List (AV×Rc)):Prop where
 rd:RdD H v l
 eq:rcs l=t.rs
 lv:LvD H lv
theorem TbD.hx {H H':AH}{t:Tb}{v lv:AV}{l:List (AV×Rc)}(h:TbD H t v lv l) (hx:HX H H'):TbD H' t v lv l:=⟨h.rd.hx hx,h.eq,h.lv.hx hx⟩
theorem TbD.put {H H':AH}{t:Tb}{v lv:AV}{l:List (AV×Rc)}(h:TbD H t v lv l){b:Nat}(hp:HP (·≠ b) H H'){cb:Ce}{eb zb:Nat}{opb rob:Bool}(hb:H.get b=some (.cells cb eb zb opb rob)) (hz:zb≠44) (hz2:zb≠2) (hz1:zb≠1):TbD H' t v lv l:=⟨h.rd.put hp hb hz hz2,h.eq,h.lv.put hp hb hz1⟩
theorem TbD.len {H:AH}{t:Tb}{v lv:AV}{l:List (AV×Rc)}(h:TbD H t v lv l):l.length=t.rs.length:=by rw [← h.eq,zjb]
theorem zju {H H':AH}:∀js:List Nat,(∀i,i∈js->H'.get i=H.get i/\ ∃c e z op ro,H.get i=some (.cells c e z op ro))->zsg H H' js=true
 | [],_=>rfl
 |i::js,h=>by
  obtain ⟨h1,c,e,z,op,ro,h2⟩:=h i qq1;exact zzl (show Row H i ro op e z c.l from ⟨c,h2,rfl⟩) h1 (zju js fun k hk=>h k (qj1 _ hk))
theorem appI_eq (s x:AV) (H:AH):zxc lookM 35 s x H=appX 3 1 8 [s,x] H:=(zmh1 (L:=lookM) (t:=35) (e:=3) (z:=1) (b:=8) (zv:=.int .i64 0) kR kR kR kR kR s x H).symm
theorem rc_set4 (a a':AV) (x:Rc):(rcL (a,x)).set 4 a'=rcL (a',x):=rfl
theorem tb_bu3 (nn:Int) (i o n c:Nat) (op:Bool):zsa lookM 53 (zipF [0,2,3] [.int .i64 nn,.agg cu0,.sl i o n c op])=some (tbA nn .nilSl (.sl i o n c op)):=kR
theorem app1 {H:AH}[hn:HN H]{v:AV}{l:List (AV×Rc)}{N j:Nat}{op:Bool}{p:AV×Rc}(h:OwD H v l N) (hr:Row H j false op 84 44 (rcL p)) (hj:j<H.next) (hone:p.1.oneCell=true) (hlen:l.length<=1000) (hlo:H.lo<=N) (hN:N<=H.next) :
  ∃s' H',appX 84 44 152 [v,.sl j 0 1 1 false] H=some (s',H')/\OwnS H' s' (l ++ [p]).length 84 44 (encC rcL (l ++ [p])) N/\HP (blkNe v) H H'/\H'.next<=H.next+1/\(∀k,k<H.next->blkNe v k->blkNe s' k):=by
 obtain ⟨s',H',a1,a2,a3,a4,a5⟩:=OwnS.app (b:=152) h.own (hr.slZ hj (n:=1) (c:=1) (op':=false) rfl) (zbc _ hone) oM oM hlo hN
 refine ⟨s',H',a1,?_,a3,a4,a5⟩;have:encC rcL (l ++ [p])=encC rcL l ++ rcL p:=by rw [zqi,show encC rcL [p]=rcL p from by unfold encC;simp]
 rw [this,qr];exact a2
abbrev rcb2 (p:AV×Rc):ABlk:=.cells (.lst (rcL p)) 84 44 false false
theorem znw {L:Lk}{H:AH}{d:Nat}{k:K2}{s:List Kf}{T:Tr AV}{Q:PostC}{e z b:Nat}{xs:List AV}(P:AH->Prop) (hp:P H) (hk:∀H,P H->oH false (appX e z b xs H) L d k s T H Q):oH false (appX e z b xs H) L d k s T H Q:=hk H hp
set_option maxHeartbeats 16000000 in
theorem zvk {H:AH}[hn:HN H]{t:Tb}{v lv:AV}{l:List (AV×Rc)}(h:TbD H t v lv l) (hlen:l.length<=900) :
  FnE lookM 94 [tbA t.nx v lv] H fun r H'=>(∃v' lv' l',r=tbA t.nx v' lv'/\rcs l'=rcs l/\l'.length=l.length/\OwD H' v' l' H.next/\OwL H' lv' H.next)/\HX H H':=by
 refine zuc f94_eq rfl rfl ?_;have hlo:=hn.lo;have hl:∀H',fstO (zda .len lookM [49] [v] H')=some (.int .i64 l.length):=fun H'=>ztc (H':=H') uRs h.rd.sl.is
 have e01:=hEq_f (oM:H.next≠H.next+1)
 have hb0:∀H2:AH,bsF 1 0 (.int .i64 0) 3 (zipF [] []) H2=some (.sl H2.next 0 0 0 false,H2.new (.cells (Ce.of []) 3 1 false false)):=fun H2=>bs0_q
 have F:=J10 f94c.eq_1 @zba @zcb @tb_0 @tb_cu @tb_6 @e01 @hb0 @zrk @zsk;refine uT ?_;refine rk_at (fun H1=>HX H H1/\H1.next=H.next+3/\H1.get H.next=some (tbx t.nx v lv)/\H1.get (H.next+1)=some (tbx 0 .nilSl .nilSl)/\OwnS H1 (.sl (H.next+2) 0 0 0 false) 0 3 1 [] (H.next+2)) ?_ ?_
 ·refine ⟨hxt,rfl,vT0,vT0,?_⟩
  exact OwnS.bs0 (H:=(H.new (tbx t.nx v lv)).new (tbx 0 .nilSl .nilSl))
 rintro H1 ⟨hx1,hn1,g0,g1,ho1⟩;haveI:=hx1.hn;have hlo1:H1.lo=H.lo:=hx1.lo;obtain ⟨lv2,H2,a1,ho2,hp2,hn2,hne2⟩:=OwnS.app (b:=8) ho1 (SlZ.hx h.lv.z hx1) rfl dC dC oM oM
 rw [qy1,qm1] at ho2;have hlv1:lv≠ .undef:=by
  obtain ⟨j,op,rfl,_⟩:=h.lv;intro h;cases h
 have p0:=(hp2.get (i:=H.next) oM (zga oM)).trans g0
 have p1:=(hp2.get (i:=H.next+1) oM (zga oM)).trans g1
 refine rk_gap (c:=⟨.builtin .append,#[.tmp 10,.tmp 12],#[35,35]⟩) (t:=35) (t':=35) (a:=10) (b:=12) (ts:= []) (ks:= [sOf 8,sOf 6]) (js:= [H.next,H.next]) (sv:=.sl (H.next+2) 0 0 0 false) (xv:=lv) (v:=lv2) (H':=H2) kR rfl rfl rfl uIs kR ?_ ?_ ?_ (by intro h;cases h) hlv1 ((appI_eq _ _ _).trans a1) ?_ ?_
 ·refine zka (o:=2) ?_ (zka (o:=0) ?_ zeb)<;>(exact vT0)
 ·exact vT0
 ·exact vT0
 ·refine zju _ fun i hi=> ?_
  simp only [qg1,qf5,qj7] at hi;rcases hi with rfl|rfl<;>exact ⟨p0.trans g0.symm,_,_,_,_,_,g0⟩
 have hx2:HX H H2:=HX.hp2 hx1 hp2 fun i hi=>zga oM
 haveI:=hx2.hn;have hlo2:H2.lo=H.lo:=hx2.lo;have hbu:zsa lookM 53 (zipF [0,2,3] [.int .i64 t.nx,.agg cu0,lv2])=some (tbA t.nx .nilSl lv2):=by
  rcases ho2.2 with ⟨_,h⟩|⟨j,op,rfl,_⟩
  ·cases h
  ·exact tb_bu3 _ _ _ _ _ _
 have o1:=zbb (nn:=t.nx) (v:=.nilSl) (lv:=lv2) rfl (OwnS.one ho2).1;have hn2':H1.next<=H2.next:=hp2.next;have hlo22:H2.lo<=H2.next:=HN.lo;have F:=J5 @zvd @hbu @zcb @zba @zha;refine uT ?_;refine rc_lp zjo1 (fun n T H'=> ∃q v' l',n+q=l.length/\HX H H'/\H2.next<H'.next/\H'.get H.next=some (tbx t.nx v lv)/\H'.get (H.next+1)=some (tbx 0 .nilSl .nilSl)/\H'.get H2.next=some (tbx t.nx v' lv2)/\OwD H' v' l' H.next/\rcs l'=(rcs l).take q/\l'.length=q/\OwL H' lv2 H.next /\
  gT T 1= .ptr H.next 0/\gT T 2= .ptr (H.next+1) 0/\gT T 3= .ptr H2.next 0/\gT T 4= .int .i64 q) l.length ?_ ?_
 ·have hxp:HX H2 ((H2.new (tbx 0 .nilSl .nilSl)).put H2.next (tbx t.nx .nilSl lv2)):=hxt
  exact ⟨0,.nilSl, [],rfl,hx2.trans hxp,qd1 _,(hxp.get oM).trans p0,(hxp.get oM).trans p1,zia _ _,⟨OwnS.nil _ _ _ _,fun p hp=>by cases hp⟩,by simp,rfl,OwnS.le (OwnS.hx ho2 hxp) oM,vT0,vT0,vT0,by refine uT0 ?_;rfl⟩
 rintro n T H3 ⟨q,v',l',hnq,hx3,hb3,g0,g1,g3,hod,hrq,hlq,hol,t1,t2,t3,t4⟩;haveI:=hx3.hn;have hlo3:H3.lo=H.lo:=hx3.lo;have hn3:=hx3.next;unfold f94l0;cases n with
 |zero =>
  have hq:q=l.length:=oM
  subst hq;have o2:=zbb (nn:=t.nx) (v:=v') (lv:=lv2) (OwnS.one hod.own).1 (OwnS.one hol).1;have F:=J13 @t1 @t2 @t3 @t4 @g0 @g1 @g3 @tb_1 @hl @zea @zba @zha @ld7;refine uT ?_;have hpp:HP (·≠ (H.next+1)) H3 (H3.put (H.next+1) (tbx t.nx v' lv2)):=HP.put _ _ _;refine ⟨⟨v',lv2,l',rfl,by rw [hrq,qx (by rw [zjb];exact qn _)],hlq,⟨OwnS.hq hod.own hpp fun j o n c op he=> ?_,fun p hp=>(hod.ho p hp).put hpp fun cc op ro e=>by rw [g1] at e;cases e⟩,OwnS.hq hol hpp fun j o n c op he=> ?_⟩,HX.put hx3 oM _⟩
  ·intro e
   subst e;exact OwnS.ne hod.own g1 dC _ _ _ _ he
  ·intro e
   subst e;exact OwnS.ne hol g1 dC _ _ _ _ he
 |succ n =>
  have hq:q<l.length:=oM
  obtain ⟨p,hk⟩:∃p,l[q]? =some p:=⟨_,qo hq⟩
  have hmem:p∈l:=qy.2 ⟨q,hk⟩;have hsl3:=(h.rd.hx hx3).sl;have hix:=ix44 (z:=44) (q:=q) hsl3.is hq;have hld:=hsl3.agg hk;have hp1:=zir (hsl3.holeAt hk);have hbA:∀H2:AH,bsF 2 0 (.agg [(.int .i64 (0)),(.int .i64 (0))]) 161 (zipF [] []) H2=some (.sl H2.next 0 0 0 false,H2.new (.cells (Ce.of []) 161 2 false false)):=fun H2=>bs0_q
  have e0:=hEq_f (oM:H3.next≠H3.next+1)
  have F:=J13 @t1 @t2 @t3 @t4 @g0 @tb_1 @hl @hix @hld @zpa @rc_4 @hbA @e0;refine uT ?_;refine znw (fun H4=>HX H3 H4/\H4.next=H3.next+2/\H4.get H3.next=some (rcb2 p)/\OwnS H4 (.sl (H3.next+1) 0 0 0 false) 0 161 2 [] (H3.next+1)) ?_ ?_
  ·refine ⟨hxt,rfl,?_,OwnS.bs0⟩
   rw [zah _ (oM:H3.next≠H3.next+1),zia]
  rintro H4 ⟨hx4,hn4,gx4,ho4⟩;have hx04:=hx3.trans hx4;haveI:=hx04.hn;have hlo4:H4.lo=H.lo:=hx04.lo;have hpd:=(h.rd.hx hx04).ho p hmem;obtain ⟨a5,H5,b1,b2,b3,b4,b5⟩:=OwnS.app (b:=16) ho4 hpd.z rfl dC dC oM oM
  refine ⟨(a5,H5),b1,?_⟩;have hx35:HX H3 H5:=HX.hp2 hx4 b3 fun i hi=>zga oM
  have hx05:=hx3.trans hx35;haveI:=hx05.hn;have hlo5:H5.lo=H.lo:=hx05.lo;have hn5:H4.next<=H5.next:=b3.next;have gx5:=(b3.get (i:=H3.next) oM (zga oM)).trans gx4
  have g15:=(hx35.get (i:=H.next+1) oM).trans g1
  have g05:=(hx35.get (i:=H.next) oM).trans g0
  have g35:=(hx35.get (i:=H2.next) oM).trans g3
  have hod5:=hod.hx hx35;have ho1:=OwnS.one b2;have hst:=st1_w (L:=lookM) (t:=78) (i:=H3.next) (o:=4) (H:=H5) szA ho1.1 ho1.2 oM
  have hwr:=wr1_l (i:=H3.next) (o:=4) (v:=a5) (H:=H5) (l:=rcL p) (e:=84) (z:=44) (op:=false) (by rw [zra];omega)
  have hs4:(rcL p).set 4 a5=rcL (a5,p.2):=rc_set4 p.1 a5 p.2;have e3:=hEq_f (oM:H2.next≠H3.next)
  have hbs:∀H2:AH,bsF 44 1 (.agg [(.int .i64 (0)),(.str ⟨#[]⟩),(.int .i64 (0)),(.int .i64 (0)),.nilSl,(.int .i64 (0)),(.int .i64 (0)),(.int .u8 (0)),(.int .u8 (0)),(.int .u8 (0)),(.int .u8 (0)),(.int .u8 (0)),(.int .u8 (0)),(.int .u8 (0)),(.int .u8 (0)),(.int .u8 (0)),(.int .u8 (0)),(.int .u8 (0)),(.int .u8 (0)),(.int .u8 (0)),(.int .u8 (0)),(.int .u8 (0)),(.int .u8 (0)),(.int .u8 (0)),(.int .u8 (0)),(.int .u8 (0)),(.int .u8 (0)),(.int .u8 (0)),(.int .u8 (0)),(.int .u8 (0)),(.int .u8 (0)),(.int .u8 (0)),(.int .u8 (0)),(.int .u8 (0)),(.int .u8 (0)),(.int .u8 (0)),(.int .u8 (0)),(.int .u8 (0)),(.int .u8 (0)),(.int .i64 (0)),(.int .i64 (0)),(.int .i64 (0)),(.int .i64 (0)),(.int .i64 (0))]) 84 (zipF [0] [.agg (rcL (a5,p.2))]) H2=some (.sl H2.next 0 1 1 false,H2.new (rcb2 (a5,p.2))):=fun H2=>bs1_q rfl rfl rfl
  have F:=J13 @t1 @t2 @t3 @t4 @gx5 @hst @hwr @hs4 @g35 @e3 @tb_1 @zud @hbs;refine uT ?_;refine znw (fun H6=>HX H3 H6/\H6.next=H5.next+1/\H6.get H5.next=some (rcb2 (a5,p.2))/\(∀b,HoD H5 b->HoD H6 b)) ?_ ?_
  ·have hpp:HP (·≠ H3.next) H5 (H5.put H3.next (rcb2 (a5,p.2))):=HP.put _ _ _
   refine ⟨by have K:=hx35;exact hxk,rfl,zaa _,fun b hb=>(HoD.put hb hpp fun cc op ro e=>by rw [gx5] at e;cases e).hx (HX.new _ _)⟩
  rintro H6 ⟨hx36,hn6,gx6,hho6⟩;have hx06:=hx3.trans hx36;haveI:=hx06.hn;have hlo6:H6.lo=H.lo:=hx06.lo;have hod6:=hod.hx hx36;have g16:=(hx36.get (i:=H.next+1) oM).trans g1
  have g06:=(hx36.get (i:=H.next) oM).trans g0
  have g36:=(hx36.get (i:=H2.next) oM).trans g3
  obtain ⟨v7,H7,c1,c2,c3,c4,c5⟩:=app1 (p:=(a5,p.2)) hod6 ⟨_,gx6,rfl⟩ oM ho1.1 oM oM oM
  refine ⟨(v7,H7),c1,?_⟩;have hvb:∀i,i<H.next->blkNe v' i:=fun i hi=>by
   rcases hod.own.2 with ⟨rfl,_⟩|⟨j,op,rfl,_,hj,_⟩
   ·exact zfa _
   ·exact zga oM
  have hx07:HX H H7:=HX.hp2 hx06 c3 hvb;haveI:=hx07.hn;have hlo7:H7.lo=H.lo:=hx07.lo;have hn7:H6.next<=H7.next:=c3.next;have vb0:blkNe v' H.next:=OwnS.ne hod.own g0 dC
  have vb1:blkNe v' (H.next+1):=OwnS.ne hod.own g1 dC
  have vb3:blkNe v' H2.next:=OwnS.ne hod.own g3 dC
  have g17:=(c3.get (i:=H.next+1) oM vb1).trans g16
  have g07:=(c3.get (i:=H.next) oM vb0).trans g06
  have g37:=(c3.get (i:=H2.next) oM vb3).trans g36
  have ho7:=OwnS.one c2;have hst:=st1_w (L:=lookM) (t:=49) (i:=H2.next) (o:=1) (H:=H7) szR1 ho7.1 ho7.2 oM
  have hwr:=wr1_l (i:=H2.next) (o:=1) (v:=v7) (H:=H7) (l:=tbL t.nx v' lv2) (e:=53) (z:=7) (op:=false) (by show 1<7;omega)
  have F:=J8 @t1 @t2 @t3 @t4 @hst @g37 @hwr @zcj;refine uT ?_;have hpp:HP (·≠ H2.next) H7 (H7.put H2.next (tbx t.nx v7 lv2)):=HP.put _ _ _;have hho7:∀b,HoD H6 b->HoD (H7.put H2.next (tbx t.nx v7 lv2)) b:=fun b hb=>by
   rcases hb with hb|⟨i,op,cc,op',rfl,hi,hg⟩
   ·exact .inl hb
   ·have hne:blkNe v' i:=OwnS.ne hod6.own hg dC
    have hg7:=(c3.get hi hne).trans hg;refine .inr ⟨i,op,cc,op',rfl,by show i<H7.next;omega,(hpp.get oM fun e=> ?_).trans hg7⟩
    subst e;rw [g37] at hg7;cases hg7
  refine ⟨n,oM,q+1,v7,l' ++ [(a5,p.2)],oM,HX.put hx07 oM _,by show H2.next<H7.next;omega,?_,?_,rfl,⟨?_,fun y hy=> ?_⟩,?_,by rw [qr,hlq];rfl,?_,by push_cast;rfl⟩
  ·exact g07
  ·exact g17
  ·refine OwnS.hq c2 hpp fun j o n c op he=> ?_
   intro e;subst e;exact c5 _ oM vb3 _ _ _ _ he
  ·rcases qp2.1 hy with hy|hy
   ·exact hho7 _ (hod6.ho y hy)
   ·rw [qx1] at hy
    subst hy;exact hho7 _ (hho6 _ (OwnS.hod b2))
  ·have hk2:(rcs l)[q]? =some p.2:=by rw [qh1,hk];rfl
   show (l' ++ [(a5,p.2)]).map _=_
   rw [qe3,qc4,hk2];have:l'.map (·.2)=(rcs l).take q:=hrq;rw [this];rfl
  ·have a7:OwL H7 lv2 H.next:=OwnS.hq (OwnS.hx hol hx36) c3 fun j o n c op he=>by
    rcases (OwnS.hx hol hx36).2 with ⟨_,hc⟩|⟨j',op',rfl,⟨cc,hg,_⟩,_⟩
    ·cases hc
    ·cases he
     exact OwnS.ne hod6.own hg dC
   refine OwnS.hq a7 hpp fun j o n c op he=> ?_
   intro e;subst e;exact OwnS.ne a7 g37 dC _ _ _ _ he
end HS
end
