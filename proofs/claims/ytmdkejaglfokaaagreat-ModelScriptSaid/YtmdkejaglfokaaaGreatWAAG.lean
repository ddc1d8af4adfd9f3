import Derived.Test.YtmdkejaglfokaaaGreatWAAF
import Derived.Test.YtmdkejaglfokaaaGreatWAAE
import Derived.Test.YtmdkejaglfokaaaGreatProg
import Derived.RowKit
import Derived.KernelRfl
import GoSem.Extern.BytealgCompare
noncomputable section
set_option maxHeartbeats 8000000
set_option linter.unusedSimpArgs false
set_option linter.unusedVariables false
open Go Go.Proofs Go.RowKit
namespace Go.Ev
theorem gZ_if{w:Bool}{L:Lk}{a b:K2}{s:List Kf}{T:Tr AV}{H:AH}{Q:PostC}{c:Bool}(ht:c=true->gZ (.bool true) w L a b s T H Q) (hf:c=false->gZ (.bool false) w L a b s T H Q):gZ (.bool c) w L a b s T H Q:=by cases c<;>first|exact hf rfl|exact ht rfl
end Go.Ev
namespace HS.Ins
open Go.Ev
open Ra Rb Rc Rd Re Rf Rh Rk
set_option maxRecDepth 100000
def insL (l v:List AV) (k:Nat):List AV:=l.take k ++ v ++ l.drop k
def xInsert:XFn:=fun args H=>match args with
 | [.sl b 0 n c true,.int .i64 (.ofNat p),.sl j q 1 c2 op2]=>(match H.hide with
  | []=>(match Nat.ble H.lo b,Nat.beq j b,H.get b,H.get j,H.subC j q 44 with
   |true,false,some (.cells cb e z true false),some (.cells cj ej zj opj false),some cv =>
    (match (Nat.beq n c && Nat.blt p n && Nat.beq e 84 && Nat.beq z 44 && Nat.beq cb.len (n*44)) && (!Nat.beq zj 1 && Nat.beq cv.len 44 && cv.one && cb.l.all AV.oneCell && Nat.blt q cj.len && Nat.ble n 1000000) with
    |true=>some (.sl H.next 0 (n+1) (n+1) true,(H.drop b).new (.cells (.lst (insL cb.l cv.l (p*44))) 84 44 true false))
    |false=>none)
   |_,_,_,_,_=>none)
  |_::_=>none)
 |_=>none
theorem puR:Tryz.prog.underlying 49=some (.slice 84):=kR
theorem pzR (w:World):(Go.sizeOf 84).run Tryz.prog w= .ok 44 w:=zkb lookI_ok.toLOk0 zR w
theorem overR (B:Nat):XOk Tryz.prog B 187 xOver:=by
 have h:= @zpn Tryz.prog B 187 49 4 84 44 bOv puR pzR;exact h
theorem zxt (B:Nat):ExtOk lookI Tryz.prog B:=by
 exact zin (fun p hp=>by
  rcases qx1.1 hp with rfl
  exact overR B)
theorem BRel.cells_l {E:Env}{i e z:Nat}{op ro:Bool}{c c':Ce}{w:World}(h:BRel E i (.cells c e z op ro) w) (hc:c'.l=c.l):BRel E i (.cells c' e z op ro) w:=by
 obtain ⟨cs,e',fz,h1,h2,h3⟩:=h;refine ⟨cs,e',fz,h1,?_,?_⟩
 ·rw [hc];exact h2
 ·rw [hc];exact h3
theorem zyt {H HB H':AH}{b:Nat}{X:ABlk}(hw:H.Wf) (hw2:H'.Wf) (hb:b<H.next) (h1:∀k,k<H.next->k≠b->H'.tree.get k=H.tree.get k) (hn:H'.next<=H.next+1) (k:Nat) :
  ((H.drop b).new X).tree.get k=if k=H.next then some X else if k=b then some .defd else (if k<H.next then H'.tree.get k else none):=by
 show ((H.tree.set b .defd).set H.next X).get k=_
 rw [Tr.get_set,Tr.get_set];split
 ·rfl
 ·next hk =>
  split
  ·rfl
  ·next hk2 =>
   split
   ·next hk3=>rw [h1 k hk3 hk2]
   ·next hk3 =>
    cases hx:H.tree.get k with
    |none=>rfl
    |some y=>exact absurd (hw.tree k y hx) oM
theorem xInsert_ok (B:Nat):XOk Tryz.prog B 175 xInsert:=by
 intro args H pp hp E w us hw hS hus;unfold xInsert at hp;split at hp
 ·next b n c p j q c2 op2 =>
  split at hp
  ·next hh =>
   split at hp
   ·next cb e z cj ej zj opj cv hlo hji hg hgj hsub =>
    split at hp
    ·next hcond =>
     cases hp
     simp only [qm,qm4] at hcond;obtain ⟨⟨⟨⟨⟨hnc,hpn⟩,he⟩,hz⟩,hlen⟩,⟨⟨⟨⟨⟨hzj,hcl⟩,hone⟩,hone2⟩,hq⟩,hbig⟩⟩:=hcond;have hnc:=qf hnc;have he:=qf he;have hz:=qf hz;have hlen:=qf hlen;have hcl:=qf hcl;rw [Ce.len_l] at hlen hcl;rw [qt4] at hpn hq;rw [Ce.len_l] at hq;have hbig:=qe1 hbig;have hlo:=qe1 hlo;have hzj:zj≠1:=fun h=>by subst h;rw [qt2] at hzj;cases hzj
     have hjb:j≠b:=fun h=>by subst h;rw [qt2] at hji;cases hji
     subst hnc he hz;have hi:=hw.get_lt hg;have hj:=hw.get_lt hgj;have hvis:=(AH.get_some.1 hg).1;obtain ⟨rs,hrl,hrE,hnv,hS1,hP1,hw1⟩:=zpt hw hS hg hlo;have hgB:∀k,(H.put b (.cells (.lst (cb.l ++ rs)) 84 44 false false)).get k=if k=b then some (.cells (.lst (cb.l ++ rs)) 84 44 false false) else H.get k:=fun k=>AH.put_get hvis _ k
     have hnB:(H.put b (.cells (.lst (cb.l ++ rs)) 84 44 false false)).next=H.next:=rfl;have hlB:(H.put b (.cells (.lst (cb.l ++ rs)) 84 44 false false)).lo=H.lo:=rfl;have hhB:(H.put b (.cells (.lst (cb.l ++ rs)) 84 44 false false)).hide= []:=hh;have hzB:(H.put b (.cells (.lst (cb.l ++ rs)) 84 44 false false)).fz=H.fz:=rfl;have hpB:HP (·≠ b) H (H.put b (.cells (.lst (cb.l ++ rs)) 84 44 false false)):=HP.put _ _ _;generalize H.put b (.cells (.lst (cb.l ++ rs)) 84 44 false false)=HB at *
     have hr:Row HB b false false 84 44 (cb.l ++ rs):=⟨_,(hgB b).trans (qi rfl),rfl⟩;have hsB:HB.subC j q 44=some cv:=by
      unfold AH.subC at hsub ⊢
      rw [hgB j,qd hjb];exact hsub
     have hgjB:HB.get j=some (.cells cj ej zj opj false):=(hgB j).trans ((qd hjb).trans hgj);have hcc:(Ce.lst (insL cb.l cv.l (p*44))).l=cb.l.take (p*44) ++ cv.l ++ cb.l.drop (p*44):=rfl;have hil:(insL cb.l cv.l (p*44)).length=(n+1)*44:=by
      unfold insL;rw [qr,qr,qa1,qb2,hlen,hcl];omega
     rcases qh3 (E b).extra with hx0|hx0
     ·-- no room
      have hrs:rs= []:=qk1 (by rw [hrl,hx0,qy4])
      subst hrs;rw [qw1] at hr;have hus':StL E HB.next [.sl b 0 n n false,.int .i64 (p:Nat),.sl j q 1 c2 op2] us:=fun E' hE=>by
       rw [hus E' (by rw [hnB] at hE;exact hE)]
       have hei:E' b=E b:=hE b (by rw [hnB];exact hi)
       show [Value.slice (some ⟨(E' b).blk,(E' b).off+0,none⟩) n (n+(E' b).extra),_,_]= [Value.slice (some ⟨(E' b).blk,(E' b).off+0,none⟩) n (n+0),_,_]
       rw [hei,hx0];rfl
      refine (zbz lookI_ok (zxt B) (insA HB b n p j q c2 op2 cb.l cv hpn hlen oM hr (by rw [hnB];exact hi) hsB hcl hone (by rw [hnB];exact hj) hone2 (by rw [hlB,hnB];exact hw.lo) hhB) E w us hw1 hS1 hus').ok ?_
      rintro v' H' u w1 ⟨rfl,⟨cc,hg',hcc'⟩,hp',hn'⟩ ⟨E1,hv,hS2,hP2,hw2⟩;rw [hnB] at hg' hn' hv;have hh':H'.hide= []:=hp'.hide.trans hhB;have hlo':H'.lo=H.lo:=hp'.lo.trans hlB;obtain ⟨cb',hgb,_⟩:=(hr.hx hp' (by rw [hnB];exact hi))
      obtain ⟨hS3,hP3,hw3⟩:=zez hw2 hS2 hg' rfl (by rw [hlo'];exact hw.lo) (.cells (.lst (insL cb.l cv.l (p*44))) 84 44 true false) (fun E' hE=>BRel.cells_l ((hS2 E' hE).blk _ _ hg') (hcc.trans hcc'.symm))
      have hvn:H'.vis H.next=true:=(AH.get_some.1 hg').1;have hgb3:(H'.put H.next (.cells (.lst (insL cb.l cv.l (p*44))) 84 44 true false)).get b=some (.cells cb' 84 44 false false):=by
       rw [AH.put_get hvn,qd oM];exact hgb
      obtain ⟨hS4,hP4,hw4⟩:=zex hw3 hS3 hgb3 (by show H'.lo<=b;rw [hlo'];exact hlo)
      have hold:∀k,k<H.next->k≠b->H'.tree.get k=H.tree.get k:=fun k hk hkb=>by
       rw [hp'.old k (by rw [hnB];exact hk),hpB.old k hk hkb]
      have htree:∀k,((H.drop b).new (.cells (.lst (insL cb.l cv.l (p*44))) 84 44 true false)).tree.get k=((H'.put H.next (.cells (.lst (insL cb.l cv.l (p*44))) 84 44 true false)).drop b).tree.get k:=fun k=>by
       rw [zyt (HB:=H') hw hw2 hi hold oM k]
       show _=((H'.tree.set H.next _).set b .defd).get k
       rw [Tr.get_set,Tr.get_set];by_cases hk:k=H.next
       ·rw [qi hk,qd oM,qi hk]
       ·rw [qd hk]
        by_cases hk2:k=b
        ·rw [qi hk2,qi hk2]
        ·rw [qd hk2,qd hk2,qd hk]
         split
         ·rfl
         ·next hk3 =>
          cases hx:H'.tree.get k with
          |none=>rfl
          |some y=>exact absurd (hw2.tree k y hx) oM
      have hne:((H.drop b).new (.cells (.lst (insL cb.l cv.l (p*44))) 84 44 true false)).next=((H'.put H.next (.cells (.lst (insL cb.l cv.l (p*44))) 84 44 true false)).drop b).next:=hn'.symm;have hle:((H.drop b).new (.cells (.lst (insL cb.l cv.l (p*44))) 84 44 true false)).lo=((H'.put H.next (.cells (.lst (insL cb.l cv.l (p*44))) 84 44 true false)).drop b).lo:=hlo'.symm;have hhe:((H.drop b).new (.cells (.lst (insL cb.l cv.l (p*44))) 84 44 true false)).hide=((H'.put H.next (.cells (.lst (insL cb.l cv.l (p*44))) 84 44 true false)).drop b).hide:=hh.trans hh'.symm;have hze:((H.drop b).new (.cells (.lst (insL cb.l cv.l (p*44))) 84 44 true false)).fz=((H'.put H.next (.cells (.lst (insL cb.l cv.l (p*44))) 84 44 true false)).drop b).fz:=(hp'.fz.trans hzB).symm
      have hget:∀k,((H.drop b).new (.cells (.lst (insL cb.l cv.l (p*44))) 84 44 true false)).get k=((H'.put H.next (.cells (.lst (insL cb.l cv.l (p*44))) 84 44 true false)).drop b).get k:=fun k=>by
       unfold AH.get AH.vis;rw [hhe,htree]
      have hwd:(H.drop b).Wf:=AH.put_wf hw hi _;refine ⟨E1,fun E' hE=>hv E' fun k hk=>hE k (by rw [hne];exact hk),hS4.ext hne hget,(((hP1.trans hP2).trans hP3).trans hP4).ext2 hne hle hhe hze htree,AH.new_wf hwd _⟩
     ·-- room
      obtain ⟨x,hx⟩:∃x,x=(E b).extra:=⟨_,rfl⟩
      rw [← hx] at hrl hx0;have hus':StL E HB.next [.sl b 0 n (n+x) false,.int .i64 (p:Nat),.sl j q 1 c2 op2] us:=fun E' hE=>by
       rw [hus E' (by rw [hnB] at hE;exact hE)]
       have hei:E' b=E b:=hE b (by rw [hnB];exact hi)
       show [Value.slice (some ⟨(E' b).blk,(E' b).off+0,none⟩) n (n+(E' b).extra),_,_]= [Value.slice (some ⟨(E' b).blk,(E' b).off+0,none⟩) n (n+x+0),_,_]
       rw [hei,hx];rfl
      refine (zbz lookI_ok (zxt B) (insB HB b n p x j q c2 op2 cb.l rs cv cj ej zj opj hpn hx0 hlen hrl hbig hr hsB hcl hone hgjB hzj hq hjb (by rw [hnB];exact hi) (by rw [hnB];exact hj) hone2 (by rw [hlB];exact hlo) hhB) E w us hw1 hS1 hus').ok ?_
      rintro v' H' u w1 ⟨rfl,⟨cc,hg',hcc'⟩,hp',hn'⟩ ⟨E1,hv,hS2,hP2,hw2⟩;rw [hnB] at hn';have hh':H'.hide= []:=hp'.hide.trans hhB;have hlo':H'.lo=H.lo:=hp'.lo.trans hlB;have hei:E1 b=E b:=hP2.ext b (by rw [hnB];exact hi)
      obtain ⟨cs,e0,fz,a1,a2,a3⟩:=hS2.self.blk b _ hg';have hrlen:(rs.drop 44).length=(x - 1)*44:=by rw [qb2,hrl];omega
      have hmv:=zhh1 hw2 hS2 hg' rfl (by rw [hlo'];exact hlo) (.cells (.lst (insL cb.l cv.l (p*44))) 84 44 true false) (.cells cs e0 fz) ⟨(E1 b).blk,(E1 b).off,x - 1⟩ rfl (fun r hr=>by rw [a1] at hr;cases hr) (fun y off hy=>by rw [a1] at hy;cases hy;rfl) (fun E' hE hn=>by
       have hEb:E' b=E1 b:=hE b (by rw [hn'];exact hi)
       rw [zqg a1];obtain ⟨ds,e2,fz2,k1,k2,k3⟩:=(hS2 E' hE).blk b _ hg';rw [hEb,a1] at k1;cases k1;obtain ⟨hf,hsz,_,hmk⟩:=k3 rfl;rw [hEb] at hsz k2;have hsz:cs.size=(E1 b).off+cc.l.length+0:=hsz;have hcl2:cc.l=insL cb.l cv.l (p*44) ++ rs.drop 44:=hcc';refine ⟨cs,e0,fz,by rw [hn];exact a1,fun k v hk=> ?_,fun _=>⟨hf,?_,fun _ k u hk hu=> ?_,hmk⟩⟩
       ·have hk:(insL cb.l cv.l (p*44))[k]? =some v:=hk
        rw [hn];refine k2 k v ?_;rw [hcl2,qt1 (qp.1 hk).1];exact hk
       ·rw [hsz,hcl2,qr,hn,hrlen]
        show _=(E1 b).off+(insL cb.l cv.l (p*44)).length+(x - 1)*44
        omega
       ·rw [hn] at hk
        have hk:(E1 b).off+(insL cb.l cv.l (p*44)).length<=k:=hk;have hlt:=(qq2.1 hu).1;rw [hsz,hcl2,qr] at hlt;obtain ⟨d,hd⟩:∃d,k=(E1 b).off+((insL cb.l cv.l (p*44)).length+d):=⟨k - (E1 b).off - (insL cb.l cv.l (p*44)).length,oM⟩
        have hdl:d<(rs.drop 44).length:=oM
        have hget:cc.l[(insL cb.l cv.l (p*44)).length+d]? =some ((rs.drop 44)[d]):=by
         rw [hcl2,qz1 oM]
         rw [show (insL cb.l cv.l (p*44)).length+d - (insL cb.l cv.l (p*44)).length=d from oM]
         exact qo hdl
        have h4:=k2 _ _ hget;rw [← hd,hu] at h4;have hbd:cs.size<=(E' H'.next).off+9223372036854775807*44:=by
         rw [hn];show cs.size<=(E1 b).off+_
         have hb:=(hnv rs[0] (qk7 (by rw [hrl];omega))).2
         rw [qr,hlen,hrl] at hb;rw [hsz,hcl2,qr,hrlen,hil];omega
        refine ⟨⟨⟨(rs.drop 44)[d],fun E2=> ?_⟩,fun h=>absurd h dC,fun h=>absurd h dC⟩,hbd⟩
        have hfl:∀Ea Eb:Env,concL Ea (rs.drop 44)=concL Eb (rs.drop 44):=fun Ea Eb=>by
         have:=(hrE Ea).trans (hrE Eb).symm;rw [zhd,zhd] at this ⊢
         rw [ql5,ql5,this]
        have h5:=qu4 (fun l=>l[d]?) (hfl E2 E')
        simp only [zna?] at h5;rw [qo hdl] at h5;exact (ql3 h5).trans (ql3 h4).symm)
      rw [zqg a1] at hmv;obtain ⟨hS3,hP3,hw3⟩:=hmv;have hold:∀k,k<H.next->k≠b->H'.tree.get k=H.tree.get k:=fun k hk hkb=>by
       rw [hp'.old k (by rw [hnB];exact hk) hkb,hpB.old k hk hkb]
      have htree:∀k,((H.drop b).new (.cells (.lst (insL cb.l cv.l (p*44))) 84 44 true false)).tree.get k=((H'.drop b).new (.cells (.lst (insL cb.l cv.l (p*44))) 84 44 true false)).tree.get k:=fun k=>by
       rw [zyt (HB:=H') hw hw2 hi hold oM k]
       show _=((H'.tree.set b .defd).set H'.next _).get k
       rw [Tr.get_set,Tr.get_set,hn'];split
       ·rfl
       ·split
        ·rfl
        ·split
         ·rfl
         ·next hk3 =>
          cases hx:H'.tree.get k with
          |none=>rfl
          |some y=>exact absurd (hw2.tree k y hx) oM
      have hne:((H.drop b).new (.cells (.lst (insL cb.l cv.l (p*44))) 84 44 true false)).next=((H'.drop b).new (.cells (.lst (insL cb.l cv.l (p*44))) 84 44 true false)).next:=by
       show H.next+1=H'.next+1
       rw [hn']
      have hle:((H.drop b).new (.cells (.lst (insL cb.l cv.l (p*44))) 84 44 true false)).lo=((H'.drop b).new (.cells (.lst (insL cb.l cv.l (p*44))) 84 44 true false)).lo:=hlo'.symm;have hhe:((H.drop b).new (.cells (.lst (insL cb.l cv.l (p*44))) 84 44 true false)).hide=((H'.drop b).new (.cells (.lst (insL cb.l cv.l (p*44))) 84 44 true false)).hide:=hh.trans hh'.symm;have hze:((H.drop b).new (.cells (.lst (insL cb.l cv.l (p*44))) 84 44 true false)).fz=((H'.drop b).new (.cells (.lst (insL cb.l cv.l (p*44))) 84 44 true false)).fz:=(hp'.fz.trans hzB).symm;have hget:∀k,((H.drop b).new (.cells (.lst (insL cb.l cv.l (p*44))) 84 44 true false)).get k=((H'.drop b).new (.cells (.lst (insL cb.l cv.l (p*44))) 84 44 true false)).get k:=fun k=>by
       unfold AH.get AH.vis;rw [hhe,htree]
      have hwd:(H.drop b).Wf:=AH.put_wf hw hi _;refine ⟨_,fun E' hE=> ?_,hS3.ext hne hget,((hP1.trans hP2).trans hP3).ext2 hne hle hhe hze htree,AH.new_wf hwd _⟩
      have hE2:Agree (H'.next+1) (E1.add H'.next ⟨(E1 b).blk,(E1 b).off,x - 1⟩) E':=fun k hk=>hE k (by rw [hne];exact hk)
      have hEn:E' H.next=⟨(E1 b).blk,(E1 b).off,x - 1⟩:=by
       rw [← hn'];exact (hE2 H'.next (qd1 _)).trans (Env.add_self _ _ _)
      rw [hv E1 (Agree.refl _ _)];show Value.slice (some ⟨(E1 b).blk,(E1 b).off+0,none⟩) (n+1) (n+x+0)=Value.slice (some ⟨(E' H.next).blk,(E' H.next).off+0,none⟩) (n+1) (n+1+(E' H.next).extra)
      rw [hEn];show Value.slice (some ⟨(E1 b).blk,(E1 b).off+0,none⟩) (n+1) (n+x+0)=Value.slice (some ⟨(E1 b).blk,(E1 b).off+0,none⟩) (n+1) (n+1+(x - 1))
      rw [show n+x+0=n+1+(x - 1) from oM]
    ·cases hp
   ·cases hp
  ·cases hp
 ·cases hp
end HS.Ins
open Go Go.Ev Go.Proofs Go.RowKit
namespace HS
set_option maxRecDepth 100000
theorem bIx:Bare Tryz.prog 105 Extern.BytealgIndexByte.indexByte:=⟨Tryz.f105,Tryz.func105,kR,kR,kR,kR⟩
theorem bCm:Bare Tryz.prog 197 Extern.BytealgCompare.compare:=⟨Tryz.f197,Tryz.func197,kR,kR,kR,kR⟩
theorem bMc:Bare Tryz.prog 69 Extern.MapsClone.clone:=⟨Tryz.f69,Tryz.func69,kR,kR,kR,kR⟩
def tabJ:List (Nat×XFn):= [(105,zrh),(197,zjn),(69,zun),(175,HS.Ins.xInsert),(14,HS.Ob.xOver 5 HS.Ob.isB true),(45,HS.Ob.xOver 9 HS.Ob.isT false)]
def zlM:List (Nat×Nat):= [(89,256),(90,16384),(91,16384),(100,16384)]
theorem zcj1 (B:Nat):∀p∈tabJ,XOk Tryz.prog B p.1 p.2:=by
 intro p hp;simp only [tabJ,qg1,qf5,qj7] at hp;rcases hp with rfl|rfl|rfl|rfl|rfl|rfl
 ·have h:= @zjp Tryz.prog B _ bIx;exact h
 ·have h:= @zew Tryz.prog B _ bCm;exact h
 ·have h:= @zhr Tryz.prog B _ bMc;exact h
 ·have h:=HS.Ins.xInsert_ok B;exact h
 ·have h:=HS.Ob.xOverB_ok B;exact h
 ·have h:=HS.Ob.xOverT_ok B;exact h
def lookJ:Lk:=lkZ Tryz.prog (Tr.ofList Tryz.prog.funcs.toList) (Tr.ofList Tryz.prog.types.toList) tabJ zlM
theorem zbn1:LOk lookJ Tryz.prog:=zae1 kR kR kR
theorem zxe1 (B:Nat):ExtOk lookJ Tryz.prog B:=zin (zcj1 B)
theorem saysA:zcn (evF lookJ 1000000 (.call 8 [] H0))=true:=kR
def tabM:List (Nat×XFn):=(8,xTrue)::tabJ
theorem tabM_ok (B:Nat):∀p∈tabM,XOk Tryz.prog B p.1 p.2:=by
 intro p hp;rcases qg1.1 hp with rfl|hp
 ·exact zkm1 zbn1 zxe1 (by rw [← zhm1];exact saysA)
 ·exact zcj1 B p hp
def lookM:Lk:=lkZ Tryz.prog (Tr.ofList Tryz.prog.funcs.toList) (Tr.ofList Tryz.prog.types.toList) tabM zlM
theorem zcn1:LOk lookM Tryz.prog:=zae1 kR kR kR
theorem zye1 (B:Nat):ExtOk lookM Tryz.prog B:=zin (tabM_ok B)
theorem tys:ixL lookM 22=some (none,7) /\
 ldL lookM 32=some (true,7) /\
 zqL lookM 32=some (AV.toC (.agg [(.int .i64 (0)),(.str ⟨#[]⟩),(.str ⟨#[]⟩),(.int .i64 (0)),(.int .i64 (0)),.nilSl,.nilSl]),7) /\
 lookM.size 32=some 7 /\
 zqL lookM 37=some (AV.toC (.agg [(.int .i64 (0)),.nilSl,.nilSl]),3) /\
 lookM.size 37=some 3 /\
 ldL lookM 37=some (true,3) /\
 foL lookM 37 2=some 2 /\
 ldL lookM 30=some (false,1) /\
 foL lookM 32 6=some 6 /\
 ixL lookM 29=some (none,1) /\
 ldL lookM 9=some (false,1) /\
 ldL lookM 56=some (true,9) /\
 zqL lookM 56=some (AV.toC (.agg [(.int .i64 (0)),.nilSl,(.int .i64 (0)),(.int .i64 (0)),(.int .i64 (0)),(.int .i64 (0)),.nilSl,.nilSl,.nilSl]),9) /\
 lookM.size 56=some 9 /\
 bsL lookM 54=some (91,16384,.bag 16384 0) /\
 foL lookM 56 2=some 8 /\
 ldL lookM 54=some (false,1) /\
 apL lookM [54,54]=some (91,16384,16384) /\
 lookM.size 54=some 1 /\
 bsL lookM 35=some (3,1,(.int .i64 (0))) /\
 foL lookM 56 1=some 7 /\
 ldL lookM 35=some (false,1) /\
 apL lookM [35,35]=some (3,1,8) /\
 lookM.size 35=some 1 /\
 ixL lookM 47=some (none,1) /\
 ldL lookM 4=some (false,1) /\
 zqL lookM 53=some (AV.toC (.agg [(.int .i64 (0)),.nilSl,(.int .i64 (0)),(.int .i64 (0)),(.int .i64 (0)),(.int .i64 (0)),.nilSl]),7) /\
 lookM.size 53=some 7 /\
 ldL lookM 53=some (true,7) /\
 lookM.size 63=some 8 /\
 bsL lookM 29=some (9,1,(.str ⟨#[]⟩)) /\
 foL lookM 32 5=some 5 /\
 ldL lookM 29=some (false,1) /\
 apL lookM [29,29]=some (9,1,16) /\
 lookM.size 29=some 1 /\
 bsL lookM 30=some (5,1,(.int .u8 (0))) /\
 apL lookM [30,30]=some (5,1,1) /\
 lookM.size 30=some 1 /\
 zqL lookM 74=some (AV.toC (.agg [(.int .i64 (0)),(.str ⟨#[]⟩),(.str ⟨#[]⟩),(.int .i64 (0)),(.int .i64 (0)),.nilSl,.nilSl]),7) /\
 lookM.size 74=some 7 /\
 ldL lookM 74=some (true,7) /\
 foL lookM 32 0=some 0 /\
 ldL lookM 3=some (false,1) /\
 foL lookM 32 1=some 1 /\
 zqL lookM 84=some (AV.toC (.agg [(.int .i64 (0)),(.str ⟨#[]⟩),(.int .i64 (0)),(.int .i64 (0)),.nilSl,(.int .i64 (0)),(.int .i64 (0)),(.int .u8 (0)),(.int .u8 (0)),(.int .u8 (0)),(.int .u8 (0)),(.int .u8 (0)),(.int .u8 (0)),(.int .u8 (0)),(.int .u8 (0)),(.int .u8 (0)),(.int .u8 (0)),(.int .u8 (0)),(.int .u8 (0)),(.int .u8 (0)),(.int .u8 (0)),(.int .u8 (0)),(.int .u8 (0)),(.int .u8 (0)),(.int .u8 (0)),(.int .u8 (0)),(.int .u8 (0)),(.int .u8 (0)),(.int .u8 (0)),(.int .u8 (0)),(.int .u8 (0)),(.int .u8 (0)),(.int .u8 (0)),(.int .u8 (0)),(.int .u8 (0)),(.int .u8 (0)),(.int .u8 (0)),(.int .u8 (0)),(.int .u8 (0)),(.int .i64 (0)),(.int .i64 (0)),(.int .i64 (0)),(.int .i64 (0)),(.int .i64 (0))]),44) /\
 lookM.size 84=some 44 /\
 ldL lookM 84=some (true,44) /\
 foL lookM 84 0=some 0 /\
 foL lookM 37 0=some 0 /\
 ldL lookM 34=some (false,1) /\
 foL lookM 37 1=some 1 /\
 foL lookM 32 2=some 2 /\
 foL lookM 32 3=some 3 /\
 foL lookM 32 4=some 4 /\
 foL lookM 56 0=some 0 /\
 foL lookM 53 1=some 1 /\
 ldL lookM 49=some (false,1) /\
 ixL lookM 49=some (none,44) /\
 foL lookM 84 1=some 1 /\
 foL lookM 84 3=some 3 /\
 foL lookM 63 0=some 0 /\
 foL lookM 63 1=some 7 /\
 ldL lookM 61=some (false,1) /\
 foL lookM 84 2=some 2 /\
 foL lookM 84 8=some 42 /\
 foL lookM 84 9=some 43 /\
 zqL lookM 103=some (AV.toC (.agg [(.bool false),(.bool false),(.bool false),(.bool false),(.bool false),(.bool false)]),6) /\
 lookM.size 103=some 6 /\
 foL lookM 103 0=some 0 /\
 foL lookM 103 1=some 1 /\
 foL lookM 103 2=some 2 /\
 foL lookM 103 3=some 3 /\
 foL lookM 103 4=some 4 /\
 foL lookM 103 5=some 5 /\
 foL lookM 74 0=some 0 /\
 foL lookM 53 0=some 0 /\
 zqL lookM 91=some (zC lookM 91,16384) /\
 lookM.size 91=some 16384 /\
 ixL lookM 91=some (some 64,256) /\
 ldL lookM 89=some (true,256) /\
 ixL lookM 54=some (none,16384) /\
 ldL lookM 91=some (true,16384) /\
 ixL lookM 35=some (none,1) /\
 ikL lookM 9=none /\
 zqL lookM 100=some (zC lookM 100,16384) /\
 lookM.size 100=some 16384 /\
 ixL lookM 100=some (some 64,256) /\
 zqL lookM 123=some (zC lookM 123,150) /\
 lookM.size 123=some 150 /\
 ixL lookM 123=some (some 25,6) /\
 ldL lookM 103=some (true,6) /\
 lookM.size 110=some 51 /\
 foL lookM 110 0=some 0 /\
 foL lookM 110 1=some 7 /\
 lookM.size 112=some 44 /\
 foL lookM 112 0=some 0 /\
 lookM.size 113=some 51 /\
 foL lookM 113 1=some 7 /\
 foL lookM 113 0=some 0 /\
 ldL lookM 100=some (true,16384) /\
 zqL lookM 3=some (AV.toC (.int .i64 (0)),1) /\
 lookM.size 3=some 1 /\
 lookM.size 89=some 256 /\
 lookM.size 9=some 1 /\
 zqL lookM 89=some (zC lookM 89,256) /\
 foL lookM 84 4=some 4 /\
 foL lookM 82 1=some 1 /\
 ldL lookM 82=some (true,35) /\
 lookM.size 82=some 35 /\
 apL lookM [49,49]=some (84,44,152) /\
 lookM.size 49=some 1 /\
 foL lookM 84 6=some 40 /\
 foL lookM 53 3=some 6 /\
 foL lookM 53 2=some 2 /\
 ldL lookM 51=some (true,4) /\
 bsL lookM 78=some (161,2,(.agg [(.int .i64 (0)),(.int .i64 (0))])) /\
 foL lookM 82 0=some 0 /\
 ldL lookM 78=some (false,1) /\
 apL lookM [78,78]=some (161,2,16) /\
 lookM.size 78=some 1 /\
 bsL lookM 49=some (84,44,(.agg [(.int .i64 (0)),(.str ⟨#[]⟩),(.int .i64 (0)),(.int .i64 (0)),.nilSl,(.int .i64 (0)),(.int .i64 (0)),(.int .u8 (0)),(.int .u8 (0)),(.int .u8 (0)),(.int .u8 (0)),(.int .u8 (0)),(.int .u8 (0)),(.int .u8 (0)),(.int .u8 (0)),(.int .u8 (0)),(.int .u8 (0)),(.int .u8 (0)),(.int .u8 (0)),(.int .u8 (0)),(.int .u8 (0)),(.int .u8 (0)),(.int .u8 (0)),(.int .u8 (0)),(.int .u8 (0)),(.int .u8 (0)),(.int .u8 (0)),(.int .u8 (0)),(.int .u8 (0)),(.int .u8 (0)),(.int .u8 (0)),(.int .u8 (0)),(.int .u8 (0)),(.int .u8 (0)),(.int .u8 (0)),(.int .u8 (0)),(.int .u8 (0)),(.int .u8 (0)),(.int .u8 (0)),(.int .i64 (0)),(.int .i64 (0)),(.int .i64 (0)),(.int .i64 (0)),(.int .i64 (0))])) /\
 foL lookM 84 5=some 39 /\
 foL lookM 84 7=some 41 /\
 lookM.size 51=some 4 /\
 foL lookM 51 0=some 0 /\
 foL lookM 51 2=some 2 /\
 foL lookM 51 3=some 3 /\
 foL lookM 51 1=some 1 /\
 foL lookM 82 2=some 2 /\
 foL lookM 82 3=some 3 /\
 ldL lookM 80=some (true,32) /\
 lookM.size 107=some 7 /\
 foL lookM 107 0=some 0 /\
 zqL lookM 82=some (AV.toC (.agg [.nilSl,(.int .i64 (0)),(.int .i64 (0)),(.int .u8 (0)),(.int .u8 (0)),(.int .u8 (0)),(.int .u8 (0)),(.int .u8 (0)),(.int .u8 (0)),(.int .u8 (0)),(.int .u8 (0)),(.int .u8 (0)),(.int .u8 (0)),(.int .u8 (0)),(.int .u8 (0)),(.int .u8 (0)),(.int .u8 (0)),(.int .u8 (0)),(.int .u8 (0)),(.int .u8 (0)),(.int .u8 (0)),(.int .u8 (0)),(.int .u8 (0)),(.int .u8 (0)),(.int .u8 (0)),(.int .u8 (0)),(.int .u8 (0)),(.int .u8 (0)),(.int .u8 (0)),(.int .u8 (0)),(.int .u8 (0)),(.int .u8 (0)),(.int .u8 (0)),(.int .u8 (0)),(.int .u8 (0))]),35) /\
 lookM.size 4=some 1 /\
 lookM.size 190=some 1 /\
 ikL lookM 153=some .u64 /\
 ikL lookM 3=some .i64 /\
 apL lookM [49,3]=none /\
 ldL lookM 190=some (false,1) /\
 zqL lookM 51=some (AV.toC (.agg [(.int .i64 (0)),(.int .i64 (0)),(.int .i64 (0)),(.int .i64 (0))]),4) /\
 lookM.size 108=some 7 /\
 foL lookM 108 0=some 0:=by repeat' (first|kernel_rfl|apply qa)
theorem fI {f:Nat}{args:List AV}{H:AH}{R:AV->AH->Prop}{b:Code}{c:C2}{rs:List ResultVar}(g:Func) (h:RC lookM c [] (zwb args 0 .nil) H (FnQ lookM rs R))
  (e0:lookM.func f=some g:=by kernel_rfl) (e1:g.body=some b:=by rfl) (e2:g.results=rs.toArray:=by rfl) (e3:Nat.ble (len args) g.ntmps=true:=by rfl) (e6:lookM.ext f=none:=by rfl)
  (e4:comp lookM b=cT lookM b:=by kernel_rfl) (e5:cT lookM b=c:=by (simp only [↓pq1,pq2,tys,qp1,qz5,qn2,qm1,qj3,qx6,qy6,qf4,ql2,qt5,Nat.reduceAdd]<;>rfl)):FnE lookM f args H R:=by
 refine zuc (nt:=g.ntmps) (c:=c) (rs:=rs) ?_ e6 e3 h;unfold fnF;rw [e0];simp only [e1,e4,e5,e2]
theorem rc_l {s:List Kf}{T:Tr AV}{H:AH}{Q:PostC}{i:Inhabited Code}{c:C2}(I:Nat->Tr AV->AH->Prop) (n:Nat) (h0:I n T H) (h:∀n T H,I n T H->RC lookM c [] T H (LpR lookM s Q I n))
  (e4:comp lookM i.default=cT lookM i.default:=by kernel_rfl) (e5:cT lookM i.default=c:=by (simp only [↓pq1,pq2,tys,qp1,qz5,qn2,qm1,qj3,qx6,qy6,qf4,ql2,qt5,Nat.reduceAdd]<;>rfl)):RC lookM lpI s T H Q:=rc_lq I n h0 h e4 e5
theorem fJ {f:Nat}{args:List AV}{H:AH}{R:AV->AH->Prop}{b:Code}{c:C2}{rs:List ResultVar}(g:Func) (ov:Ov) (h:RC lookM c [] (zwb args 0 .nil) H (FnQ lookM rs R))
  (e0:lookM.func f=some g:=by kernel_rfl) (e1:g.body=some b:=by rfl) (e2:g.results=rs.toArray:=by rfl) (e3:Nat.ble (len args) g.ntmps=true:=by rfl) (e6:lookM.ext f=none:=by rfl)
  (e4:comp lookM b=cTo lookM ov b:=by kernel_rfl) (e5:cTo lookM ov b=c:=by (simp only [↓po1,po2,reduceIte,Nat.reduceEqDiff,↓pq1,pq2,tys,qp1,qz5,qn2,qm1,qj3,qx6,qy6,qf4,ql2,qt5,Nat.reduceAdd]<;>rfl)):FnE lookM f args H R:=by
 refine zuc (nt:=g.ntmps) (c:=c) (rs:=rs) ?_ e6 e3 h;unfold fnF;rw [e0];simp only [e1,e4,e5,e2]
theorem rc_j {s:List Kf}{T:Tr AV}{H:AH}{Q:PostC}{i:Inhabited Code}{c:C2}(ov:Ov) (I:Nat->Tr AV->AH->Prop) (n:Nat) (h0:I n T H) (h:∀n T H,I n T H->RC lookM c [] T H (LpR lookM s Q I n))
  (e4:comp lookM i.default=cTo lookM ov i.default:=by kernel_rfl) (e5:cTo lookM ov i.default=c:=by (simp only [↓po1,po2,reduceIte,Nat.reduceEqDiff,↓pq1,pq2,tys,qp1,qz5,qn2,qm1,qj3,qx6,qy6,qf4,ql2,qt5,Nat.reduceAdd]<;>rfl)):RC lookM lpI s T H Q:=rc_lq I n h0 h e4 e5
abbrev o32:Ov:= [(13, [(0,0, []),(1,0, []),(2,0, []),(3,0, []),(4,0, []),(5,0, []),(6,1, [64]),(7,0, [])]),(15, [(0,0, []),(1,0, []),(2,0, []),(3,0, []),(4,0, []),(5,0, []),(6,1, [74]),(7,0, [])]),(17, [(0,0, []),(1,0, []),(2,0, []),(3,0, []),(4,0, []),(5,0, []),(6,1, [84]),(7,0, [])]),(19, [(0,0, []),(1,0, []),(2,0, []),(3,0, []),(4,0, []),(5,0, []),(7,0, []),(8,0, []),(6,1, [100,94]),(9,1, [94]),(10,0, [])])]
abbrev o33:Ov:= [(7, [(0,0, []),(1,0, []),(2,0, []),(3,0, []),(4,0, []),(5,0, []),(6,1, [36]),(7,1, [36]),(8,0, []),(9,0, []),(10,0, []),(11,0, [])])]
abbrev o40:Ov:= [(8, [(0,0, []),(1,0, []),(2,0, []),(3,0, []),(4,0, []),(5,0, []),(6,0, []),(7,0, []),(8,1, [36]),(9,0, [])]),(17, [(0,0, []),(2,0, []),(1,0, []),(3,0, []),(4,0, []),(5,0, []),(6,0, []),(7,0, []),(8,0, []),(9,0, []),(10,0, []),(12,0, []),(13,0, []),(11,1, [95]),(14,0, []),(15,0, [])])]
abbrev o47:Ov:= [(2, [(0,0, []),(1,0, []),(2,0, []),(3,0, []),(4,0, []),(5,0, []),(6,0, []),(7,1, []),(8,0, [])])]
abbrev o82:Ov:= [(1, [(0,0, []),(1,0, []),(2,0, []),(3,1, [3]),(4,0, []),(5,0, []),(6,0, []),(7,0, []),(8,0, []),(9,0, [])])]
abbrev o83:Ov:= [(1, [(0,0, []),(1,0, []),(2,0, []),(3,1, [4]),(4,0, []),(5,0, []),(6,1, [4]),(7,0, []),(8,0, []),(9,0, []),(10,0, []),(11,0, []),(12,0, []),(13,0, [])])]
abbrev o97:Ov:= [(8, [(0,0, []),(1,0, []),(2,0, []),(3,0, []),(4,0, []),(5,0, []),(6,0, []),(7,0, []),(9,0, []),(10,0, []),(11,0, []),(8,0, []),(12,0, []),(13,0, []),(14,0, [])])]
abbrev o132:Ov:= [(20, [(0,0, []),(1,0, []),(2,0, []),(3,0, []),(4,0, []),(5,0, []),(6,0, []),(7,0, []),(8,0, []),(9,0, []),(10,0, []),(11,0, []),(12,0, []),(13,0, []),(14,0, []),(15,0, []),(16,1, [121,119]),(17,0, [])])]
abbrev o140:Ov:= [(1, [(0,0, []),(1,0, []),(2,0, []),(4,0, []),(3,1, [3]),(5,0, []),(6,0, []),(7,0, []),(8,0, []),(9,0, [])])]
abbrev o141:Ov:= [(1, [(0,0, []),(1,0, []),(2,0, []),(8,0, []),(3,1, [4]),(4,0, []),(5,0, []),(6,1, [4]),(7,0, []),(9,0, []),(10,0, []),(11,0, []),(12,0, []),(13,0, [])])]
abbrev o148:Ov:= [(13, [(0,0, []),(1,0, []),(2,0, []),(3,0, []),(4,0, []),(5,0, []),(7,0, []),(8,0, []),(9,0, []),(6,1, [61,2,55,1]),(10,0, []),(11,0, []),(12,0, [])])]
abbrev o150:Ov:= [(10, [(0,0, []),(1,0, []),(2,0, []),(3,0, []),(4,0, []),(5,0, []),(7,0, []),(8,0, []),(9,0, []),(6,1, [54,3,48,2]),(10,0, []),(11,0, []),(12,0, [])])]
abbrev o151:Ov:= [(11, [(0,0, []),(1,0, []),(2,0, []),(3,0, []),(4,0, []),(5,0, []),(6,0, []),(7,0, []),(8,0, []),(9,0, []),(10,0, []),(11,0, []),(12,0, []),(13,0, []),(14,1, [61,58,53]),(15,0, []),(16,0, []),(17,0, []),(18,0, []),(19,0, []),(20,0, [])])]
abbrev o162:Ov:= [(2, [(0,0, []),(1,0, []),(2,0, []),(3,0, []),(4,0, []),(5,0, []),(6,0, []),(7,1, []),(8,0, []),(9,0, []),(10,0, []),(11,0, [])])]
abbrev o201:Ov:= [(6, [(0,0, []),(1,0, []),(2,0, []),(3,0, []),(4,0, []),(5,0, []),(6,0, []),(7,0, []),(8,0, []),(9,0, []),(10,1, [30]),(11,0, []),(12,0, []),(13,0, []),(14,0, [])])]
theorem J2 {a b:Prop}(x:a) (y:b):a/\b:=⟨x,y⟩
theorem J3 {a b c:Prop}(x0:a) (x1:b) (x2:c):a/\b/\c:=⟨x0,J2 x1 x2⟩
theorem J4 {a b c d:Prop}(x0:a) (x1:b) (x2:c) (x3:d):a/\b/\c/\d:=⟨x0,J3 x1 x2 x3⟩
theorem J5 {a b c d e:Prop}(x0:a) (x1:b) (x2:c) (x3:d) (x4:e):a/\b/\c/\d/\e:=⟨x0,J4 x1 x2 x3 x4⟩
theorem J6 {a b c d e f:Prop}(x0:a) (x1:b) (x2:c) (x3:d) (x4:e) (x5:f):a/\b/\c/\d/\e/\f:=⟨x0,J5 x1 x2 x3 x4 x5⟩
theorem J7 {a b c d e f g:Prop}(x0:a) (x1:b) (x2:c) (x3:d) (x4:e) (x5:f) (x6:g):a/\b/\c/\d/\e/\f/\g:=⟨x0,J6 x1 x2 x3 x4 x5 x6⟩
theorem J8 {a b c d e f g h:Prop}(x0:a) (x1:b) (x2:c) (x3:d) (x4:e) (x5:f) (x6:g) (x7:h):a/\b/\c/\d/\e/\f/\g/\h:=⟨x0,J7 x1 x2 x3 x4 x5 x6 x7⟩
theorem J9 {a b c d e f g h i:Prop}(x0:a) (x1:b) (x2:c) (x3:d) (x4:e) (x5:f) (x6:g) (x7:h) (x8:i):a/\b/\c/\d/\e/\f/\g/\h/\i:=⟨x0,J8 x1 x2 x3 x4 x5 x6 x7 x8⟩
theorem J10 {a b c d e f g h i j:Prop}(x0:a) (x1:b) (x2:c) (x3:d) (x4:e) (x5:f) (x6:g) (x7:h) (x8:i) (x9:j):a/\b/\c/\d/\e/\f/\g/\h/\i/\j:=⟨x0,J9 x1 x2 x3 x4 x5 x6 x7 x8 x9⟩
theorem J11 {a b c d e f g h i j k:Prop}(x0:a) (x1:b) (x2:c) (x3:d) (x4:e) (x5:f) (x6:g) (x7:h) (x8:i) (x9:j) (x10:k):a/\b/\c/\d/\e/\f/\g/\h/\i/\j/\k:=⟨x0,J10 x1 x2 x3 x4 x5 x6 x7 x8 x9 x10⟩
theorem J12 {a b c d e f g h i j k l:Prop}(x0:a) (x1:b) (x2:c) (x3:d) (x4:e) (x5:f) (x6:g) (x7:h) (x8:i) (x9:j) (x10:k) (x11:l):a/\b/\c/\d/\e/\f/\g/\h/\i/\j/\k/\l:=⟨x0,J11 x1 x2 x3 x4 x5 x6 x7 x8 x9 x10 x11⟩
theorem J13 {a b c d e f g h i j k l m:Prop}(x0:a) (x1:b) (x2:c) (x3:d) (x4:e) (x5:f) (x6:g) (x7:h) (x8:i) (x9:j) (x10:k) (x11:l) (x12:m):a/\b/\c/\d/\e/\f/\g/\h/\i/\j/\k/\l/\m:=⟨x0,J12 x1 x2 x3 x4 x5 x6 x7 x8 x9 x10 x11 x12⟩
theorem J14 {a b c d e f g h i j k l m n:Prop}(x0:a) (x1:b) (x2:c) (x3:d) (x4:e) (x5:f) (x6:g) (x7:h) (x8:i) (x9:j) (x10:k) (x11:l) (x12:m) (x13:n):a/\b/\c/\d/\e/\f/\g/\h/\i/\j/\k/\l/\m/\n:=⟨x0,J13 x1 x2 x3 x4 x5 x6 x7 x8 x9 x10 x11 x12 x13⟩
theorem J15 {a b c d e f g h i j k l m n o:Prop}(x0:a) (x1:b) (x2:c) (x3:d) (x4:e) (x5:f) (x6:g) (x7:h) (x8:i) (x9:j) (x10:k) (x11:l) (x12:m) (x13:n) (x14:o):a/\b/\c/\d/\e/\f/\g/\h/\i/\j/\k/\l/\m/\n/\o:=⟨x0,J14 x1 x2 x3 x4 x5 x6 x7 x8 x9 x10 x11 x12 x13 x14⟩
theorem J16 {a b c d e f g h i j k l m n o p:Prop}(x0:a) (x1:b) (x2:c) (x3:d) (x4:e) (x5:f) (x6:g) (x7:h) (x8:i) (x9:j) (x10:k) (x11:l) (x12:m) (x13:n) (x14:o) (x15:p):a/\b/\c/\d/\e/\f/\g/\h/\i/\j/\k/\l/\m/\n/\o/\p:=⟨x0,J15 x1 x2 x3 x4 x5 x6 x7 x8 x9 x10 x11 x12 x13 x14 x15⟩
theorem uT {p q:Prop}(h:q) (e:p=q:=by simp (maxSteps:=1000000) (disch:=first|assumption|omega|rfl|(simp only [nx];omega)|(simp only [lens]<;>omega)) only [rq,rq2,zoi,lsE_s,qa2,qr1,Nat.reduceEqDiff,Nat.reduceAdd,reduceIte,reduceCtorEq,ne_eq,qf1,qc1,qs2,qm2,F]<;>rfl):p:=e.mpr h
theorem vT {p:Prop}(e:p:=by simp (maxSteps:=1000000) (disch:=first|assumption|omega|rfl|(simp only [nx];omega)|(simp only [lens]<;>omega)) only [rq,rq2,zoi,lsE_s,qa2,qr1,Nat.reduceEqDiff,Nat.reduceAdd,reduceIte,reduceCtorEq,ne_eq,qf1,qc1,qs2,qm2,F]):p:=e
theorem wT {p:Prop}(e:p:=by simp (maxSteps:=1000000) (disch:=first|assumption|omega|rfl|(simp only [nx];omega)|(simp only [lens]<;>omega)) only [rq,rq2,zoi,lsE_s,qa2,qr1,Nat.reduceEqDiff,Nat.reduceAdd,reduceIte,reduceCtorEq,ne_eq,qf1,qc1,qs2,qm2,F]<;>rfl):p:=e
theorem uT0 {p q:Prop}(h:q) (e:p=q:=by simp (maxSteps:=1000000) (disch:=first|assumption|omega|rfl|(simp only [nx];omega)|(simp only [lens]<;>omega)) only [rq,rq2,zoi,lsE_s,qa2,qr1,Nat.reduceEqDiff,Nat.reduceAdd,reduceIte,reduceCtorEq,ne_eq,qf1,qc1,qs2,qm2]<;>rfl):p:=e.mpr h
theorem vT0 {p:Prop}(e:p:=by simp (maxSteps:=1000000) (disch:=first|assumption|omega|rfl|(simp only [nx];omega)|(simp only [lens]<;>omega)) only [rq,rq2,zoi,lsE_s,qa2,qr1,Nat.reduceEqDiff,Nat.reduceAdd,reduceIte,reduceCtorEq,ne_eq,qf1,qc1,qs2,qm2]):p:=e
theorem wT0 {p:Prop}(e:p:=by simp (maxSteps:=1000000) (disch:=first|assumption|omega|rfl|(simp only [nx];omega)|(simp only [lens]<;>omega)) only [rq,rq2,zoi,lsE_s,qa2,qr1,Nat.reduceEqDiff,Nat.reduceAdd,reduceIte,reduceCtorEq,ne_eq,qf1,qc1,qs2,qm2]<;>rfl):p:=e
theorem uX {p q:Prop}(h:q) (e:p=q:=by simp (maxSteps:=1000000) (disch:=first|assumption|omega|rfl|(simp only [nx];omega)|(simp only [lens]<;>omega)) only [rq,rq2,zoi,lsE_s,qa2,qr1,Nat.reduceEqDiff,Nat.reduceAdd,reduceIte,reduceCtorEq,ne_eq,qf1,qc1,qs2,qm2,ql1,qm1,qw1,qn2,qi3,qr3,qr2,zpg,cF_in,F]<;>rfl):p:=e.mpr h
theorem uX0 {p q:Prop}(h:q) (e:p=q:=by simp (maxSteps:=1000000) (disch:=first|assumption|omega|rfl|(simp only [nx];omega)|(simp only [lens]<;>omega)) only [rq,rq2,zoi,lsE_s,qa2,qr1,Nat.reduceEqDiff,Nat.reduceAdd,reduceIte,reduceCtorEq,ne_eq,qf1,qc1,qs2,qm2,ql1,qm1,qw1,qn2,qi3,qr3,qr2,zpg,cF_in]<;>rfl):p:=e.mpr h
theorem uI {p q:Prop}(h:q) (e:p=q:=by simp (maxSteps:=1000000) (disch:=first|assumption|omega|rfl|(simp only [nx];omega)|(simp only [lens]<;>omega)) only [rq,rq2,zoi,lsE_s,qa2,qr1,Nat.reduceEqDiff,Nat.reduceAdd,reduceIte,reduceCtorEq,ne_eq,qf1,qc1,qs2,qm2,qi,qd,ql1,F]<;>rfl):p:=e.mpr h
theorem hxt {H H':AH}(h:HX H H':=by (repeat' (first|exact HX.refl _|refine HX.trans ?_ (HX.new _ _)|(refine HX.put ?_ (by first|omega|(simp only [nx];omega)) _)))):HX H H':=h
theorem hxk {H H':AH}(h:HX H H':=by (repeat' (first|exact HX.refl _|refine HX.trans ?_ (HX.new _ _)|refine HX.trans ?_ K|(refine HX.put ?_ (by first|omega|(simp only [nx];omega)) _)))):HX H H':=h
theorem fin {p:Prop}(h:p:=by first|((repeat' (first|exact HX.refl _|refine HX.trans ?_ (HX.new _ _)|assumption|(refine HX.put ?_ (by first|omega|(simp only [nx];omega)) _)|refine HX.trans ?_ (by assumption)));done)|(refine ⟨?_,?_⟩<;>first|rfl|((repeat' (first|exact HX.refl _|refine HX.trans ?_ (HX.new _ _)|assumption|(refine HX.put ?_ (by first|omega|(simp only [nx];omega)) _)|refine HX.trans ?_ (by assumption)));done)|(simp [F];done))):p:=h
theorem fin0 {p:Prop}(h:p:=by first|((repeat' (first|exact HX.refl _|refine HX.trans ?_ (HX.new _ _)|assumption|(refine HX.put ?_ (by first|omega|(simp only [nx];omega)) _)|refine HX.trans ?_ (by assumption)));done)|(refine ⟨?_,?_⟩<;>first|rfl|((repeat' (first|exact HX.refl _|refine HX.trans ?_ (HX.new _ _)|assumption|(refine HX.put ?_ (by first|omega|(simp only [nx];omega)) _)|refine HX.trans ?_ (by assumption)));done)|(simp [];done))):p:=h
open HS.Md
theorem uN9:lookM.under 9=some .string:=kR
theorem len_str {L:Lk}{t:Nat}(ht:L.under t=some .string) (s:ByteArray) (H:AH):fstO (zda .len L [t] [.str s] H)=some (.int .i64 s.size):=by
 show fstO (match evLen L t (.str s) H with|some v=>some (v,H)|none=>none)=_
 unfold evLen;rw [ht];rfl
theorem zdn1 {L:Lk}{t:Nat}(ht:L.under t=some .string) (s:ByteArray) (k:IntKind) (n:Nat) (h:n<s.size):zxd L t (.str s) (.int k n)=some (.int .u8 (s.data[n]'h).toNat):=by
 unfold zxd natOf;rw [ht];show (match s[n]? with|some b=>some (AV.int .u8 b.toNat)|none=>none)=_
 rw [show s[n]? =some (s[n]'h) from getElem?_pos s n h]
 rfl
theorem ls9 {s:ByteArray}{H:AH}:fstO (zda .len lookM [9] [.str s] H)=some (.int .i64 s.size):=len_str uN9 s H
def ixI (s:ByteArray) (c:Int):Int:=match (List.range s.size).find? fun i=>s[i]! == c.toNat.toUInt8 with|some i=>(i:Int)|none=> -1
theorem ibs (s:ByteArray) (c:Int) (H:AH):FnX lookM 105 [.str s,.int .u8 c] H (.int .i64 (ixI s c)) H:=.ok (zaj (show lookM.ext 105=some zrh from rfl) rfl)
theorem slIxB (s:ByteArray) (c:Int) (H:AH):FnX lookM 99 [.str s,.int .u8 c] H (.int .i64 (ixI s c)) H:=by
 refine fI Tryz.f99 ?_;have h:= @FnX.p _ _ _ _ (ibs s c);have F:=@h;exact vT
theorem stIxB (s:ByteArray) (c:Int) (H:AH):FnX lookM 87 [.str s,.int .u8 c] H (.int .i64 (ixI s c)) H:=by
 refine fI Tryz.f87 ?_;have h:= @FnX.p _ _ _ _ (slIxB s c);have F:=@h;exact vT
theorem ix3 (c:Int) (h0:0<=c) (h1:c<256):ixI ⟨#[46,45,95]⟩ c=if c=46 then 0 else if c=45 then 1 else if c=95 then 2 else -1:=by
 obtain ⟨n,rfl⟩:=qf7 h0;have hn:n<256:=oM
 exact (by decide +kernel:∀n:Fin 256,ixI ⟨#[46,45,95]⟩ ((n.val:Nat):Int)=if ((n.val:Nat):Int)=46 then 0 else if ((n.val:Nat):Int)=45 then 1 else if ((n.val:Nat):Int)=95 then 2 else -1) ⟨n,hn⟩
theorem zvz (s:ByteArray) (H:AH):FnX lookM 71 [.str s] H (.bool (partB s)) H:=by
 refine fI Tryz.f71 ?_;have hl:=fun s H=> @ls9 s H
 by_cases h1:s.size<1
 ·have F:=@hl;refine uT ?_;clear F
  simp [partB];omega
 by_cases h2:20<s.size
 ·have F:=@hl;refine uT ?_;clear F
  simp [partB];omega
 have F:=@hl;refine uT ?_;clear F;have e1:decide (1<=s.size)=true:=by rw [qs];omega
 have e2:decide (s.size<=20)=true:=by rw [qs];omega
 have ep:partB s=zre s 0 s.size:=by rw [partB,e1,e2];rfl
 clear e1 e2 h1;rw [ep];clear ep;generalize hz:zre s 0 s.size=z;refine rc_l (fun n T H'=> ∃q,n+q=s.size/\zre s q n=z/\gT T 0= .str s/\gT T 15= .int .i64 s.size/\gT T 16= .int .i64 q/\H'=H) s.size ?_ ?_
 ·exact ⟨0,rfl,hz,by exact vT0,by exact vT0,by refine uT0 ?_;rfl,rfl⟩
 ·rintro n T H' ⟨q,hn,ha,g0,g15,g16,rfl⟩
  cases n with
  |zero =>
   have F:=J3 @g0 @g15 @g16;refine uT ?_;clear F;rw [← ha];rfl
  |succ n =>
   have hq:q<s.size:=oM
   have hix:=zdn1 uN9 s .i64 q hq;have hc:((s.data[q]'hq).toNat:Int)=byA s q:=by
    unfold byA;rw [qn1,qu1 hq];rfl
   rw [hc] at hix;have hc0:0<=byA s q:=by unfold byA;omega
   have hc1:byA s q<256:=by unfold byA;have:=(s.data.getD q 0).toNat_lt;omega
   have hib:=fun H=>stIxB ⟨#[46,45,95]⟩ (byA s q) H
   rw [ix3 _ hc0 hc1] at hib;have ha':(okB q (byA s q) && zre s (q+1) n)=z:=ha;clear ha hc hz;generalize byA s q=c at *
   have hcall:= @FnX.p _ _ _ _ hib;clear hib;have hgo:okB q c=true-> ∃n',n'<n+1/\ ∃q',n'+q'=s.size/\zre s q' n'=z/\AV.int .i64 ((q:Int)+1)= .int .i64 q':=fun h=>⟨n,oM,q+1,oM,by rw [h] at ha';simpa using ha',by push_cast;rfl⟩
   have hno:okB q c=false->AV.bool false=AV.bool z:=fun h=>by rw [h] at ha';simp at ha';rw [ha']
   clear ha';unfold okB at hgo hno
   (repeat' (first|simp (maxSteps:=1000000) (disch:=first|assumption|omega|rfl|(simp only [nx];omega)|(simp only [lens]<;>omega)) only [rq,rq2,qa2,qr1,Nat.reduceEqDiff,Nat.reduceAdd,reduceIte,reduceCtorEq,ne_eq,qf1,qc1,qs2,qm2,g0,g15,g16,hix,hcall]|((first|refine gR_if ?_ ?_|refine bR_if ?_ ?_|refine gZ_if ?_ ?_)<;>intro hb<;>(try simp only [qs,qd4,qm4,qr5] at hb))))
   all_goals first|(refine hno ?_;simp;omega)|(refine hgo ?_;simp;omega)|trace_state
theorem zvn (s:ByteArray) (H:AH):FnX lookM 54 [.str s] H (.bool (partB s)) H:=by
 refine fI Tryz.f54 ?_;have h:= @FnX.p _ _ _ _ (zvz s);have F:=@h;exact vT
theorem zdj1 (a b:ByteArray):strEq a b=decide (a=b):=by
 by_cases h:a=b
 ·subst h;rw [zlp,qk rfl]
 ·rw [qq h]
  cases h2:strEq a b with
  |false=>rfl
  |true=>exact absurd (zfs h2) h
theorem zte {L:Lk}{t:Nat}{xo yo:Operand}(a b:ByteArray):binF .eql (evBin L .eql t xo yo) (.str a) (.str b)=some (.bool (decide (a=b))):=by
 show some (AV.bool (strEq a b))=_
 rw [zdj1]
theorem ztd {L:Lk}{t:Nat}{xo yo:Operand}(a b:ByteArray):binF .neq (evBin L .neq t xo yo) (.str a) (.str b)=some (.bool (!decide (a=b))):=by
 show some (AV.bool (!strEq a b))=_
 rw [zdj1]
theorem zej1 {L:Lk}{t:Nat}{xo yo:Operand}(a b:ByteArray):binF .lss (evBin L .lss t xo yo) (.str a) (.str b)=some (.bool (ltS a b)):=by
 show some (AV.bool (Op.bytesLess a.toList b.toList))=_
 rw [ByteArray.toList_eq,ByteArray.toList_eq];rfl
theorem zzt {L:Lk}{t:Nat}{xo yo:Operand}(a b:ByteArray) (h:a.size+b.size<=9223372036854775807):binF .add (evBin L .add t xo yo) (.str a) (.str b)=some (.str (a ++ b)):=by
 show (match Nat.ble (a.size+b.size) 9223372036854775807 with|true=>some (AV.str (a ++ b))|false=>none)=_
 rw [qe h]
theorem zpj {s:ByteArray}(h:partB s=true):s.size<=20:=by
 unfold partB at h;simp only [qm,qs] at h;exact h.2.1
theorem sls_hi {L:Lk}{t:Nat}(ht:L.under t=some .string) (s:ByteArray) (k:IntKind) (n:Nat) (h:n<=s.size):zua L t false true false [.str s,.int k n]=some (.str (s.extract 0 n)):=by
 show zgb L t (.str s) none (some (.int k n)) none=_
 unfold zgb;simp only [maxOk,bndOf,ht,natOf];rw [show Nat.ble 0 n=true from qe (qo2 _),show Nat.ble n s.size=true from qe h]
 rfl
theorem sls_lo {L:Lk}{t:Nat}(ht:L.under t=some .string) (s:ByteArray) (k:IntKind) (n:Nat) (h:n<=s.size):zua L t true false false [.str s,.int k n]=some (.str (s.extract n s.size)):=by
 show zgb L t (.str s) (some (.int k n)) none none=_
 unfold zgb;simp only [maxOk,bndOf,ht,natOf];rw [show Nat.ble n s.size=true from qe h,show Nat.ble s.size s.size=true from qe (qn _)]
 rfl
theorem zwz {s:ByteArray}{i:Nat}(h:at64 s=some i):ixI s 64=i:=by
 unfold ixI;have:((List.range s.size).find? fun i=>s[i]! == (64:Int).toNat.toUInt8)=some i:=h
 rw [this]
theorem zen1 {s:ByteArray}(h:at64 s=none):ixI s 64= -1:=by
 unfold ixI;have:((List.range s.size).find? fun i=>s[i]! == (64:Int).toNat.toUInt8)=none:=h
 rw [this]
theorem zfj1 {s:ByteArray}{i:Nat}(h:at64 s=some i):i<s.size:=qp3.1 (qz6.1 h).2.1
theorem zze1:at64 sign=some 0:=by decide +kernel
theorem zfn1 (s:ByteArray) (H:AH):FnX lookM 106 [.str s,.str ⟨#[64]⟩] H (.int .i64 (ixI s 64)) H:=by
 refine fI Tryz.f106 ?_;have hl:=fun s H=> @ls9 s H
 have h:= @FnX.p _ _ _ _ (slIxB s 64);have hix:zxd lookM 9 (.str ⟨#[64]⟩) (.int .i64 0)=some (.int .u8 64):=kR
 have hsz:(⟨#[64]⟩:ByteArray).size=1:=rfl;by_cases e:(⟨#[64]⟩:ByteArray)=s
 ·have hd:decide ((⟨#[64]⟩:ByteArray)=s)=true:=qk e
  have hr:ixI s 64=0:=zwz (by rw [← e];exact zze1)
  rw [hr];have F:=J6 @hl @hsz @zte @hd @h @hix;exact vT
 ·have hd:decide ((⟨#[64]⟩:ByteArray)=s)=false:=qq e
  have F:=J6 @hl @hsz @zte @hd @h @hix;exact vT
theorem cutl_ok (s:ByteArray) (hs:s.size<=1000000) (H:AH):FnX lookM 100 [.str s,.str ⟨#[64]⟩] H (.tup [.str (cutA s),.str (cutB s),.bool (cutF s)]) H:=by
 refine fI Tryz.f100 ?_;have h:= @FnX.p _ _ _ _ (zfn1 s);have hl1:∀H:AH,fstO (zda .len lookM [9] [.str ⟨#[64]⟩] H)=some (.int .i64 1):=fun H=>ls9
 unfold cutA cutB cutF;cases ha:at64 s with
 |none =>
  rw [zen1 ha] at h;have F:=J2 @hl1 @h;refine uT ?_;rfl
 |some i =>
  rw [zwz ha] at h;have hi:=zfj1 ha;have h1:=sls_hi uN9 s .i64 i oM
  have h2:=sls_lo uN9 s .i64 (i+1) oM
  have e:((i+1:Nat):Int)=(i:Int)+1:=by push_cast;rfl
  rw [e] at h2;have F:=J4 @hl1 @h @h1 @h2;refine uT ?_;rfl
theorem zgn1 (s:ByteArray) (hs:s.size<=1000000) (H:AH):FnX lookM 88 [.str s,.str ⟨#[64]⟩] H (.tup [.str (cutA s),.str (cutB s),.bool (cutF s)]) H:=by
 refine fI Tryz.f88 ?_;have h:= @FnX.p _ _ _ _ (cutl_ok s hs);have F:=@h;exact vT
theorem zhg (s:ByteArray) (hs:s.size<=1000000) (H:AH):FnX lookM 72 [.str s] H (.tup [.str (splA s),.str (splB s),.bool (snapB s)]) H:=by
 refine fI Tryz.f72 ?_;have h:= @FnX.p _ _ _ _ (zgn1 s hs);have hv:= @FnX.p _ _ _ _ (zvn (cutA s));have hp:= @FnX.p _ _ _ _ (zvz (cutB s));unfold splA splB snapB;cases hc:cutF s<;>cases ha:partB (cutA s)<;>cases hb:partB (cutB s)<;>rw [hc] at h<;>rw [ha] at hv<;>rw [hb] at hp<;>(have F:=J3 @h @hv @hp;exact wT)
theorem zau (s:ByteArray) (hs:s.size<=1000000) (H:AH):FnX lookM 55 [.str s] H (.bool (snapB s)) H:=by
 refine fI Tryz.f55 ?_;have h:= @FnX.p _ _ _ _ (zhg s hs);have F:=@h;exact vT
theorem join_ok (a b:ByteArray) (H:AH):FnX lookM 161 [.str a,.str b] H (.tup [.str (joinB a b),.bool (partB a && partB b)]) H:=by
 refine fI Tryz.f161 ?_;have hv:= @FnX.p _ _ _ _ (zvn a);have hp:= @FnX.p _ _ _ _ (zvz b);unfold joinB;cases ha:partB a with
 |false=>rw [ha] at hv;have F:=J2 @hv @hp;refine uT ?_;rfl
 |true =>
  cases hb:partB b with
  |false=>rw [ha] at hv;rw [hb] at hp;have F:=J2 @hv @hp;refine uT ?_;rfl
  |true =>
   rw [ha] at hv;rw [hb] at hp;have h1:=zpj ha;have h2:=zpj hb;have e1:(a ++ (⟨#[64]⟩:ByteArray)).size=a.size+1:=qn4;have k1:=fun t xo yo=> @zzt lookM t xo yo a ⟨#[64]⟩ (by show a.size+1<=_;omega)
   have k2:=fun t xo yo=> @zzt lookM t xo yo (a ++ ⟨#[64]⟩) b oM
   have F:=J4 @hv @hp @k1 @k2;refine uT ?_;rfl
end HS
namespace HS.Md
open Go
theorem bl_at:∀(i:Nat){x y:List UInt8}{a b:UInt8},x[i]? =some a->y[i]? =some b->(∀j,j<i->x[j]? =y[j]?)->a≠b->Op.bytesLess x y=decide (a.toNat<b.toNat)
 |0, [],_,a,b,hx,_,_,_=>by cases hx
 |0,_::_, [],a,b,_,hy,_,_=>by cases hy
 |0,c::x,d::y,a,b,hx,hy,_,hne=>by
  cases hx;cases hy
  rw [qa3,bl_cons,qs];have:¬c.toNat=d.toNat:=fun e=>hne (u8_eq.2 e)
  exact ⟨fun h=>h.elim id fun h=>absurd h.1 this,.inl⟩
 |i+1, [],_,a,b,hx,_,_,_=>by cases hx
 |i+1,_::_, [],a,b,_,hy,_,_=>by cases hy
 |i+1,c::x,d::y,a,b,hx,hy,hj,hne=>by
  have h0:=hj 0 (ql7 _);have e:c=d:=by simpa using h0
  subst e;have ih:=bl_at i (x:=x) (y:=y) (by simpa using hx) (by simpa using hy) (fun j h=>by simpa using hj (j+1) oM) hne
  rw [← ih,qa3,bl_cons];exact ⟨fun h=>h.elim (fun h=>absurd h (qv5 _)) (·.2),fun h=>.inr ⟨rfl,h⟩⟩
theorem zhn1:∀{x y:List UInt8},(∀j,j<x.length->j<y.length->x[j]? =y[j]?)->Op.bytesLess x y=decide (x.length<y.length)/\(x.length=y.length->x=y)
 | [], [],_=>⟨by simp [Op.bytesLess],fun _=>rfl⟩
 | [],_::y,_=>⟨by simp [Op.bytesLess],fun h=>by cases h⟩
 |_::_, [],_=>⟨by simp [Op.bytesLess],fun h=>by cases h⟩
 |c::x,d::y,h=>by
  have h0:=h 0 (ql7 _) (ql7 _);have e:c=d:=by simpa using h0
  subst e;obtain ⟨h1,h2⟩:=zhn1 (x:=x) (y:=y) fun j hx hy=>by simpa using h (j+1) (by simpa using hx) (by simpa using hy)
  refine ⟨?_,fun hl=>by rw [h2 (by simpa using hl)]⟩
  rw [qa3,bl_cons,h1,qs,qs];simp only [ql2];constructor
  ·rintro (h|⟨_,h⟩)
   ·exact absurd h (qv5 _)
   ·exact Nat.succ_lt_succ h
  ·intro h;exact Or.inr ⟨trivial,Nat.lt_of_succ_lt_succ h⟩
theorem zkw {s:ByteArray}{i:Nat}(h:i<s.size):s.data.toList[i]? =some s[i]! :=by
 rw [getElem!_pos s i h,qa4,qu1 (show i<s.data.size from h)]
 rfl
theorem zxz (s:ByteArray):s.data.toList.length=s.size:=qp6
theorem cmp_eq (a b:ByteArray):Extern.BytealgCompare.cmp a b=if ltS a b=true then -1 else if ltS b a=true then 1 else 0:=by
 unfold Extern.BytealgCompare.cmp;cases hf:(List.range (min a.size b.size)).find? fun i=>a[i]! != b[i]! with
 |some i =>
  obtain ⟨h1,h2,h3⟩:=qz6.1 hf;have h2:=qp3.1 h2;have hne:a[i]! ≠b[i]! :=by simpa using h1
  have ha:=zkw (s:=a) (i:=i) oM
  have hb:=zkw (s:=b) (i:=i) oM
  have hpre:∀j,j<i->a.data.toList[j]? =b.data.toList[j]? :=fun j hj=>by
   have:=h3 j hj;rw [zkw oM,zkw oM]
   have e:a[j]! =b[j]! :=by simpa using this
   rw [e]
  have e1:ltS a b=decide (a[i]!.toNat<b[i]!.toNat):=bl_at i ha hb hpre hne;have e2:ltS b a=decide (b[i]!.toNat<a[i]!.toNat):=bl_at i hb ha (fun j hj=>(hpre j hj).symm) (fun e=>hne e.symm)
  have hnn:a[i]!.toNat≠b[i]!.toNat:=fun e=>hne (u8_eq.2 e)
  rw [e1,e2];simp only [qs,u8_lt];by_cases h:a[i]!.toNat<b[i]!.toNat
  ·rw [qi h,qi h]
  ·rw [qd h,qd h,qi oM]
 |none =>
  rw [List.find?_eq_none] at hf;have hpre:∀j,j<a.data.toList.length->j<b.data.toList.length->a.data.toList[j]? =b.data.toList[j]? :=fun j h1 h2=>by
   rw [zxz] at h1 h2;have:=hf j (qp3.2 oM)
   rw [zkw h1,zkw h2];have e:a[j]! =b[j]! :=by simpa using this
   rw [e]
  have e1:ltS a b=decide (a.size<b.size):=by have:=(zhn1 hpre).1;rw [zxz,zxz] at this;exact this
  have e2:ltS b a=decide (b.size<a.size):=by have:=(zhn1 fun j h1 h2=>(hpre j h2 h1).symm).1;rw [zxz,zxz] at this;exact this
  rw [e1,e2];simp only [qs,gt_iff_lt]
end HS.Md
namespace HS
set_option maxRecDepth 100000
open HS.Md
def cmpI (a b:ByteArray):Int:=if ltS a b=true then -1 else if ltS b a=true then 1 else 0
theorem cms_ok (a b:ByteArray) (H:AH):FnX lookM 197 [.str a,.str b] H (.int .i64 (cmpI a b)) H:=by
 have h:FnX lookM 197 [.str a,.str b] H (.int .i64 (Extern.BytealgCompare.cmp a b)) H:=.ok (zaj (show lookM.ext 197=some zjn from rfl) rfl)
 rw [cmp_eq] at h;exact h
theorem cmb_ok (a b:ByteArray) (H:AH):FnX lookM 193 [.str a,.str b] H (.int .i64 (cmpI a b)) H:=by
 refine fI Tryz.f193 ?_;have h:= @FnX.p _ _ _ _ (cms_ok a b);have F:=@h;exact vT
theorem zin1 (a b:ByteArray) (H:AH):FnX lookM 185 [.str a,.str b] H (.int .i64 (cmpI a b)) H:=by
 refine fI Tryz.f185 ?_;have h:= @FnX.p _ _ _ _ (cmb_ok a b);have F:=@h;exact vT
theorem sl_len2 {j:Nat}{H:AH}:fstO (zda .len lookM [35] [.sl j 0 2 2 false] H)=some (.int .i64 2):=rfl
theorem or_ok {j:Nat}{a b:Int}(H:AH) (h0:ld1 (.ptr j 0) H=some (.int .i64 a)) (h1:ld1 (.ptr j 1) H=some (.int .i64 b)) :
  FnX lookM 186 [.sl j 0 2 2 false] H (.int .i64 (if a=0 then b else a)) H:=by
 refine fI Tryz.f186 ?_;have hl:=fun H=> @sl_len2 j H
 have i0:ixS 1 (.sl j 0 2 2 false) (.int .i64 0)=some (.ptr j 0):=rfl;have i1:ixS 1 (.sl j 0 2 2 false) (.int .i64 1)=some (.ptr j 1):=rfl;have F:=@hl;refine uT ?_;clear F;refine rc_l (fun n T H'=>gT T 6= .sl j 0 2 2 false/\gT T 7= .int .i64 2/\gT T 3= .int .i64 0/\H'=H/\((n=2/\gT T 8= .int .i64 0)\/(n=1/\gT T 8= .int .i64 1/\a=0)\/(n=0/\gT T 8= .int .i64 2/\a=0/\b=0))) 2 ?_ ?_
 ·exact ⟨by exact vT0,by exact vT0,by exact vT0,rfl,.inl ⟨rfl,by exact vT0⟩⟩
 ·rintro n T H' ⟨g6,g7,g3,rfl,⟨rfl,g8⟩|⟨rfl,g8,ha⟩|⟨rfl,g8,ha,hb⟩⟩
  ·by_cases ha:a=0
   ·have hd:decide (a≠0)=false:=by simp [ha]
    have F:=J7 @g6 @g7 @g3 @g8 @i0 @h0 @hd;refine uT ?_;clear F;exact ⟨1,oM,.inr (.inl ⟨rfl,rfl,ha⟩)⟩
   ·have hd:decide (a≠0)=true:=by simp [ha]
    have F:=J7 @g6 @g7 @g3 @g8 @i0 @h0 @hd;refine uT ?_;clear F;rw [qd ha]
  ·by_cases hb:b=0
   ·have hd:decide (b≠0)=false:=by simp [hb]
    have F:=J7 @g6 @g7 @g3 @g8 @i1 @h1 @hd;refine uT ?_;clear F;exact ⟨0,oM,.inr (.inr ⟨rfl,rfl,ha,hb⟩)⟩
   ·have hd:decide (b≠0)=true:=by simp [hb]
    have F:=J7 @g6 @g7 @g3 @g8 @i1 @h1 @hd;refine uT ?_;clear F;rw [qi ha]
  ·have F:=J4 @g6 @g7 @g3 @g8;refine uT ?_;clear F
   rw [qi ha,hb]
def sgn (b:Bool):ByteArray:=if b then ⟨#[64]⟩ else ⟨#[]⟩
theorem sgn_ok (b:Bool) (H:AH):FnX lookM 184 [.bool b] H (.str (sgn b)) H:=by
 refine fI Tryz.f184 ?_;cases b with
 |true=>refine uT0 ?_;rfl
 |false=>refine uT0 ?_;rfl
theorem zqj (a:ByteArray):cmpI a a=0:=by unfold cmpI;rw [zgz];rfl
theorem zjn1 (a b:ByteArray):decide ((if cmpI (cutA a) (cutA b)=0 then (if cmpI (sgn (cutF a)) (sgn (cutF b))=0 then cmpI (cutB a) (cutB b) else cmpI (sgn (cutF a)) (sgn (cutF b))) else cmpI (cutA a) (cutA b))<0)=lessB a b:=by
 have s1:cmpI (sgn false) (sgn true)= -1:=by decide +kernel
 have s2:cmpI (sgn true) (sgn false)=1:=by decide +kernel
 have key:∀x y:ByteArray,decide (cmpI x y<0)=ltS x y:=fun x y=>by
  unfold cmpI;cases h:ltS x y with
  |true=>rfl
  |false=>cases h2:ltS y x<;>rfl
 unfold lessB;by_cases e:cutA a=cutA b
 ·rw [qi e,e,zqj,qi rfl]
  cases ha:cutF a<;>cases hb:cutF b
  ·rw [zqj,qi rfl,zmj ha,zmj hb,zqj];rfl
  ·rw [s1];rfl
  ·rw [s2];rfl
  ·rw [zqj,qi rfl];exact key _ _
 ·rw [qd e,qd,key]
  intro h;unfold cmpI at h;cases h1:ltS (cutA a) (cutA b) with
  |true=>rw [h1] at h;cases h
  |false =>
   cases h2:ltS (cutA b) (cutA a) with
   |true=>rw [h1,h2] at h;cases h
   |false=>exact e (zhz h1 h2)
theorem bs2 (a b:Int) (H:AH):bsF 1 2 (.int .i64 0) 3 (zipF [0,1] [.int .i64 a,.int .i64 b]) H=some (.sl H.next 0 2 2 false,H.new (.cells (.lst [.int .i64 a,.int .i64 b]) 3 1 false false)):=by
 have h:bsF 1 2 (.int .i64 0) 3 (zipF [0,1] [.int .i64 a,.int .i64 b]) H=hNew (.cells (.lst [.int .i64 a,.int .i64 b]) 3 1 false false) (fun m H'=>some (.sl m 0 2 2 false,H')) H:=kR
 rw [h,zzi]
theorem bu3 (a b c:Int):zsa lookM 199 (zipF [0,1,2] [.int .i64 a,.int .i64 b,.int .i64 c])=some (.agg [.int .i64 a,.int .i64 b,.int .i64 c]):=kR
theorem ix30 (a b c:Int):zxd lookM 199 (.agg [.int .i64 a,.int .i64 b,.int .i64 c]) (.int .i64 0)=some (.int .i64 a):=kR
theorem ix31 (a b c:Int):zxd lookM 199 (.agg [.int .i64 a,.int .i64 b,.int .i64 c]) (.int .i64 1)=some (.int .i64 b):=kR
theorem ix32 (a b c:Int):zxd lookM 199 (.agg [.int .i64 a,.int .i64 b,.int .i64 c]) (.int .i64 2)=some (.int .i64 c):=kR
theorem or2 (a b:Int) (H:AH) [hn:HN H]:FnX lookM 186 [.sl H.next 0 2 2 false] (H.new (.cells (.lst [.int .i64 a,.int .i64 b]) 3 1 false false)) (.int .i64 (if a=0 then b else a)) (H.new (.cells (.lst [.int .i64 a,.int .i64 b]) 3 1 false false)) :=
 or_ok _ (by rw [ld1_q,get_new,qi (show hEq _ _ from rfl)];rfl) (by rw [ld1_q,get_new,qi (show hEq _ _ from rfl)];rfl)
theorem or20 (b:Int) (H:AH) [hn:HN H]:FnX lookM 186 [.sl H.next 0 2 2 false] (H.new (.cells (.lst [.int .i64 0,.int .i64 b]) 3 1 false false)) (.int .i64 b) (H.new (.cells (.lst [.int .i64 0,.int .i64 b]) 3 1 false false)):=or2 0 b H
theorem zyz (a b:ByteArray) (ha:a.size<=1000000) (hb:b.size<=1000000) (H:AH) [hn:HN H]:FnE lookM 174 [.str a,.str b] H fun r H'=>r= .bool (lessB a b)/\HX H H':=by
 refine fI Tryz.f174 ?_;have h1:= @FnX.p _ _ _ _ (zgn1 a ha);have h2:= @FnX.p _ _ _ _ (zgn1 b hb);have h3:= @FnX.p _ _ _ _ (zin1 (cutA a) (cutA b));have h4:= @FnX.p _ _ _ _ (sgn_ok (cutF a));have h5:= @FnX.p _ _ _ _ (sgn_ok (cutF b));have h6:= @FnX.p _ _ _ _ (zin1 (sgn (cutF a)) (sgn (cutF b)));have h7:= @FnX.p _ _ _ _ (zin1 (cutB a) (cutB b));have hl:=zjn1 a b;have F:=J8 @h1 @h2 @h3 @h4 @h5 @h6 @h7 @bu3;refine uX ?_;clear F;generalize cmpI (cutA a) (cutA b)=x at *
 generalize cmpI (sgn (cutF a)) (sgn (cutF b))=y at *
 generalize cmpI (cutB a) (cutB b)=z at *
 clear h1 h2 h3 h4 h5 h6 h7;refine rc_l (fun n T H'=>HX H H'/\gT T 40= .agg [.int .i64 x,.int .i64 y,.int .i64 z]/\gT T 12= .int .i64 0/\((n=3/\gT T 41= .int .i64 0)\/(n=2/\gT T 41= .int .i64 1/\x=0)\/(n=1/\gT T 41= .int .i64 2/\x=0/\y=0)\/(n=0/\gT T 41= .int .i64 3/\x=0/\y=0/\z=0))) 3 ?_ ?_
 ·exact ⟨HX.refl _,by exact vT0,by exact vT0,.inl ⟨rfl,by exact vT0⟩⟩
 ·rintro n T H' ⟨hx,g40,g12,⟨rfl,g41⟩|⟨rfl,g41,hx0⟩|⟨rfl,g41,hx0,hy0⟩|⟨rfl,g41,hx0,hy0,hz0⟩⟩
  ·haveI:=hx.hn
   have ho:= @FnX.c _ _ _ _ _ _ (or20 x H');have hx2:HX H (H'.new (.cells (.lst [.int .i64 0,.int .i64 x]) 3 1 false false)):=hx.trans (HX.new _ _);by_cases h:x=0
   ·have hd:decide (x≠0)=false:=by simp [h]
    have F:=J7 @g40 @g12 @g41 @ix30 @bs2 @ho @hd;refine uT ?_;clear F;exact ⟨2,oM,hx2,by rw [h],.inr (.inl ⟨rfl,rfl,h⟩)⟩
   ·have hd:decide (x≠0)=true:=by simp [h]
    have F:=J7 @g40 @g12 @g41 @ix30 @bs2 @ho @hd;refine uT ?_;clear F;rw [qd h] at hl;exact ⟨by rw [hl],hx2⟩
  ·haveI:=hx.hn
   have ho:= @FnX.c _ _ _ _ _ _ (or20 y H');have hx2:HX H (H'.new (.cells (.lst [.int .i64 0,.int .i64 y]) 3 1 false false)):=hx.trans (HX.new _ _);rw [qi hx0] at hl;by_cases h:y=0
   ·have hd:decide (y≠0)=false:=by simp [h]
    have F:=J7 @g40 @g12 @g41 @ix31 @bs2 @ho @hd;refine uT ?_;clear F;exact ⟨1,oM,hx2,by rw [h],.inr (.inr (.inl ⟨rfl,rfl,hx0,h⟩))⟩
   ·have hd:decide (y≠0)=true:=by simp [h]
    have F:=J7 @g40 @g12 @g41 @ix31 @bs2 @ho @hd;refine uT ?_;clear F;rw [qd h] at hl;exact ⟨by rw [hl],hx2⟩
  ·haveI:=hx.hn
   have ho:= @FnX.c _ _ _ _ _ _ (or20 z H');have hx2:HX H (H'.new (.cells (.lst [.int .i64 0,.int .i64 z]) 3 1 false false)):=hx.trans (HX.new _ _);rw [qi hx0,qi hy0] at hl;by_cases h:z=0
   ·have hd:decide (z≠0)=false:=by simp [h]
    have F:=J7 @g40 @g12 @g41 @ix32 @bs2 @ho @hd;refine uT ?_;clear F;exact ⟨0,oM,hx2,by rw [h],.inr (.inr (.inr ⟨rfl,rfl,hx0,hy0,h⟩))⟩
   ·have hd:decide (z≠0)=true:=by simp [h]
    have F:=J7 @g40 @g12 @g41 @ix32 @bs2 @ho @hd;refine uT ?_;clear F;exact ⟨by rw [hl],hx2⟩
  ·rw [qi hx0,qi hy0,hz0] at hl
   have F:=J3 @g40 @g12 @g41;refine uT ?_;clear F;exact ⟨by rw [← hl];rfl,hx⟩
theorem uRs:lookM.under 49=some (.slice 84):=kR
theorem ix44 {H:AH}{v:AV}{n q:Nat}{z:Nat}(h:IsSl H v n) (hq:q<n):ixS z v (.int .i64 (q:Int))=some (elA z v q):=by
 have:=ix_el (z:=z) (k:=.i64) h (Int.natCast_nonneg q) (by exact_mod_cast hq)
 rwa [qc2] at this
def posI (n m:Nat):Int:=if n<m then (n:Int) else -1
abbrev rcs (l:List (AV×Rc)):List Rc:=l.map (·.2)
theorem zbu {H:AH}[hn:HN H]{v:AV}{l:List (AV×Rc)}{p:Rc->Bool}{g:Nat}{caps:List AV}(hsl:SlRc H v l) (hlen:l.length<=1000000)
  (hp:∀H1,HX H H1-> ∀(k:Nat) (r:AV×Rc),l[k]? =some r->FnE lookM g (.agg (rcL r)::caps) H1 fun r' H'=>r'= .bool (p r.2)/\HX H1 H') :
  FnE lookM 85 [v,.fn (.func g) [] caps] H fun r H'=>r= .int .i64 (posI (upto (fun r=> !p r) (rcs l)) l.length)/\HX H H':=by
 refine fI Tryz.f85 ?_;have hl:=fun H'=>ztc (H':=H') uRs hsl.is
 have F:=@hl;refine uT ?_;refine rc_l (fun n T H'=> ∃q,n+q=l.length/\HX H H'/\gT T 0=v/\gT T 1= .fn (.func g) [] caps/\gT T 7= .int .i64 l.length/\gT T 8= .int .i64 q/\(∀(j:Nat) (r:Rc),j<q->(rcs l)[j]? =some r->p r=false)) l.length ?_ ?_
 ·exact ⟨0,rfl,HX.refl _,by exact vT0,by exact vT0,by exact vT0,by refine uT0 ?_;rfl,fun j r h=>absurd h (qe4 _)⟩
 ·rintro n T H' ⟨q,hnq,hx,g0,g1,g7,g8,hall⟩
  cases n with
  |zero =>
   have F:=J4 @g0 @g1 @g7 @g8;refine uT ?_;refine ⟨?_,hx⟩;have e:upto (fun r=> !p r) (rcs l)=l.length:=zae _ (by simp) (fun i r hi hr=>by rw [hall i r oM hr];rfl) (fun r hr=>by simp at hr)
   rw [e];unfold posI;rw [qd (qv5 _)]
  |succ n =>
   have hq:q<l.length:=oM
   have hk:l[q]? =some l[q]:=qo hq;have hix:=ix44 (z:=44) (q:=q) (hsl.hx hx).is hq;have hld:=(hsl.hx hx).agg hk;have hc:=hp H' hx q _ hk;have hk2:(rcs l)[q]? =some l[q].2:=by rw [qh1,hk];rfl
   generalize l[q]=r at *
   have F:=J6 @g0 @g1 @g7 @g8 @hix @hld;refine uX ?_;refine cR_f hc ?_;rintro r' H2 ⟨rfl,hx2⟩;have hx3:=hx.trans hx2;cases hpr:p r.2 with
   |true =>
    have F:=J4 @g0 @g1 @g7 @g8;refine uT ?_;refine ⟨?_,hx3⟩;have e:upto (fun r=> !p r) (rcs l)=q:=zae _ (by simp;omega) (fun i r hi hr=>by rw [hall i r hi hr];rfl) (fun r hr=>by rw [hk2] at hr;cases hr;rw [hpr];rfl)
    rw [e];unfold posI;rw [qi hq]
   |false =>
    have F:=J4 @g0 @g1 @g7 @g8;refine uT ?_;refine ⟨n,oM,q+1,oM,hx3,by push_cast;rfl,fun j r2 hj hr=> ?_⟩
    rcases qi2 j q with h|h
    ·exact hall j r2 h hr
    ·have:j=q:=oM
     subst this;rw [hk2] at hr;cases hr;exact hpr
theorem zpa (p:AV×Rc):AV.toC (.agg (rcL p))= .lst (rcL p):=rfl
theorem rc_1 (p:AV×Rc):nth (rcL p) 1=some (.str p.2.nm):=rfl
theorem zkn1 {H:AH}[hn:HN H](p:AV×Rc){b:Nat}{s:ByteArray}(hb:b<H.next) (hg:H.get b=some (.cells (.lst [.str s]) 9 1 false false)) :
  FnE lookM 86 [.agg (rcL p),.ptr b 0] H fun r H'=>r= .bool (decide (p.2.nm=s))/\HX H H':=by
 refine fI Tryz.f86 ?_;have he:=hEq_f (oM:b≠H.next)
 have hn0:∀v:AV,nth [v] 0=some v:=fun _=>rfl
 have F:=J6 @zpa @rc_1 @hg @he @zte @hn0;refine uT ?_;exact HX.new _ _
abbrev tbA (nn:Int) (v lv:AV):AV:=.agg [.int .i64 nn,v,.int .i64 0,.int .i64 0,.int .i64 0,.int .i64 0,lv]
theorem fnd_eq (s:ByteArray) (l:List Rc):upto (fun r=> !decide (r.nm=s)) l=fnd s l:=by
 unfold fnd;congr 1;funext r;by_cases h:r.nm=s
 ·simp [h]
 ·simp [h]
theorem zzz {H:AH}[hn:HN H]{nn:Int}{v lv:AV}{l:List (AV×Rc)}{s:ByteArray}(hsl:SlRc H v l) (hlen:l.length<=1000000) :
  FnE lookM 68 [tbA nn v lv,.str s] H fun r H'=>r= .tup [.int .i64 (fndI s (rcs l):Nat),.bool (hasB s (rcs l))]/\HX H H':=by
 refine fI Tryz.f68 ?_;have hT:AV.toC (tbA nn v lv)= .lst [.int .i64 nn,v,.int .i64 0,.int .i64 0,.int .i64 0,.int .i64 0,lv]:=rfl;have n1:nth [.int .i64 nn,v,.int .i64 0,.int .i64 0,.int .i64 0,.int .i64 0,lv] 1=some v:=rfl;have he:=hEq_f (oM:H.next≠H.next+1)
 have ht:=hEq_t (rfl:H.next=H.next);have f0:∀x:AV,zfn 0 [x]= []:=fun _=>rfl
 have r0:∀x:AV,restN 0 [x]= [x]:=fun _=>rfl
 have F:=J6 @hT @n1 @he @ht @f0 @r0;refine uT ?_;have hx2:HX H ((H.new (.cells (.lst [.int .i64 nn,v,.int .i64 0,.int .i64 0,.int .i64 0,.int .i64 0,lv]) 53 7 false false)).new (.cells (.lst [.str s]) 9 1 false false)):=(HX.new _ _).trans (HX.new _ _);refine cR_f (zbu (p:=fun r=>decide (r.nm=s)) (hsl.hx hx2) hlen ?_) ?_
 ·intro H1 hx k r hk
  haveI:=hx.hn;refine zkn1 r (qz (qd1 _) hx.next) ?_;refine (hx.get (i:=H.next+1) (by show H.next+1<H.next+1+1;omega)).trans ?_
  rw [get_new];exact qi (show hEq _ _ from rfl)
 ·rintro r H3 ⟨rfl,hx3⟩
  rw [fnd_eq];have hx4:=hx2.trans hx3;have hm:∀H:AH,∀n:Int,fstO (zda .max lookM [3,3] [.int .i64 n,.int .i64 0] H)=some (.int .i64 (if n<0 then 0 else n)):=fun H n=>rfl
  have hll:(rcs l).length=l.length:=by simp
  by_cases h:fnd s (rcs l)<l.length
  ·have e1:posI (fnd s (rcs l)) l.length=(fnd s (rcs l):Int):=by unfold posI;rw [qi h]
   have e2:fndI s (rcs l)=fnd s (rcs l):=by unfold fndI;rw [hll,qi h]
   have e3:hasB s (rcs l)=true:=by unfold hasB;rw [hll,qk h]
   rw [e1,e2,e3];have c1:¬((fnd s (rcs l):Int)<0):=oM
   have c2:decide ((0:Int)<=(fnd s (rcs l):Int))=true:=by rw [qs];omega
   have F:=J3 @hm @c1 @c2;refine uT ?_;exact hx4
  ·have e1:posI (fnd s (rcs l)) l.length= -1:=by unfold posI;rw [qd h]
   have e2:fndI s (rcs l)=0:=by unfold fndI;rw [hll,qd h]
   have e3:hasB s (rcs l)=false:=by unfold hasB;rw [hll,qq h]
   rw [e1,e2,e3];have c1:((-1:Int)<0):=oM
   have F:=J2 @hm @c1;refine uT ?_;exact ⟨rfl,hx4⟩
theorem wi_d (n a b:Int):wi n a b=(decide (a<=n) && decide (n<=b)):=by unfold wi;rw [qa3];simp
theorem zaf1 (n a b:Int) (H:AH):FnX lookM 177 [.int .i64 n,.int .i64 a,.int .i64 b] H (.bool (wi n a b)) H:=by
 refine fI Tryz.f177 ?_;rw [wi_d];by_cases h1:a<=n
 ·by_cases h2:n<=b
  ·have d1:decide (a<=n)=true:=qk h1
   have d2:decide (n<=b)=true:=qk h2;have F:=J2 @d1 @d2;refine uT ?_;rfl
  ·have d1:decide (a<=n)=true:=qk h1
   have d2:decide (n<=b)=false:=qq h2;have F:=J2 @d1 @d2;refine uT ?_;rfl
 ·have d1:decide (a<=n)=false:=qq h1
  have F:=@d1;refine uT ?_;rfl
theorem zaa1 (n:Int) (H:AH):FnX lookM 144 [.int .i64 n] H (.bool (wi n 1 64)) H:=by
 refine fI Tryz.f144 ?_;rw [wi_d];by_cases h1:1<=n
 ·by_cases h2:n<=64
  ·have d1:decide (1<=n)=true:=qk h1
   have d2:decide (n<=64)=true:=qk h2;have F:=J2 @d1 @d2;refine uT ?_;rfl
  ·have d1:decide (1<=n)=true:=qk h1
   have d2:decide (n<=64)=false:=qq h2;have F:=J2 @d1 @d2;refine uT ?_;rfl
 ·have d1:decide (1<=n)=false:=qq h1
  have F:=@d1;refine uT ?_;rfl
theorem zba1 (n:Int) (H:AH):FnX lookM 165 [.int .i64 n] H (.bool (wi n 0 64)) H:=by
 refine fI Tryz.f165 ?_;rw [wi_d];by_cases h1:0<=n
 ·by_cases h2:n<=64
  ·have d1:decide (0<=n)=true:=qk h1
   have d2:decide (n<=64)=true:=qk h2;have F:=J2 @d1 @d2;refine uT ?_;rfl
  ·have d1:decide (0<=n)=true:=qk h1
   have d2:decide (n<=64)=false:=qq h2;have F:=J2 @d1 @d2;refine uT ?_;rfl
 ·have d1:decide (0<=n)=false:=qq h1
  have F:=@d1;refine uT ?_;rfl
theorem zwn (H:AH):FnX lookM 145 [.int .i64 1] H (.bool true) H:=by
 refine fI Tryz.f145 ?_;exact vT0
theorem zca1 (s:ByteArray) (hs:s.size<=1000000) (H:AH):FnX lookM 156 [.str s] H (.bool (partB s || snapB s)) H:=by
 refine fI Tryz.f156 ?_;have h1:= @FnX.p _ _ _ _ (zvn s);have h2:= @FnX.p _ _ _ _ (zau s hs);cases ha:partB s with
 |true=>rw [ha] at h1;have F:=J2 @h1 @h2;refine uT ?_;rfl
 |false=>rw [ha] at h1;have F:=J2 @h1 @h2;refine uT ?_;rfl
theorem zln1 {H:AH}[hn:HN H]{v:AV}{l:List (AV×Rc)}{p:Rc->Bool}{g:Nat}{caps:List AV}(hsl:SlRc H v l) (hlen:l.length<=1000000)
  (hp:∀H1,HX H H1-> ∀(k:Nat) (r:AV×Rc),l[k]? =some r->FnE lookM g (.agg (rcL r)::caps) H1 fun r' H'=>r'= .bool (p r.2)/\HX H1 H') :
  FnE lookM 152 [v,.fn (.func g) [] caps] H fun r H'=>r= .bool (decide (upto (fun r=> !p r) (rcs l)<l.length))/\HX H H':=by
 refine fI Tryz.f152 ?_;refine uT0 ?_;refine cR_f (zbu hsl hlen hp) ?_;rintro r H2 ⟨rfl,hx⟩;by_cases h:upto (fun r=> !p r) (rcs l)<l.length
 ·have e:posI (upto (fun r=> !p r) (rcs l)) l.length=(upto (fun r=> !p r) (rcs l):Int):=by unfold posI;rw [qi h]
  have c:decide ((0:Int)<=(upto (fun r=> !p r) (rcs l):Int))=true:=by rw [qs];omega
  rw [e,qk h];have F:=@c;refine uT ?_;exact hx
 ·have e:posI (upto (fun r=> !p r) (rcs l)) l.length= -1:=by unfold posI;rw [qd h]
  rw [e,qq h];refine uT0 ?_;exact hx
abbrev tbL (nn:Int) (v lv:AV):List AV:= [.int .i64 nn,v,.int .i64 0,.int .i64 0,.int .i64 0,.int .i64 0,lv]
theorem tb_sb {nn:Int}{v lv:AV}{e z:Nat}{op ro:Bool}:sbB (some (.cells (.lst (tbL nn v lv)) e z op ro)) 0 7=some (tbA nn v lv):=zth rfl
theorem room_ok {H:AH}[hn:HN H]{it:Nat}{nn:Int}{v lv:AV}{l:List (AV×Rc)}{s:ByteArray}(hit:it<H.next)
  (hg:H.get it=some (.cells (.lst (tbL nn v lv)) 53 7 false false)) (hsl:SlRc H v l) (hlen:l.length<=1000000) :
  FnE lookM 146 [.ptr it 0,.str s] H fun r H'=>r= .int .i64 (roomE ⟨nn,rcs l⟩ s)/\HX H H':=by
 refine fI Tryz.f146 ?_;have t1:nth (tbL nn v lv) 1=some v:=rfl;have t0:nth (tbL nn v lv) 0=some (.int .i64 nn):=rfl;have hll:(rcs l).length=l.length:=by simp
 have F:=J2 @hg @tb_sb;refine uT ?_;refine cR_f (zzz hsl hlen) ?_;rintro r H2 ⟨rfl,hx⟩;have hg2:=(hx.get hit).trans hg;have hl:=fun H'=>ztc (H':=H') uRs hsl.is
 cases hh:hasB s (rcs l) with
 |true =>
  refine uT0 ?_;refine ⟨?_,hx⟩;unfold roomE;rw [qi hh]
 |false =>
  by_cases h1:(16:Int)<=(l.length:Int)
  ·have d1:decide ((16:Int)<=(l.length:Int))=true:=qk h1
   have F:=J5 @hg2 @t1 @t0 @hl @d1;refine uT ?_;refine ⟨?_,hx⟩;unfold roomE;rw [hh,qd dC,qi (.inl (by rw [hll];omega))]
  ·have d1:decide ((16:Int)<=(l.length:Int))=false:=qq h1
   by_cases h2:(2147483648:Int)<=nn
   ·have d2:decide ((2147483648:Int)<=nn)=true:=qk h2
    have F:=J6 @hg2 @t1 @t0 @hl @d1 @d2;refine uT ?_;refine ⟨?_,hx⟩;unfold roomE;rw [hh,qd dC,qi (.inr h2)]
   ·have d2:decide ((2147483648:Int)<=nn)=false:=qq h2
    have F:=J6 @hg2 @t1 @t0 @hl @d1 @d2;refine uT ?_;refine ⟨?_,hx⟩;unfold roomE;rw [hh,qd dC,qd (by rw [hll];rintro (h|h);omega;exact h2 h)]
theorem sz3:lookM.size 84=some 44:=kR
abbrev roA (a:AV):AV:=.agg (roL a)
theorem zsi {H:AH}{a:AV}{n:Nat}(h:IsSl H a n):a.oneCell=true:=by
 rcases h with ⟨rfl,_⟩|⟨i,o,c,op,rfl,_⟩<;>rfl
theorem zlw {H:AH}{a:AV}{n:Nat}(h:IsSl H a n):AV.toC (roA a)= .lst (roL a):=by
 rcases h with ⟨rfl,_⟩|⟨i,o,c,op,rfl,_⟩<;>rfl
theorem ro_0 (a:AV):nth (roL a) 0=some a:=rfl
theorem ro_1 (a:AV):nth (roL a) 1=some (.int .i64 0):=rfl
theorem ro_2 (a:AV):nth (roL a) 2=some (.int .i64 0):=rfl
theorem ro_sum (a:AV) (e z:Nat) (op ro:Bool):sbB (some (.cells (.lst (roL a)) e z op ro)) 3 32=some (.agg z32):=by rw [sbB_l];rfl
theorem zbf1 (a:AV) (e z:Nat) (op ro:Bool):sbB (some (.cells (.lst (roL a)) e z op ro)) 0 35=some (roA a):=zth rfl
theorem id0:zsa lookM 80 (zipF [] [])=some (.agg z32):=kR
theorem idq (xo yo:Operand):binF .eql (evBin lookM .eql 80 xo yo) (.agg z32) (.agg z32)=some (.bool true):=kR
theorem zda1 {H:AH}[hn:HN H]{a:AV}(ha:IsSl H a 0):FnE lookM 199 [roA a] H fun r H'=>r= .bool true/\HX H H':=by
 refine fI Tryz.f199 ?_;have hc:=zlw ha;have F:=J6 @hc @ro_1 @ro_2 @ro_sum @id0 @idq;refine uT ?_
 (exact fin0)
theorem hole_ok {H:AH}[hn:HN H]{a:AV}(ha:IsSl H a 0):FnE lookM 195 [roA a] H fun r H'=>r= .bool true/\HX H H':=by
 refine fI Tryz.f195 ?_;have hc:=zlw ha;have hl:=fun H'=>ztc (L:=lookM) (t:=78) (e:=161) (H':=H') kR ha
 have F:=J4 @hc @ro_0 @zbf1 @hl;refine uT ?_;refine cR_f (zda1 (ha.hx (HX.new _ _))) ?_;rintro r H2 ⟨rfl,hx⟩;refine uT0 ?_
 (exact fin0)
theorem zcf1 {H:AH}[hn:HN H]{a:AV}(ha:IsSl H a 0):FnE lookM 190 [roA a] H fun r H'=>r= .bool true/\HX H H':=by
 refine fI Tryz.f190 ?_;have hc:=zlw ha;have F:=J2 @hc @zbf1;refine uT ?_;refine cR_f (hole_ok (ha.hx (HX.new _ _))) ?_;rintro r H2 ⟨rfl,hx⟩;refine uT0 ?_
 (exact fin0)
theorem rc_0 (p:AV×Rc):nth (rcL p) 0=some (.int .i64 p.2.id):=rfl
theorem rc_2 (p:AV×Rc):nth (rcL p) 2=some (.int .i64 p.2.kd):=rfl
theorem rc_3 (p:AV×Rc):nth (rcL p) 3=some (.int .i64 p.2.sz):=rfl
theorem rc_4 (p:AV×Rc):nth (rcL p) 4=some p.1:=rfl
theorem rc_5 (p:AV×Rc):nth (rcL p) 5=some (.int .i64 0):=rfl
theorem rc_39 (p:AV×Rc):nth (rcL p) 39=some (.int .i64 p.2.md):=rfl
theorem rc_40 (p:AV×Rc):nth (rcL p) 40=some (.int .i64 p.2.ow):=rfl
theorem rc_41 (p:AV×Rc):nth (rcL p) 41=some (.int .i64 p.2.og):=rfl
theorem rc_42 (p:AV×Rc):nth (rcL p) 42=some (.int .i64 p.2.qu):=rfl
theorem rc_43 (p:AV×Rc):nth (rcL p) 43=some (.int .i64 p.2.rs):=rfl
theorem rc_ro (p:AV×Rc) (e z:Nat) (op ro:Bool):sbB (some (.cells (.lst (rcL p)) e z op ro)) 4 35=some (roA p.1):=by rw [sbB_l];rfl
theorem zud (p:AV×Rc) (e z:Nat) (op ro:Bool):sbB (some (.cells (.lst (rcL p)) e z op ro)) 0 44=some (.agg (rcL p)):=zth rfl
theorem wi_ok (n a b:Int){H:AH}{d:Nat}{k:K2}{s:List Kf}{T:Tr AV}{Q:PostC}:cR false lookM 177 [.int .i64 n,.int .i64 a,.int .i64 b] H d k s T Q=RK lookM k s (pS d (.bool (wi n a b)) T) H Q:=FnX.p (zaf1 n a b)
theorem zmn1 {H:AH}[hn:HN H]{p:AV×Rc}(ha:IsSl H p.1 0) (hs:p.2.nm.size<=1000000):FnE lookM 181 [.agg (rcL p)] H fun r H'=>r= .bool (aloneB p.2)/\HX H H':=by
 refine fI Tryz.f181 ?_;have hv:= @FnX.p _ _ _ _ (zvn p.2.nm);have hsn:= @FnX.p _ _ _ _ (zau p.2.nm hs);cases h1:wi p.2.id 1 2147483647 with
 |false=>have F:=J4 @zpa @rc_0 @wi_ok @h1;refine uT ?_;(have F:=J3 aloneB.eq_1 maxN.eq_1 @h1;exact fin)
 |true =>
 cases h2:wi p.2.sz 1 64 with
 |false=>have F:=J6 @zpa @rc_0 @rc_3 @wi_ok @h1 @h2;refine uT ?_;(have F:=J4 aloneB.eq_1 maxN.eq_1 @h1 @h2;exact fin)
 |true =>
 cases h3:wi p.2.md 1 2147483648 with
 |false=>have F:=J8 @zpa @rc_0 @rc_3 @rc_39 @wi_ok @h1 @h2 @h3;refine uT ?_;(have F:=J5 aloneB.eq_1 maxN.eq_1 @h1 @h2 @h3;exact fin)
 |true =>
 have F:=J9 @zpa @rc_0 @rc_3 @rc_39 @rc_ro @wi_ok @h1 @h2 @h3;refine uT ?_;refine cR_f (zcf1 (ha.hx (HX.new _ _))) ?_;rintro r H2 ⟨rfl,hx⟩;have hg:=(hx.get (i:=H.next) (qd1 _)).trans ((get_new _ _ _).trans (qi (show hEq _ _ from rfl)))
 by_cases k1:p.2.kd=1
 ·have d1:decide (p.2.kd=1)=true:=qk k1
  have ea:aloneB p.2=(partB p.2.nm && (decide (p.2.ow=0) && (wi p.2.og 0 2147483647 && (wi p.2.qu 0 64 && wi p.2.rs 0 64)))):=by
   unfold aloneB;simp only [maxN];rw [h1,h2,h3,qi k1];rfl
  rw [ea];cases a1:partB p.2.nm with
  |false=>have F:=J11 @hg @rc_1 @rc_2 @rc_40 @rc_41 @rc_42 @rc_43 @hv @wi_ok @d1 @a1;refine uT ?_;(have F:=@a1;exact fin)
  |true =>
  cases a2:decide (p.2.ow=0) with
  |false=>have F:=J12 @hg @rc_1 @rc_2 @rc_40 @rc_41 @rc_42 @rc_43 @hv @wi_ok @d1 @a1 @a2;refine uT ?_;(have F:=J2 @a1 @a2;exact fin)
  |true =>
  cases a3:wi p.2.og 0 2147483647 with
  |false=>have F:=J13 @hg @rc_1 @rc_2 @rc_40 @rc_41 @rc_42 @rc_43 @hv @wi_ok @d1 @a1 @a2 @a3;refine uT ?_;(have F:=J3 @a1 @a2 @a3;exact fin)
  |true =>
  cases a4:wi p.2.qu 0 64 with
  |false=>have F:=J14 @hg @rc_1 @rc_2 @rc_40 @rc_41 @rc_42 @rc_43 @hv @wi_ok @d1 @a1 @a2 @a3 @a4;refine uT ?_;(have F:=J4 @a1 @a2 @a3 @a4;exact fin)
  |true =>
  have F:=J14 @hg @rc_1 @rc_2 @rc_40 @rc_41 @rc_42 @rc_43 @hv @wi_ok @d1 @a1 @a2 @a3 @a4;refine uT ?_
  (have F:=J4 @a1 @a2 @a3 @a4;exact fin)
 ·have d1:decide (p.2.kd=1)=false:=qq k1
  by_cases k2:p.2.kd=2
  ·have d2:decide (p.2.kd=2)=true:=qk k2
   have ea:aloneB p.2=(snapB p.2.nm && (wi p.2.ow 1 2147483647 && (decide (p.2.og=0) && (decide (p.2.qu=0) && (decide (p.2.rs=0) && decide (0<=p.2.md)))))):=by
    unfold aloneB;simp only [maxN];rw [h1,h2,h3,qd k1,qi k2];rfl
   rw [ea];cases a1:snapB p.2.nm with
   |false=>have F:=J14 @hg @rc_1 @rc_2 @rc_5 @rc_39 @rc_40 @rc_41 @rc_42 @rc_43 @hsn @wi_ok @d1 @d2 @a1;refine uT ?_;(have F:=@a1;exact fin)
   |true =>
   cases a2:wi p.2.ow 1 2147483647 with
   |false=>have F:=J15 @hg @rc_1 @rc_2 @rc_5 @rc_39 @rc_40 @rc_41 @rc_42 @rc_43 @hsn @wi_ok @d1 @d2 @a1 @a2;refine uT ?_;(have F:=J2 @a1 @a2;exact fin)
   |true =>
   cases a3:decide (p.2.og=0) with
   |false=>have F:=J16 @hg @rc_1 @rc_2 @rc_5 @rc_39 @rc_40 @rc_41 @rc_42 @rc_43 @hsn @wi_ok @d1 @d2 @a1 @a2 @a3;refine uT ?_;(have F:=J3 @a1 @a2 @a3;exact fin)
   |true =>
   cases a4:decide (p.2.qu=0) with
   |false=>have F:=J16 @hg @rc_1 @rc_2 @rc_5 @rc_39 @rc_40 @rc_41 @rc_42 @rc_43 @hsn @wi_ok @d1 @d2 @a1 @a2 (J2 @a3 @a4);refine uT ?_;(have F:=J4 @a1 @a2 @a3 @a4;exact fin)
   |true =>
   cases a5:decide (p.2.rs=0) with
   |false=>have F:=J16 @hg @rc_1 @rc_2 @rc_5 @rc_39 @rc_40 @rc_41 @rc_42 @rc_43 @hsn @wi_ok @d1 @d2 @a1 @a2 (J3 @a3 @a4 @a5);refine uT ?_;(have F:=J5 @a1 @a2 @a3 @a4 @a5;exact fin)
   |true =>
   have F:=J16 @hg @rc_1 @rc_2 @rc_5 @rc_39 @rc_40 @rc_41 @rc_42 @rc_43 @hsn @wi_ok @d1 @d2 @a1 @a2 (J3 @a3 @a4 @a5);refine uT ?_
   (have F:=J5 @a1 @a2 @a3 @a4 @a5;exact fin)
  ·have d2:decide (p.2.kd=2)=false:=qq k2
   have ea:aloneB p.2=false:=by unfold aloneB;simp only [maxN];rw [h1,h2,h3,qd k1,qd k2];rfl
   rw [ea];have F:=J4 @hg @rc_2 @d1 @d2;refine uT ?_
   (exact fin0)
theorem uIs:lookM.under 35=some (.slice 3):=kR
abbrev Lv (H:AH) (lv:AV):Prop:=SlI H lv [0,0]
theorem lv_0 {H:AH}{lv:AV}(h:Lv H lv):ld1 (elA 1 lv 0) H=some (.int .i64 0):=h.el 0 (by show 0<2;omega)
theorem lv_1 {H:AH}{lv:AV}(h:Lv H lv):ld1 (elA 1 lv 1) H=some (.int .i64 0):=h.el 1 (by show 1<2;omega)
theorem znn1 {H H':AH}{lv:AV}(h:Lv H lv):fstO (zda .len lookM [35] [lv] H')=some (.int .i64 2):=ztc uIs h.is
theorem lv_i0 {H:AH}{lv:AV}(h:Lv H lv):ixS 1 lv (.int .i64 0)=some (elA 1 lv 0):=ix_el (z:=1) (k:=.i64) h.is (Int.le_refl 0) dC
theorem lv_i1 {H:AH}{lv:AV}(h:Lv H lv):ixS 1 lv (.int .i64 1)=some (elA 1 lv 1):=ix_el (z:=1) (k:=.i64) h.is dC dC
theorem chk1_ok (H:AH):FnX lookM 180 [.int .i64 0] H (.bool false) H:=by
 refine fI Tryz.f180 ?_;have e:wi 0 0 2147483647=true:=dC
 have F:=J2 @wi_ok @e;exact vT
theorem idxi_ok {H:AH}{lv:AV}(h:Lv H lv):FnX lookM 189 [lv,.fn (.func 180) [] []] H (.int .i64 (-1)) H:=by
 refine fI Tryz.f189 ?_;have hl:=fun H'=>znn1 (H':=H') h
 have hc:= @FnX.p _ _ _ _ chk1_ok;have i0:=lv_i0 h;have i1:=lv_i1 h;have e0:=lv_0 h;have e1:=lv_1 h;have F:=@hl;refine uT ?_;clear F;refine rc_l (fun n T H'=>H'=H/\gT T 0=lv/\gT T 1= .fn (.func 180) [] []/\gT T 7= .int .i64 2/\((n=2/\gT T 8= .int .i64 0)\/(n=1/\gT T 8= .int .i64 1)\/(n=0/\gT T 8= .int .i64 2))) 2 ?_ ?_
 ·exact ⟨rfl,by exact vT0,by exact vT0,by exact vT0,.inl ⟨rfl,by exact vT0⟩⟩
 ·rintro n T H' ⟨rfl,g0,g1,g7,⟨rfl,g8⟩|⟨rfl,g8⟩|⟨rfl,g8⟩⟩
  ·have F:=J7 @g0 @g1 @g7 @g8 @i0 @e0 @hc;refine uX ?_;clear F
   exact ⟨1,oM,.inr (.inl ⟨rfl,rfl⟩)⟩
  ·have F:=J7 @g0 @g1 @g7 @g8 @i1 @e1 @hc;refine uX ?_;clear F
   exact ⟨0,oM,.inr (.inr ⟨rfl,rfl⟩)⟩
  ·have F:=J4 @g0 @g1 @g7 @g8;exact vT
theorem zon1 {H:AH}{lv:AV}(h:Lv H lv):FnX lookM 179 [lv,.fn (.func 180) [] []] H (.bool false) H:=by
 refine fI Tryz.f179 ?_;have hc:= @FnX.c _ _ _ _ _ _ (idxi_ok h);have F:=@hc;exact vT
theorem zea1 (f:Rc->Bool) (l:List Rc):l.all f= !decide (upto f l<l.length):=by
 rw [qa3,qb1];constructor
 ·intro h
  have:¬upto f l<l.length:=fun hlt=>by
   have h1:=ztt f (qo hlt);rw [h _ (qk7 hlt)] at h1;cases h1
  simp [this]
 ·intro h x hx
  obtain ⟨i,hi⟩:=qy.1 hx;have h2:¬upto f l<l.length:=by simpa using h
  have:=(qp.1 hi).1;exact zst f oM hi
theorem zfa1 (p:Rc->Bool) (l:List Rc):l.any p=decide (upto (fun r=> !p r) l<l.length):=by
 have h1:=zea1 (fun r=> !p r) l
 have h2:l.any p= !(l.all fun r=> !p r):=by rw [List.not_all_eq_any_not];simp
 rw [h2,h1,Bool.not_not]
theorem zgj1 (n m:Nat):decide ((0:Int)<=posI n m)=decide (n<m):=by
 unfold posI;by_cases h:n<m
 ·rw [qi h,qk h,qs];omega
 ·rw [qd h,qq h];rfl
theorem zir {H:AH}{p:AV×Rc}{n:Nat}(h:IsSl H p.1 n):(rcL p).all AV.oneCell=true:=zbc p (zsi h)
theorem rel1_ok {H:AH}[hn:HN H](p:AV×Rc){b:Nat}{q:AV×Rc}(hb:b<H.next) (hg:H.get b=some (.cells (.lst (rcL q)) 84 44 false false)) :
  FnE lookM 191 [.agg (rcL p),.ptr b 0] H fun r H'=>r= .bool (decide (p.2.id=q.2.id))/\HX H H':=by
 refine fI Tryz.f191 ?_;have he:=hEq_f (oM:b≠H.next)
 have F:=J4 @zpa @rc_0 @hg @he;refine uT ?_;clear F
 (exact fin0)
theorem rel2_ok {H:AH}[hn:HN H](p:AV×Rc){b:Nat}{q:AV×Rc}(hb:b<H.next) (hg:H.get b=some (.cells (.lst (rcL q)) 84 44 false false)) :
  FnE lookM 192 [.agg (rcL p),.ptr b 0] H fun r H'=>r= .bool (decide (p.2.id=q.2.og) && decide (p.2.kd=2))/\HX H H':=by
 refine fI Tryz.f192 ?_;have he:=hEq_f (oM:b≠H.next)
 cases a1:decide (p.2.id=q.2.og) with
 |false=>have F:=J7 @zpa @rc_0 @rc_2 @rc_41 @hg @he @a1;refine uT ?_;clear F;(have F:=@a1;exact fin)
 |true =>
 have F:=J7 @zpa @rc_0 @rc_2 @rc_41 @hg @he @a1;refine uT ?_;clear F
 (have F:=@a1;exact fin)
theorem zti {l:List (AV×Rc)}{i:Nat}{p:AV×Rc}(h:l[i]? =some p):get (rcs l) i=p.2:=zbh (by rw [qh1,h];rfl)
theorem zjb (l:List (AV×Rc)):(rcs l).length=l.length:=by simp
theorem zga1 {H:AH}[hn:HN H]{nn:Int}{v lv:AV}{l:List (AV×Rc)}{i:Nat}(hsl:SlRc H v l) (hlv:Lv H lv) (hlen:l.length<=1000000) (hi:i<l.length) (hs:∀p,p∈l->p.2.nm.size<=1000000) :
  FnE lookM 182 [tbA nn v lv,.int .i64 (i:Int)] H fun r H'=>r= .bool (relB ⟨nn,rcs l⟩ i)/\HX H H':=by
 refine fI Tryz.f182 ?_;have hlo:=hn.lo;have hT:AV.toC (tbA nn v lv)= .lst (tbL nn v lv):=rfl;have t1:nth (tbL nn v lv) 1=some v:=rfl;have t0:nth (tbL nn v lv) 0=some (.int .i64 nn):=rfl;obtain ⟨p,hk⟩:∃p,l[i]? =some p:=⟨_,qo hi⟩
 have hmem:p∈l:=qy.2 ⟨i,hk⟩;have hix:=ix44 (z:=44) (q:=i) hsl.is hi;have hx1:HX H (H.new (.cells (.lst (tbL nn v lv)) 53 7 false false)):=HX.new _ _;have hld:=(hsl.hx hx1).agg hk;have hp1:=zir (hsl.holeAt hk);have hgp:=zti hk;obtain ⟨v',hpre,hsl'⟩:=hsl.pre uRs sz3 hi;have hne:=hEq_f (oM:H.next≠H.next+1)
 have ht:=hEq_t (rfl:H.next+1=H.next+1);have F:=J9 @hT @t1 @t0 @hix @hld @zpa @hpre @hne @ht;refine uT ?_;clear F;refine cR_at (fun H3=>HX H H3/\H3.next=H.next+2/\H3.get (H.next+1)=some (.cells (.lst (rcL p)) 84 44 false false)/\H3.get H.next=some (.cells (.lst (tbL nn v lv)) 53 7 false false)) ?_ ?_
 ·exact ⟨hxt,rfl,by rw [zia],by rw [zyb _ oM,zah _ (oM:H.next≠H.next+1),zaa]⟩
 rintro H3 ⟨hx3,hn3,hgx,hgt⟩;haveI:=hx3.hn;refine cR_f (zbu (p:=fun r=>decide (r.id=p.2.id)) (hsl'.hx hx3) (by rw [qa1];omega) fun H4 hx4 k r hr=> ?_) ?_
 ·haveI:=hx4.hn
  exact rel1_ok r (by have:=hx4.next;omega) ((hx4.get oM).trans hgx)
 rintro r1 H4 ⟨rfl,hx4⟩;haveI:=hx4.hn;have hg4x:=(hx4.get oM).trans hgx
 have hg4t:=(hx4.get oM).trans hgt
 have hx04:=hx3.trans hx4;have erel:relB ⟨nn,rcs l⟩ i=(!decide (upto (fun r=> !decide (r.id=p.2.id)) (rcs (l.take i))<(l.take i).length) && (decide (p.2.id<nn) && kinB (rcs l) p.2)):=by
  unfold relB;simp only [hgp];have e1:(rcs l).take i=rcs (l.take i):=by show (l.map _).take i=(l.take i).map _;rw [qk5]
  have e2:(fun y:Rc=>decide (y.id≠p.2.id))=fun r=> !decide (r.id=p.2.id):=by funext y;simp
  rw [e1,e2,zea1,zjb]
 rw [erel];have hpg:=zgj1 (upto (fun r=> !decide (r.id=p.2.id)) (rcs (l.take i))) (l.take i).length
 generalize posI (upto (fun r=> !decide (r.id=p.2.id)) (rcs (l.take i))) (l.take i).length=z at hpg ⊢
 rw [← hpg];clear erel hpg;cases a1:decide (0<=z) with
 |true=>have F:=@a1;refine uT ?_;clear F;(exact fin0)
 |false =>
 have elt:decide (nn<=p.2.id)= !decide (p.2.id<nn):=by rw [qa3];simp
 cases a2:decide (p.2.id<nn) with
 |false=>rw [a2] at elt;have F:=J6 @a1 @hg4x @hg4t @rc_0 @t0 @elt;refine uT ?_;clear F;(exact fin0)
 |true =>
 rw [a2] at elt;unfold kinB;by_cases k2:p.2.kd=2
 ·rw [qi k2]
  have d2:decide (p.2.kd=2)=true:=qk k2;have hsp:= @FnX.p _ _ _ _ (zhg p.2.nm (hs p hmem));have htb:∀e z op ro,sbB (some (.cells (.lst (tbL nn v lv)) e z op ro)) 0 7=some (tbA nn v lv):=fun e z op ro=>tb_sb
  have F:=J11 @a1 @hg4x @hg4t @rc_0 @rc_1 @rc_2 @t0 @elt @d2 @hsp @htb;refine uT ?_;clear F;refine cR_f (zzz (hsl.hx hx04) hlen) ?_;rintro r2 H5 ⟨rfl,hx5⟩;have hg5x:=(hx5.get (by have:=hx4.next;omega)).trans hg4x
  have hg5t:=(hx5.get (by have:=hx4.next;omega)).trans hg4t
  have hx05:=hx04.trans hx5;cases a3:hasB (splA p.2.nm) (rcs l) with
  |false=>refine uT0 ?_;(exact fin0)
  |true =>
   obtain ⟨m1,m2⟩:=zza a3;rw [zjb] at m1;obtain ⟨q,hq⟩:∃q,l[fndI (splA p.2.nm) (rcs l)]? =some q:=⟨_,qo m1⟩
   have hqx:=ix44 (z:=44) (q:=fndI (splA p.2.nm) (rcs l)) hsl.is m1;have hqf:=fa_el hsl.is m1 44 0;have hqd:=(hsl.hx hx05).fld hq (j:=0) (x:=.int .i64 q.2.id) rfl;have hqg:=zti hq;rw [hqg];have F:=J7 @hg5x @hg5t @t1 @rc_40 @hqx @hqf @hqd;refine uT ?_;clear F
   (exact fin0)
 ·rw [qd k2]
  have d2:decide (p.2.kd=2)=false:=qq k2;cases a3:decide (p.2.og=0) with
  |true=>have F:=J10 @a1 @hg4x @hg4t @rc_0 @rc_2 @rc_41 @t0 @elt @d2 @a3;refine uT ?_;clear F;(exact fin0)
  |false =>
   have F:=J11 @a1 @hg4x @hg4t @rc_0 @rc_2 @rc_41 @t0 @t1 @elt @d2 @a3;refine uT ?_;clear F;refine cR_f (zbu (p:=fun y=>decide (y.id=p.2.og) && decide (y.kd=2)) (hsl.hx hx04) hlen fun H5 hx5 k r hr=> ?_) ?_
   ·haveI:=hx5.hn
    exact rel2_ok r (by have:=hx4.next;have:=hx5.next;omega) ((hx5.get (by have:=hx4.next;omega)).trans hg4x)
   rintro r2 H5 ⟨rfl,hx5⟩;have hx05:=hx04.trans hx5;have hpg:=zgj1 (upto (fun y=> !(decide (y.id=p.2.og) && decide (y.kd=2))) (rcs l)) l.length
   rw [zfa1,zjb,← hpg];generalize posI (upto (fun y=> !(decide (y.id=p.2.og) && decide (y.kd=2))) (rcs l)) l.length=z2
   refine uT0 ?_
   (exact fin0)
abbrev cu0:List AV:= [.int .i64 0,.int .i64 0,.int .i64 0,.int .i64 0]
theorem cu_one:cu0.all AV.oneCell=true:=rfl
theorem tb_cu {nn:Int}{v lv:AV}(e z:Nat) (op ro:Bool):sbB (some (.cells (.lst (tbL nn v lv)) e z op ro)) 2 4=some (.agg cu0):=by rw [sbB_l];rfl
theorem cu_all (e z:Nat) (op ro:Bool):sbB (some (.cells (.lst cu0) e z op ro)) 0 4=some (.agg cu0):=zth rfl
theorem cu_bu:zsa lookM 51 (zipF [] [])=some (.agg cu0):=kR
theorem cu_q (xo yo:Operand):binF .eql (evBin lookM .eql 51 xo yo) (.agg cu0) (.agg cu0)=some (.bool true):=kR
theorem zba (nn:Int) (v lv:AV):AV.toC (tbA nn v lv)= .lst (tbL nn v lv):=rfl
theorem tb_0 (nn:Int) (v lv:AV):nth (tbL nn v lv) 0=some (.int .i64 nn):=rfl
theorem tb_1 (nn:Int) (v lv:AV):nth (tbL nn v lv) 1=some v:=rfl
theorem tb_6 (nn:Int) (v lv:AV):nth (tbL nn v lv) 6=some lv:=rfl
theorem zea (nn:Int) (v lv:AV) (e z:Nat) (op ro:Bool):sbB (some (.cells (.lst (tbL nn v lv)) e z op ro)) 0 7=some (tbA nn v lv):=tb_sb
theorem zmw {H:AH}[hn:HN H]{nn:Int}{v lv:AV}:FnE lookM 178 [tbA nn v lv] H fun r H'=>r= .bool true/\HX H H':=by
 refine fI Tryz.f178 ?_;have hlo:=hn.lo;have h1:=cu_one;have hne:=hEq_f (oM:H.next≠H.next+1)
 have F:=J6 @zba @tb_cu @cu_all @cu_bu @cu_q @hne;refine uT ?_
 (exact fin0)
theorem chk_f1 {t:Tb}{q:Nat}(hq:q<t.rs.length) (h:(aloneB (get t.rs q) && ordB t.rs q)=false):zvb t=false:=by
 rw [qf3];intro hc;have hk:=checkB_ok.1 hc;rw [hk.alone q hq,hk.ord q hq] at h;cases h
theorem chk_f2 {t:Tb}{q:Nat}(hq:q<t.rs.length) (h:relB t q=false):zvb t=false:=by
 rw [qf3];intro hc;rw [(checkB_ok.1 hc).rel q hq] at h;cases h
theorem chk_t {t:Tb}(h0:headB t=true) (h1:∀q,q<t.rs.length->(aloneB (get t.rs q) && ordB t.rs q)=true) (h2:∀q,q<t.rs.length->relB t q=true):zvb t=true:=by
 unfold headB wi at h0;simp only [qm,qs] at h0 h1;exact checkB_ok.2 ⟨⟨h0.1.1,h0.1.2⟩,h0.2,fun i hi=>(h1 i hi).1,fun i hi=>(h1 i hi).2,h2⟩
theorem chk_h {t:Tb}(h:headB t=false):zvb t=false:=by unfold zvb;rw [h];rfl
def chkI (t:Tb):Int:=if zvb t then 0 else 2
theorem zpn1 {H:AH}[hn:HN H]{nn:Int}{v lv:AV}{l:List (AV×Rc)}(hsl:SlRc H v l) (hlv:Lv H lv) (hlen:l.length<=1000000) (hs:∀p,p∈l->p.2.nm.size<=1000000) :
  FnE lookM 167 [tbA nn v lv] H fun r H'=>r= .int .i64 (chkI ⟨nn,rcs l⟩)/\HX H H':=by
 refine fI Tryz.f167 ?_;have hlo:=hn.lo;have hl:=fun H'=>ztc (H':=H') uRs hsl.is
 have hll:=fun H'=>znn1 (H':=H') hlv
 have hw2:wi 2 2 8=true:=dC
 have hhd:headB ⟨nn,rcs l⟩=(wi nn 1 2147483648 && !decide (16<(l.length:Int))):=by
  unfold headB;simp only [zjb];congr 1;rw [qa3];simp;omega
 cases a1:wi nn 1 2147483648 with
 |false =>
  have hc:chkI ⟨nn,rcs l⟩=2:=by unfold chkI;rw [chk_h (by rw [hhd,a1];rfl)];rfl
  rw [hc];have F:=J4 @zba @tb_0 @wi_ok @a1;refine uT ?_;(exact fin0)
 |true =>
 by_cases a2:(16:Int)<(l.length:Int)
 ·have hc:chkI ⟨nn,rcs l⟩=2:=by unfold chkI;rw [chk_h (by rw [hhd,qk a2];simp)];rfl
  rw [hc];have d2:decide ((16:Int)<(l.length:Int))=true:=qk a2;have F:=J7 @zba @tb_0 @tb_1 @hl @wi_ok @a1 @d2;refine uT ?_;(exact fin0)
 have d2:decide ((16:Int)<(l.length:Int))=false:=qq a2;have hh:headB ⟨nn,rcs l⟩=true:=by rw [hhd,a1,d2];rfl
 have F:=J11 @zba @tb_0 @tb_1 @tb_6 @zea @hl @hll @wi_ok @a1 @d2 @hw2;refine uT ?_;refine cR_f zmw ?_;rintro r1 H1 ⟨rfl,hx1⟩;have hg1:=(hx1.get (i:=H.next) (qd1 _)).trans (zaa _);have hx01:=(HX.new H (.cells (.lst (tbL nn v lv)) 53 7 false false)).trans hx1;have hn1:H.next+1<=H1.next:=hx1.next;haveI:=hx01.hn;have hci:= @FnX.c _ _ _ _ _ _ (zon1 (hlv.hx hx01));have F:=J5 @hg1 @tb_1 @tb_6 @hci @hl;refine uT ?_;refine rc_l (fun n T H'=> ∃q,n+q=l.length/\HX H1 H'/\gT T 1= .ptr H.next 0/\gT T 32=v/\gT T 33= .int .i64 l.length/\gT T 34= .int .i64 q/\(∀j,j<q->(aloneB (get (rcs l) j) && ordB (rcs l) j)=true)) l.length ?_ ?_
 ·exact ⟨0,rfl,HX.refl _,by exact vT0,by exact vT0,by exact vT0,by refine uT0 ?_;rfl,fun j h=>absurd h (qe4 _)⟩
 rintro n T H2 ⟨q,hnq,hx2,g1,g32,g33,g34,hall⟩;have hx02:=hx01.trans hx2;have hg2:=(hx2.get oM).trans hg1
 haveI:=hx02.hn;have hlo2:=(HN.lo:H2.lo<=H2.next);have hn2:=hx2.next;cases n with
 |zero =>
  have hall':∀j,j<l.length->(aloneB (get (rcs l) j) && ordB (rcs l) j)=true:=fun j hj=>hall j oM
  have hge:=hEq_f (oM:H.next≠H2.next)
  have F:=J7 @g1 @g32 @g33 @g34 @hg2 @tb_1 @hl;refine uT ?_;refine rc_l (fun n T H'=> ∃q,n+q=l.length/\HX H2 H'/\gT T 1= .ptr H.next 0/\gT T 62= .int .i64 l.length/\gT T 63= .int .i64 q/\(∀j,j<q->relB ⟨nn,rcs l⟩ j=true)) l.length ?_ ?_
  ·exact ⟨0,rfl,HX.refl _,by have F:=@g1;exact vT,by exact vT0,by refine uT0 ?_;rfl,fun j h=>absurd h (qe4 _)⟩
  rintro n T H3 ⟨q,hnq,hx3,g1,g62,g63,hall3⟩;have hx03:=hx02.trans hx3;have hg3:=(hx3.get oM).trans hg2
  haveI:=hx03.hn;cases n with
  |zero =>
   have hc:chkI ⟨nn,rcs l⟩=0:=by
    unfold chkI;rw [chk_t hh (fun j hj=>hall' j (by rwa [zjb] at hj)) (fun j hj=>hall3 j (by rw [zjb] at hj;omega))];rfl
   rw [hc];have F:=J3 @g1 @g62 @g63;refine uT ?_
   (exact fin0)
  |succ n =>
   have hq:q<l.length:=oM
   have F:=J5 @g1 @g62 @g63 @hg3 @zea;refine uT ?_;refine cR_f (zga1 (hsl.hx hx03) (hlv.hx hx03) hlen hq hs) ?_;rintro r4 H4 ⟨rfl,hx4⟩;cases a3:relB ⟨nn,rcs l⟩ q with
   |false =>
    have hc:chkI ⟨nn,rcs l⟩=2:=by unfold chkI;rw [chk_f2 (by rw [zjb];exact hq) a3];rfl
    rw [hc];refine uT0 ?_;exact hx03.trans hx4
   |true =>
    have F:=J3 @g1 @g62 @g63;refine uT ?_;refine ⟨n,oM,q+1,oM,hx3.trans hx4,by push_cast;rfl,fun j hj=> ?_⟩
    rcases qi2 j q with h|h
    ·exact hall3 j h
    ·have:j=q:=oM
     subst this;exact a3
 |succ n =>
  have hq:q<l.length:=oM
  obtain ⟨p,hk⟩:∃p,l[q]? =some p:=⟨_,qo hq⟩
  have hmem:p∈l:=qy.2 ⟨q,hk⟩;have hix:=ix44 (z:=44) (q:=q) hsl.is hq;have hld:=(hsl.hx hx02).agg hk;have hp1:=zir (hsl.holeAt hk);have hgp:=zti hk;have hgo:=hall;have F:=J8 @g1 @g32 @g33 @g34 @hix @hld @zpa @zud;refine uT ?_;refine cR_at (fun H3=>HX H2 H3/\H3.next=H2.next+1/\H3.get H2.next=some (.cells (.lst (rcL p)) 84 44 false false)) ?_ ?_
  ·exact ⟨hxt,rfl,by rw [zia]⟩
  rintro H3 ⟨hx3,hn3,hg3x⟩;have hx03:=hx02.trans hx3;haveI:=hx03.hn;refine cR_f (zmn1 ((hsl.hx hx03).holeAt hk) (hs p hmem)) ?_;rintro r4 H4 ⟨rfl,hx4⟩;have hx04:=hx03.trans hx4;have hx14:=(hx2.trans hx3).trans hx4;have hn4:=hx4.next;have hg4:=((hx3.trans hx4).get oM).trans hg2
  have hg4x:=(hx4.get oM).trans hg3x
  haveI:=hx04.hn;have next:∀{H5:AH},HX H1 H5->aloneB p.2=true->ordB (rcs l) q=true-> ∃n',n'<n+1/\ ∃q',n'+q'=l.length/\HX H1 H5/\AV.int .i64 ((q:Int)+1)= .int .i64 (q':Int)/\(∀j,j<q'->(aloneB (get (rcs l) j) && ordB (rcs l) j)=true):=by
   intro H5 hx5 e1 e2;refine ⟨n,oM,q+1,oM,hx5,by push_cast;rfl,fun j hj=> ?_⟩
   rcases qi2 j q with h|h
   ·exact hall j h
   ·have:j=q:=oM
    subst this;rw [hgp,e1,e2];rfl
  cases a3:aloneB p.2 with
  |false =>
   have hc:chkI ⟨nn,rcs l⟩=2:=by unfold chkI;rw [chk_f1 (q:=q) (by rw [zjb];exact hq) (by show (aloneB (get (rcs l) q) && _)=false;rw [hgp,a3];rfl)];rfl
   rw [hc];have F:=J6 @g1 @g32 @g33 @g34 @hg4 @hg4x;refine uT ?_;exact hx04
  |true =>
  rcases qh3 q with h0|h0
  ·subst h0
   have e0:decide ((0:Int)<((0:Nat):Int))=false:=rfl;have F:=J7 @g1 @g32 @g33 @g34 @hg4 @hg4x @e0;refine uT ?_;exact next hx14 a3 rfl
  ·obtain ⟨m,rfl⟩:∃m,q=m+1:=⟨q - 1,oM⟩
   have e0:decide ((0:Int)<((m+1:Nat):Int))=true:=qk oM
   have e1:((m+1:Nat):Int) - 1=(m:Int):=oM
   have hm:m<l.length:=oM
   obtain ⟨p',hk'⟩:∃p,l[m]? =some p:=⟨_,qo hm⟩
   have hmem':p'∈l:=qy.2 ⟨m,hk'⟩;have hix':=ix44 (z:=44) (q:=m) hsl.is hm;have hqf:=fa_el hsl.is hm 44 1;have hqd:=(hsl.hx hx04).fld hk' (j:=1) (x:=.str p'.2.nm) rfl;have eo:ordB (rcs l) (m+1)=lessB p'.2.nm p.2.nm:=by
    unfold ordB;rw [qc6,zti hk',hgp];simp
   have F:=J13 @g1 @g32 @g33 @g34 @hg4 @hg4x @e0 @e1 @tb_1 @rc_1 @hix' @hqf @hqd;refine uT ?_;refine cR_f (zyz _ _ (hs p' hmem') (hs p hmem) _) ?_;rintro r5 H5 ⟨rfl,hx5⟩;cases a4:lessB p'.2.nm p.2.nm with
   |false =>
    have hc:chkI ⟨nn,rcs l⟩=2:=by unfold chkI;rw [chk_f1 (q:=m+1) (by rw [zjb];exact hq) (by show (aloneB (get (rcs l) (m+1)) && ordB (rcs l) (m+1))=false;rw [eo,a4,qr3])];rfl
    rw [hc];have F:=J4 @g1 @g32 @g33 @g34;refine uT ?_;exact hx04.trans hx5
   |true =>
    have F:=J4 @g1 @g32 @g33 @g34;refine uT ?_;exact next (hx14.trans hx5) a3 (by rw [eo,a4])
def znc:Code:=bodyN lookM 175
def f175c:C2:=(.seq (.reg (m_ (.con .nilSl) 6<| .done))
 (.seq (.reg (m_ (tO 0) 10<|m_ (tO 1) 11<|ls_ (fun xs _=>zua lookM 49 true false false xs) [(tO 10),(tO 11)] (opN znc 1 2) 12<| .done))
 (.seq (.reg (m_ (tO 2) 13<|le_ lookM 49 (tO 13) 14<|m_ (tO 14) 7<| .done))
 (.seq (.seq (.reg (m_ (tO 7) 15<|b_ lookM .eql 3 (.tmp 15) (.const (.int .i64 (0))) 16<| .done))
 (.cond (tO 16) (.seq (.reg (m_ (tO 0) 17<|m_ (tO 17) 6<| .done))
 .ret) .skip))
 (.seq (.reg (m_ (tO 0) 18<|le_ lookM 49 (tO 18) 19<|m_ (tO 19) 8<| .done))
 (.seq (.seq (.reg (m_ (tO 1) 20<|m_ (tO 8) 21<|b_ lookM .eql 3 (.tmp 20) (.tmp 21) 22<| .done))
 (.cond (tO 22) (.seq (.reg (m_ (tO 0) 23<|m_ (tO 2) 24<|hn_ false (appX 84 44 152) [(tO 23),(tO 24)] 25<|m_ (tO 25) 6<| .done))
 .ret) .skip))
 (.seq (.seq (.reg (m_ (tO 8) 26<|m_ (tO 7) 27<|b_ lookM .add 3 (.tmp 26) (.tmp 27) 28<|m_ (tO 0) 29<|n_ (fun xs H=>fstO (zda .cap lookM [49] xs H)) [(tO 29)] 30<|b_ lookM .gtr 3 (.tmp 28) (.tmp 30) 31<| .done))
 (.cond (tO 31) (.seq (.reg (m_ (tO 0) 32<|m_ (tO 1) 33<|ls_ (fun xs _=>zua lookM 49 false true false xs) [(tO 32),(tO 33)] (opN znc 9 2) 34<|m_ (tO 8) 35<|m_ (tO 7) 36<|b_ lookM .add 3 (.tmp 35) (.tmp 36) 37<|m_ (tO 1) 38<|b_ lookM .sub 3 (.tmp 37) (.tmp 38) 39<|hn_ false (zda .append lookM [49,3]) [(tO 34),(tO 39)] 40<|m_ (tO 40) 9<| .done))
 (.seq (.reg (m_ (tO 9) 41<|m_ (tO 1) 42<|ls_ (fun xs _=>zua lookM 49 true false false xs) [(tO 41),(tO 42)] (opN znc 10 2) 43<|m_ (tO 2) 44<|hn_ false (zda .copy lookM [49,49]) [(tO 43),(tO 44)] 45<| .done))
 (.seq (.reg (m_ (tO 9) 46<|m_ (tO 1) 47<|m_ (tO 7) 48<|b_ lookM .add 3 (.tmp 47) (.tmp 48) 49<|n_ (fun xs _=>zua lookM 49 true false false xs) [(tO 46),(tO 49)] 50<|m_ (tO 0) 51<|m_ (tO 1) 52<|n_ (fun xs _=>zua lookM 49 true false false xs) [(tO 51),(tO 52)] 53<|hn_ false (zda .copy lookM [49,49]) [(tO 50),(tO 53)] 54<| .done))
 (.seq (.reg (m_ (tO 9) 55<|m_ (tO 55) 6<| .done))
 .ret)))) .skip))
 (.seq (.reg (m_ (tO 0) 56<|m_ (tO 8) 57<|m_ (tO 7) 58<|b_ lookM .add 3 (.tmp 57) (.tmp 58) 59<|ls_ (fun xs _=>zua lookM 49 false true false xs) [(tO 56),(tO 59)] (opN znc 13 4) 60<|m_ (tO 60) 0<| .done))
 (.seq (.seq (.reg (m_ (tO 2) 61<|m_ (tO 0) 62<|m_ (tO 1) 63<|m_ (tO 7) 64<|b_ lookM .add 3 (.tmp 63) (.tmp 64) 65<|ls_ (fun xs _=>zua lookM 49 true false false xs) [(tO 62),(tO 65)] (opN znc 14 5) 66<|cl_ false 187 [(tO 61),(tO 66)] 67<|nt_ (tO 67) 68<| .done))
 (.cond (tO 68) (.seq (.reg (m_ (tO 0) 69<|m_ (tO 1) 70<|m_ (tO 7) 71<|b_ lookM .add 3 (.tmp 70) (.tmp 71) 72<|n_ (fun xs _=>zua lookM 49 true false false xs) [(tO 69),(tO 72)] 73<|m_ (tO 0) 74<|m_ (tO 1) 75<|n_ (fun xs _=>zua lookM 49 true false false xs) [(tO 74),(tO 75)] 76<|hn_ false (zda .copy lookM [49,49]) [(tO 73),(tO 76)] 77<| .done))
 (.seq (.reg (m_ (tO 0) 78<|m_ (tO 1) 79<|ls_ (fun xs _=>zua lookM 49 true false false xs) [(tO 78),(tO 79)] (opN znc 16 2) 80<|m_ (tO 2) 81<|hn_ false (zda .copy lookM [49,49]) [(tO 80),(tO 81)] 82<| .done))
 (.seq (.reg (m_ (tO 0) 83<|m_ (tO 83) 6<| .done))
 .ret))) .skip))
 (.seq (.reg (m_ (tO 0) 84<|m_ (tO 8) 85<|ls_ (fun xs _=>zua lookM 49 true false false xs) [(tO 84),(tO 85)] (opN znc 18 2) 86<|m_ (tO 2) 87<|hn_ false (zda .copy lookM [49,49]) [(tO 86),(tO 87)] 88<| .done))
 (.seq (.reg (m_ (tO 0) 89<|m_ (tO 1) 90<|ls_ (fun xs _=>zua lookM 49 true false false xs) [(tO 89),(tO 90)] (opN znc 19 2) 91<|m_ (tO 7) 92<|cl_ false 188 [(tO 91),(tO 92)] 93<| .done))
 (.seq (.reg (m_ (tO 0) 94<|m_ (tO 94) 6<| .done))
 .ret))))))))))))
theorem zwt:fnF lookM 175=some ⟨95,f175c, [.tmp 6]⟩:=kR
end HS
namespace Go.Ev
open HS.Md
def OwnS (H:AH) (s:AV) (n e z:Nat) (cs:List AV) (N:Nat):Prop:=cs.length=n*z/\((s= .nilSl/\n=0)\/ ∃j op,s= .sl j 0 n n op/\Row H j false op e z cs/\N<=j/\j<H.next/\(n≠0->op=true))
theorem OwnS.nil (H:AH) (e z N:Nat):OwnS H .nilSl 0 e z [] N:=⟨by simp,.inl ⟨rfl,rfl⟩⟩
theorem OwnS.slZ {H:AH}{s:AV}{n e z N:Nat}{cs:List AV}(h:OwnS H s n e z cs N):SlZ H s n z cs:=by
 obtain ⟨h0,h|⟨j,op,rfl,hr,hN,hj,_⟩⟩:=h
 ·exact ⟨h0,.inl h⟩
 ·exact hr.slZ hj h0
theorem OwnS.hx {H H':AH}{s:AV}{n e z N:Nat}{cs:List AV}(h:OwnS H s n e z cs N) (hx:HX H H'):OwnS H' s n e z cs N:=by
 obtain ⟨h0,h|⟨j,op,rfl,hr,hN,hj,ho⟩⟩:=h
 ·exact ⟨h0,.inl h⟩
 ·exact ⟨h0,.inr ⟨j,op,rfl,hr.hx hx hj,hN,qz hj hx.next,ho⟩⟩
theorem OwnS.hq {H H':AH}{s:AV}{n e z N:Nat}{cs:List AV}(h:OwnS H s n e z cs N){p:Nat->Prop}(hx:HP p H H') (hb:∀j o n c op,s= .sl j o n c op->p j):OwnS H' s n e z cs N:=by
 obtain ⟨h0,h|⟨j,op,rfl,hr,hN,hj,ho⟩⟩:=h
 ·exact ⟨h0,.inl h⟩
 ·exact ⟨h0,.inr ⟨j,op,rfl,hr.hp hx hj (hb _ _ _ _ _ rfl),hN,qz hj hx.next,ho⟩⟩
theorem OwnS.le {H:AH}{s:AV}{n e z N M:Nat}{cs:List AV}(h:OwnS H s n e z cs N) (hm:M<=N):OwnS H s n e z cs M:=by
 obtain ⟨h0,h|⟨j,op,rfl,hr,hN,hj,ho⟩⟩:=h
 ·exact ⟨h0,.inl h⟩
 ·exact ⟨h0,.inr ⟨j,op,rfl,hr,oM,hj,ho⟩⟩
theorem bs0_q {s e:Nat}{z:AV}{H:AH}:bsF s 0 z e (zipF [] []) H=some (.sl H.next 0 0 0 false,H.new (.cells (Ce.of []) e s false false)):=zzi (.cells (Ce.of []) e s false false) (fun m H'=>some (.sl m 0 0 0 false,H')) H
theorem OwnS.bs0 {H:AH}[hn:HN H]{e z:Nat}:OwnS (H.new (.cells (Ce.of []) e z false false)) (.sl H.next 0 0 0 false) 0 e z [] H.next :=
 ⟨by simp,.inr ⟨H.next,false,rfl,by have:=Row.new hn.hide (Ce.of []) e z false false;rwa [Ce.of_l] at this,qn _,qd1 _,fun h=>absurd rfl h⟩⟩
theorem bs1_q {s e:Nat}{z v:AV}{c:Ce}{H:AH}(hz:z.cells.length=s) (hv:v.cells.length=s) (hc:Ce.of v.cells=c):bsF s 1 z e (zipF [0] [v]) H=some (.sl H.next 0 1 1 false,H.new (.cells c e s false false)):=by
 subst hc;have hf:fillL (fun i=>some (Nat.mul i s,s)) (zipF [0] [v]) (rep z.cells 1)=some v.cells:=by
  show (match Nat.beq (len v.cells) s with
   |false=>none
   |true=>match zod v.cells (rep z.cells 1) (Nat.mul 0 s) with
    |none=>none
    |some cs'=>some cs')=_
  rw [zxe,hv,show Nat.beq s s=true from qt2 s]
  have:zod v.cells (rep z.cells 1) (Nat.mul 0 s)=some v.cells:=(zcc _ _ _ _).2 ⟨by rw [zqd,hz,hv];simp,by
   rw [show Nat.mul 0 s=0 from qy4 s,hv]
   rw [ql4 (by rw [zqd,hz];omega)];simp⟩
  rw [this]
 unfold bsF;rw [hf];exact zzi (.cells (Ce.of v.cells) e s false false) (fun m H'=>some (.sl m 0 1 1 false,H')) H
theorem zxn {e z b n:Nat}{s x:AV}{new:Ce}{H:AH}(hx:lenOf x=some n) (hsrc:zib z x n H=some new) (h1:new.one=true):appX e z b [s,x] H=appS e z b n new s H:=by
 show orec none (fun n=>orec none (fun new=>brec none (appS e z b n new s H) new.one) (srcF z x n H)) (lenOf x)=_
 rw [hx];show orec none (fun new=>brec none (appS e z b n new s H) new.one) (srcF z x n H)=_
 rw [zls,hsrc];show brec none (appS e z b n new s H) new.one=_
 rw [h1];rfl
theorem OwnS.app {e z b:Nat}{H:AH}[hn:HN H]{s x:AV}{n m N:Nat}{cs cx:List AV}(h:OwnS H s n e z cs N) (hx:SlZ H x m z cx) (h1:cx.all AV.oneCell=true)
  (hb:(n+m)*b<=140737488355328) (hm:n+m<=9223372036854775807) (hlo:H.lo<=N) (hN:N<=H.next) :
  ∃s' H',appX e z b [s,x] H=some (s',H')/\OwnS H' s' (n+m) e z (cs ++ cx) N/\HP (blkNe s) H H'/\H'.next<=H.next+1/\(∀j,j<H.next->blkNe s j->blkNe s' j):=by
 obtain ⟨new,hsrc,hnl⟩:=hx.src;have hlen:=hx.is.lenOf;have hone:=zdg (c:=new) (by rw [hnl];exact h1)
 have hxl:=hx.len;obtain ⟨h0,hs⟩:=h;rcases qh3 m with hm0|hm0
 ·subst hm0
  have hcx:cx= []:=qk1 (by rw [hxl,qy4])
  subst hcx;rw [qw1,qx4];rcases hs with ⟨rfl,rfl⟩|⟨j,op,rfl,⟨cc,hg,rfl⟩,hNj,hj,ho⟩
  ·exact ⟨.nilSl,H,by rw [zxn hlen hsrc hone];rfl,⟨h0,.inl ⟨rfl,rfl⟩⟩,HP.refl _ _,qy3 _,fun j _ h=>h⟩
  ·obtain ⟨c',h3,h4⟩:=Ce.over_ex (x:=new) (c:=cc) (o:=0+n*z) (by rw [hnl];show 0+n*z+0<=_;omega)
   rw [hnl] at h4;have h5:c'.l=cc.l:=by rw [h4,qw1];exact qo4 _ _
   refine ⟨.sl j 0 n n op,H.put j (.cells c' e z op false),?_,⟨h0,.inr ⟨j,op,rfl,⟨c',AH.get_put hn.hide _ _,h5⟩,hNj,hj,ho⟩⟩,(HP.put H j _).mono (fun i hi hb=> ?_),qy3 _,fun i _ h=>h⟩
   ·rw [zxn hlen hsrc hone]
    show brec _ (orec none (fun H'=>some (AV.sl j 0 (Nat.add n 0) n op,H')) (zpe H j (Nat.add 0 (Nat.mul n z)) new)) (Nat.ble (Nat.add n 0) n)=_
    rw [show Nat.ble (Nat.add n 0) n=true from qe (qn n),zad]
    unfold AH.writeC;rw [show Nat.ble H.lo j=true from qe oM,hg]
    have h3':Ce.over new cc (Nat.add 0 (Nat.mul n z))=some c':=h3;simp only [hone,h3'];rfl
   ·intro e;subst e;exact hb 0 n n op rfl
 ·rcases hs with ⟨rfl,rfl⟩|⟨j,op,rfl,hr,hNj,hj,ho⟩
  ·obtain ⟨s',H',a1,a2,a3,a4,a5⟩:=Ap.app (s:=.nilSl) (n:=0) (l:= []) ⟨by simp,.inl ⟨rfl,rfl⟩⟩ hlen hsrc hone (by rw [hnl,hxl]) hm0 (b:=b) (e:=e) hb hm hn.hide hlo hN
   have hc0:cs= []:=qk1 (by rw [h0,qy4])
   subst hc0;rw [hnl] at a2;obtain ⟨b0,⟨rfl,b1⟩|⟨i,rfl,b1,b2,b3⟩⟩:=a2
   ·omega
   ·exact ⟨_,H',a1,⟨b0,.inr ⟨i,true,rfl,b1,b2,b3,fun _=>rfl⟩⟩,a3,oM,fun k hk _=>a5 k hk⟩
  ·cases op with
   |true =>
    obtain ⟨s',H',a1,a2,a3,a4,a5⟩:=Ap.app (s:=.sl j 0 n n true) (n:=n) (l:=cs) ⟨h0,.inr ⟨j,rfl,hr,hNj,hj⟩⟩ hlen hsrc hone (by rw [hnl,hxl]) hm0 (b:=b) (e:=e) hb hm hn.hide hlo hN
    rw [hnl] at a2;obtain ⟨b0,⟨rfl,b1⟩|⟨i,rfl,b1,b2,b3⟩⟩:=a2
    ·omega
    ·exact ⟨_,H',a1,⟨b0,.inr ⟨i,true,rfl,b1,b2,b3,fun _=>rfl⟩⟩,a3,oM,fun k hk _=>a5 k hk⟩
   |false =>
    have hn0:n=0:=by
     rcases qh3 n with h|h
     ·exact h
     ·exact absurd (ho oM) dC
    subst hn0;have hc0:cs= []:=qk1 (by rw [h0,qy4])
    subst hc0;obtain ⟨H',a1,a2,a3,a4⟩:=zmt (b:=b) (e:=e) (z:=z) (i:=j) (o:=0) (l:=0) (c:=0) hlen hsrc hone hr (by simp) oM hb hm hn.hide
    refine ⟨_,H',a1,⟨by rw [qm1,hxl,qy1],.inr ⟨H.next,true,rfl,?_,hN,oM,fun _=>rfl⟩⟩,a2.hp _,oM,fun k hk _=>zga oM⟩
    rw [hnl] at a4
    simpa using a4
theorem zdf1 {L:Lk}{H:AH}{f:FuncId}{args:List AV}{nt:Nat}{c:C2}{rs:List ResultVar}{R:AV->AH->Prop}
  (hf:fnF L f=some ⟨nt,c,rs⟩) (hx:extS L f args H=none) (hn:Nat.ble (len args) nt=true) (h:RC L c [] (zwb args 0 .nil) H (FnQ L rs R)) (hd:L.dfn f=false:=by rfl):FnE L f args H R:=by
 obtain ⟨o,⟨hex,v,hv,hR⟩,n,hm⟩:=h.h;obtain ⟨ex,T1,H1⟩:=o;simp only at hex hv hR;refine ⟨v,H1,hR,n+1,fun m hmn=> ?_⟩
 obtain ⟨m,rfl⟩:∃m',m=m'+1:=⟨m - 1,oM⟩
 have hm:=hm m oM
 show callS L (evF L m) f args H=_
 unfold callS;rw [hx];show bodyS L (evF L m) f args H=_
 unfold bodyS;rw [hd];show callF L (evF L m) f args H=_
 have hcode:∃fn body,L.func f=some fn/\fn.body=some body/\c=comp L body:=by
  unfold fnF at hf;cases h1:L.func f with
  |none=>rw [h1] at hf;cases hf
  |some fn =>
   rw [h1] at hf;simp only at hf;cases h2:fn.body with
   |none=>rw [h2] at hf;cases hf
   |some b=>rw [h2] at hf;cases hf;exact ⟨fn,b,rfl,h2,rfl⟩
 obtain ⟨fn,body,_,_,rfl⟩:=hcode;unfold callF;rw [hf];show brec none (evC L (evF L m) (comp L body) (fun ex T H=>exRec (fin2 L rs T H) (fun _=>none) (fin2 L rs T H) (fun _=>none) ex) (zwb args 0 .nil) H) (Nat.ble (len args) nt)=_
 rw [hn];simp only [zhm];have h0:evC L (evF L m) (comp L body) (fun ex T H=>some ⟨ex,T,H⟩) (zwb args 0 .nil) H=some ⟨ex,T1,H1⟩:=hm
 rw [zyq] at h0 ⊢
 cases he:zzb L (evF L m) body (zwb args 0 .nil) H with
 |none=>rw [he] at h0;cases h0
 |some o =>
  rw [he] at h0;obtain ⟨ex',T',H'⟩:=o;simp only [qe2,Out.mk.injEq] at h0;obtain ⟨rfl,rfl,rfl⟩:=h0;have hfin:fin2 L rs T' H'=some (out1 v H'):=by
   unfold fin2;unfold resV at hv;cases hr:znb L T' H' rs with
   |none=>rw [hr] at hv;cases hv
   |some vs =>
    rw [hr] at hv;rcases vs with _|⟨a,_|⟨b,l⟩⟩<;>(cases hv;rfl)
  rcases hex with rfl|rfl<;>exact hfin
theorem fwu {n:Int}(h0:0<=n) (h1:n<=9223372036854775807):fw .u64 n=n:=by
 rw [fw_eq];unfold IntKind.wrap;simp [IntKind.bits,IntKind.signed];omega
theorem cv_u {n:Int}(k:IntKind) (h0:0<=n) (h1:n<=9223372036854775807):cvI .u64 (.int k n)=some (.int .u64 n):=by
 show some (AV.int .u64 (fw .u64 n))=_
 rw [fwu h0 h1]
theorem cv_i {n:Int}(k:IntKind) (h0:0<=n) (h1:n<=9223372036854775807):cvI .i64 (.int k n)=some (.int .i64 n):=by
 show some (AV.int .i64 (fw .i64 n))=_
 rw [fw64 oM h1]
theorem shr1 (s:AV->AV->Option AV){n:Int}:binF .shr s (.int .u64 n) (.int .u64 1)=some (.int .u64 (n / 2)):=by
 show shrF .u64 n 1=_
 rw [zkh1];show some (AV.int .u64 (n.fdiv (2 ^ min (1:Int).toNat (IntKind.bits .u64))))=_
 rw [show (2:Int) ^ min (1:Int).toNat (IntKind.bits .u64)=2 from dC,Int.fdiv_eq_ediv_of_nonneg _ dC]
theorem zrk (H:AH) (b:ABlk):hOut true H ((hIn true H).new b)=H.new b:=by cases H;rfl
theorem zsk (H:AH):(hIn true H).next=H.next:=rfl
end Go.Ev
namespace HS
set_option maxRecDepth 100000
open HS.Md
theorem HX.hp2 {H H1 H2:AH}{p:Nat->Prop}(h:HX H H1) (h2:HP p H1 H2) (hp:∀i,i<H.next->p i):HX H H2 :=
 ((h.hp (fun _=>True)).trans h2 (r:=fun _=>True) (fun i hi _=>⟨trivial,hp i hi⟩)).hx fun _ _=>trivial
abbrev nl (rs:List Rc):List (AV×Rc):=rs.map fun r=>(AV.nilSl,r)
theorem zoc (rs:List Rc):(nl rs).length=rs.length:=by simp
theorem zef1 (rs:List Rc):rcs (nl rs)=rs:=by simp [rcs,nl,Function.comp_def]
theorem zqn1 (rs:List Rc):(encC rcL (nl rs)).all AV.oneCell=true:=by
 induction rs with
 |nil=>rfl
 |cons r rs ih =>
  have:encC rcL (nl (r::rs))=rcL (.nilSl,r) ++ encC rcL (nl rs):=by show encC rcL ((AV.nilSl,r)::nl rs)=_;rw [znd]
  rw [this,qo7,ih,zbc _ rfl];rfl
abbrev OwR (H:AH) (v:AV) (rs:List Rc) (N:Nat):Prop:=OwnS H v rs.length 84 44 (encC rcL (nl rs)) N
abbrev lvL:List AV:= [.int .i64 0,.int .i64 0]
abbrev OwL (H:AH) (lv:AV) (N:Nat):Prop:=OwnS H lv 2 3 1 lvL N
theorem OwR.sl {H:AH}{v:AV}{rs:List Rc}{N:Nat}(h:OwR H v rs N):SlRc H v (nl rs):=by
 refine ⟨?_,fun p hp=> ?_,fun i o n c op hv=> ?_⟩
 ·have:=OwnS.slZ h
  show SlZ H v (nl rs).length 44 _
  rw [zoc];exact this
 ·obtain ⟨r,_,rfl⟩:=qy2.1 hp
  exact .inl ⟨rfl,rfl⟩
 ·rcases h.2 with ⟨rfl,_⟩|⟨j,op',rfl,_⟩
  ·cases hv
  ·cases hv;exact qn _
structure TbS (H:AH) (it:Nat) (t:Tb) (v lv:AV) (N:Nat):Prop where
 lt:it<H.next
 ge:N<=it
 box:H.get it=some (.cells (.lst (tbL t.nx v lv)) 53 7 false false)
 own:OwR H v t.rs N
 lvo:OwL H lv N
theorem TbS.hx {H H':AH}{it:Nat}{t:Tb}{v lv:AV}{N:Nat}(h:TbS H it t v lv N) (hx:HX H H'):TbS H' it t v lv N :=
 ⟨qz h.lt hx.next,h.ge,(hx.get h.lt).trans h.box,OwnS.hx h.own hx,OwnS.hx h.lvo hx⟩
theorem TbS.sl {H:AH}{it:Nat}{t:Tb}{v lv:AV}{N:Nat}(h:TbS H it t v lv N):SlRc H v (nl t.rs):=OwR.sl h.own
theorem OwnS.ne {H:AH}{s:AV}{n e z N:Nat}{cs:List AV}(h:OwnS H s n e z cs N){it:Nat}{c:Ce}{e' z':Nat}{op ro:Bool}(hb:H.get it=some (.cells c e' z' op ro)) (hz:z≠z'):blkNe s it:=by
 rcases h.2 with ⟨rfl,_⟩|⟨j,op',rfl,⟨cc,hg,_⟩,_⟩
 ·exact zfa _
 ·refine zga fun e=> ?_
  subst e;rw [hb] at hg;cases hg;exact hz rfl
theorem nilq_a (xo yo:Operand):binF .eql (evBin lookM .eql 78 xo yo) .nilSl .nilSl=some (.bool true):=kR
theorem nilq_r (xo yo:Operand):binF .eql (evBin lookM .eql 49 xo yo) .nilSl .nilSl=some (.bool true):=kR
theorem zcu (H:AH):FnX lookM 171 [.nilSl] H .nilSl H:=by
 refine fI Tryz.f171 ?_;have F:=@nilq_a;exact vT
theorem zff1 {H:AH}[hn:HN H]{lv:AV}(h:Lv H lv):FnE lookM 168 [lv] H fun r H'=>OwL H' r H.next/\HX H H':=by
 refine fI Tryz.f168 ?_;have hlo:=hn.lo;have his:IsSl H lv 2:=h.is;rcases his with ⟨_,h0⟩|⟨i,o,c,op,rfl,hi⟩
 ·cases h0
 have hq:∀xo yo,binF .eql (evBin lookM .eql 35 xo yo) (.sl i o 2 c op) .nilSl=some (.bool false):=fun xo yo=>by
  rcases nil_eq uIs xo yo h.is with ⟨h1,_⟩|⟨i',o',c',op',h1,h2⟩
  ·cases h1
  ·exact h2
 have hx1:HX H (H.new (.cells (Ce.of []) 3 1 false false)):=HX.new _ _;have hz:SlZ H (.sl i o 2 c op) 2 1 lvL:=by
  obtain ⟨hi1,cc,e,z,op',ro,hg,hol⟩:=hi;have e0:=h.el 0 (by show 0<2;omega)
  have e1:=h.el 1 (by show 1<2;omega)
  have r0:cc.l[o+0*1]? =some (.int .i64 0):=by
   have:ld1 (.ptr i (o+0*1)) H=some (.int .i64 0):=e0;rw [zkp] at this;unfold AH.read1 AH.row at this;rw [hg] at this
   simpa [zug] using this
  have r1:cc.l[o+1*1]? =some (.int .i64 0):=by
   have:ld1 (.ptr i (o+1*1)) H=some (.int .i64 0):=e1;rw [zkp] at this;unfold AH.read1 AH.row at this;rw [hg] at this
   simpa [zug] using this
  have hl1:=(qp.1 r1).1;refine ⟨rfl,.inr ⟨i,o,c,op,ro,op',e,z,cc.l,rfl,hi1,⟨cc,hg,rfl⟩,oM,?_⟩⟩
  refine qb4 fun k=> ?_
  rcases k with _|_|k
  ·rw [qf2 oM,qu2];exact r0
  ·rw [qf2 oM,qu2];exact r1
  ·rw [qk2 (by rw [qa1];omega)];rfl
 obtain ⟨s',H',ha,ho,hp,hnx,_⟩:=OwnS.app (b:=8) OwnS.bs0 (SlZ.hx hz hx1) rfl dC dC (qx2 hn.lo (qn _)) (qy3 _)
 have F:=J3 @hq @bs0_q @ha;refine uT ?_;exact ⟨ho,HX.hp2 hx1 hp fun k hk=>zga oM⟩
theorem zgf1 {H:AH}[hn:HN H]{v:AV}{rs:List Rc}(h:SlRc H v (nl rs)) (hlen:rs.length<=1000000):FnE lookM 183 [v] H fun r H'=>OwR H' r rs H.next/\HX H H':=by
 refine fI Tryz.f183 ?_;have hlo:=hn.lo;have hz:SlZ H v rs.length 44 (encC rcL (nl rs)):=by have:=h.sl;unfold SlE at this;rwa [zoc] at this
 have hx1:HX H (H.new (.cells (Ce.of []) 84 44 false false)):=HX.new _ _;have hd:∀xo yo,(v= .nilSl/\rs.length=0/\binF .eql (evBin lookM .eql 49 xo yo) v .nilSl=some (.bool true))\/(∃i o c op,v= .sl i o rs.length c op/\binF .eql (evBin lookM .eql 49 xo yo) v .nilSl=some (.bool false)):=fun xo yo=>nil_eq uRs xo yo (SlZ.is hz)
 rcases (SlZ.is hz) with ⟨rfl,h0⟩|⟨i,o,c,op,rfl,hi⟩
 ·have F:=@nilq_r;refine uT ?_
  have:rs= []:=qk1 h0;subst this;exact ⟨OwnS.nil _ _ _ _,HX.refl _⟩
 ·have hq:∀xo yo,binF .eql (evBin lookM .eql 49 xo yo) (.sl i o rs.length c op) .nilSl=some (.bool false):=fun xo yo=>by
   rcases hd xo yo with ⟨h1,_⟩|⟨_,_,_,_,_,h2⟩
   ·cases h1
   ·exact h2
  obtain ⟨s',H',ha,ho,hp,hnx,_⟩:=OwnS.app (b:=152) OwnS.bs0 (SlZ.hx hz hx1) (zqn1 rs) oM oM (qx2 hn.lo (qn _)) (qy3 _)
  rw [qy1,qm1] at ho;have F:=J3 @hq @bs0_q @ha;refine uT ?_;exact ⟨ho,HX.hp2 hx1 hp fun k hk=>zga oM⟩
theorem szA:lookM.size 78=some 1:=kR
theorem zrn1 {rs:List Rc}{k:Nat}(hk:k<rs.length):(encC rcL (nl rs))[k*44+4]? =some .nilSl:=by
 have h1:(nl rs)[k]? =some (AV.nilSl,rs[k]):=by rw [qh1,qo hk];rfl
 rw [zri zra h1 oM];rfl
theorem own1_ok {H:AH}[hn:HN H]{j:Nat}{op:Bool}{rs:List Rc}{k:Nat}(hr:Row H j false op 84 44 (encC rcL (nl rs))) (hlo:H.lo<=j) (hk:k<rs.length) :
  FnE lookM 170 [.ptr j (k*44)] H fun r H'=>HP (·≠ j) H H'/\H'.next=H.next/\Row H' j false op 84 44 (encC rcL (nl rs)):=by
 refine fI Tryz.f170 ?_;have hlt:=(qp.1 (zrn1 hk)).1;obtain ⟨H',h1,h2,h3,h4⟩:=Row.st1 (L:=lookM) (t:=78) (k:=k*44+4) (v:=.nilSl) hr hn.hide hlo szA rfl hlt;have hset:(encC rcL (nl rs)).set (k*44+4) .nilSl=encC rcL (nl rs):=by
  refine qb4 fun i=> ?_
  by_cases hi:i=k*44+4
  ·subst hi;rw [qk4 hlt,zrn1 hk]
  ·rw [qi4 (fun e=>hi e.symm)]
 rw [hset] at h2;have hrd:=hr.rd (zrn1 hk);rw [ld1_q] at hrd;have hcl:= @FnX.p _ _ _ _ zcu;have F:=J3 @hrd @hcl @h1;refine uT ?_;exact ⟨h3,h4,h2⟩
theorem each_ok {H:AH}[hn:HN H]{v:AV}{rs:List Rc}(h:SlRc H v (nl rs)) (hlen:rs.length<=1000000):FnE lookM 169 [v,.fn (.func 170) [] []] H fun r H'=>OwR H' r rs H.next/\HX H H':=by
 refine fI Tryz.f169 ?_;refine uT0 ?_;refine cR_f (zgf1 h hlen) ?_;rintro s H1 ⟨ho1,hx1⟩;have hl:=fun H'=>ztc (H':=H') uRs (SlZ.is ho1.slZ)
 have F:=@hl;refine uT ?_;refine rc_l (fun n T H'=> ∃q,n+q=rs.length/\OwR H' s rs H.next/\HX H H'/\gT T 5=s/\gT T 1= .fn (.func 170) [] []/\gT T 10= .int .i64 rs.length/\gT T 11= .int .i64 q) rs.length ?_ ?_
 ·exact ⟨0,rfl,ho1,hx1,by exact vT0,by exact vT0,by exact vT0,by refine uT0 ?_;rfl⟩
 rintro n T H2 ⟨q,hnq,ho2,hx2,g5,g1,g10,g11⟩;haveI:=hx2.hn;cases n with
 |zero =>
  have F:=J4 @g5 @g1 @g10 @g11;refine uT ?_;exact ⟨ho2,hx2⟩
 |succ n =>
  have hq:q<rs.length:=oM
  obtain ⟨h0,⟨rfl,h00⟩|⟨j,op,rfl,hr,hNj,hj,hop⟩⟩:=ho2
  ·omega
  have hix:ixS 44 (.sl j 0 rs.length rs.length op) (.int .i64 (q:Int))=some (elA 44 (.sl j 0 rs.length rs.length op) q):=ix44 (H:=H2) (SlZ.is (hr.slZ hj h0)) hq;have F:=J5 @g5 @g1 @g10 @g11 @hix;refine uX ?_;refine cR_f (own1_ok hr (by have:=hx2.lo;have:=hn.lo;omega) hq) ?_
  rintro r3 H3 ⟨hp3,hn3,hr3⟩;have F:=J4 @g5 @g1 @g10 @g11;refine uT ?_;exact ⟨n,oM,q+1,oM,⟨h0,.inr ⟨j,op,rfl,hr3,hNj,oM,hop⟩⟩,HX.hp2 hx2 hp3 fun i hi=>oM,by push_cast;rfl⟩
def zha1:Code:=bodyN lookM 102
def f102l1:C2:=(.seq (.seq (.reg (m_ (tO 5) 45<|m_ (tO 3) 46<|b_ lookM .lss 3 (.tmp 45) (.tmp 46) 47<| .done))
 (.cond (tO 47) .skip (.exit 2)))
 (.seq (.block 3 (.seq (.reg (fa_ 1 (tO 1) 50<|l_ (tO 50) 51<|m_ (tO 5) 52<|ix_ 44 (tO 51) (tO 52) 53<|fa_ 0 (tO 53) 54<|l_ (tO 54) 55<|fa_ 0 (tO 4) 56<|l_ (tO 56) 57<|b_ lookM .eql 3 (.tmp 55) (.tmp 57) 58<| .done))
 (.cond (tO 58) (.seq (.reg (m_ (.con (.bool false)) 2<| .done))
 .ret) .skip)))
 (.reg (m_ (tO 5) 48<|b_ lookM .add 3 (.tmp 48) (.const (.int .i64 (1))) 49<|m_ (tO 49) 5<| .done))))
def zsn1:Code:=lpN zha1 1
theorem zhf1:comp lookM zsn1=f102l1:=kR
def f102l0:C2:=(.seq (.seq (.reg (m_ (tO 3) 6<|fa_ 1 (tO 1) 7<|l_ (tO 7) 8<|le_ lookM 49 (tO 8) 9<|b_ lookM .lss 3 (.tmp 6) (.tmp 9) 10<| .done))
 (.cond (tO 10) .skip (.exit 0)))
 (.seq (.block 1 (.seq (.reg (fa_ 1 (tO 1) 13<|l_ (tO 13) 14<|m_ (tO 3) 15<|ix_ 44 (tO 14) (tO 15) 16<|lN_ 44 (tO 16) 17<|al_ false (AV.toC (.agg [(.int .i64 (0)),(.str ⟨#[]⟩),(.int .i64 (0)),(.int .i64 (0)),.nilSl,(.int .i64 (0)),(.int .i64 (0)),(.int .u8 (0)),(.int .u8 (0)),(.int .u8 (0)),(.int .u8 (0)),(.int .u8 (0)),(.int .u8 (0)),(.int .u8 (0)),(.int .u8 (0)),(.int .u8 (0)),(.int .u8 (0)),(.int .u8 (0)),(.int .u8 (0)),(.int .u8 (0)),(.int .u8 (0)),(.int .u8 (0)),(.int .u8 (0)),(.int .u8 (0)),(.int .u8 (0)),(.int .u8 (0)),(.int .u8 (0)),(.int .u8 (0)),(.int .u8 (0)),(.int .u8 (0)),(.int .u8 (0)),(.int .u8 (0)),(.int .u8 (0)),(.int .u8 (0)),(.int .u8 (0)),(.int .u8 (0)),(.int .u8 (0)),(.int .u8 (0)),(.int .u8 (0)),(.int .i64 (0)),(.int .i64 (0)),(.int .i64 (0)),(.int .i64 (0)),(.int .i64 (0))])) 84 44 4<|sN_ false 44 (tO 4) (tO 17)<| .done))
 (.seq (.seq (.reg (lN_ 44 (tO 4) 18<|cl_ false 107 [(tO 18)] 19<|nt_ (tO 19) 20<|m_ (tO 20) 21<|o_ 21 false 22 (fa_ 0 (tO 4) 22)<|o_ 21 false 23 (l_ (tO 22) 23)<|o_ 21 false 24 (fa_ 0 (tO 1) 24)<|o_ 21 false 25 (l_ (tO 24) 25)<|o_ 21 false 26 (b_ lookM .geq 3 (.tmp 23) (.tmp 25) 26)<|pk_ (tO 21) (.con (.bool true)) (tO 26) 27<|m_ (tO 27) 28<|o_ 28 false 29 (m_ (tO 3) 29)<|o_ 28 false 30 (b_ lookM .gtr 3 (.tmp 29) (.const (.int .i64 (0))) 30)<|o_ 28 false 31 (m_ (tO 30) 31)<|o_ 31 true 32 (fa_ 1 (tO 1) 32)<|o_ 31 true 33 (l_ (tO 32) 33)<|o_ 31 true 34 (m_ (tO 3) 34)<|o_ 31 true 35 (b_ lookM .sub 3 (.tmp 34) (.const (.int .i64 (1))) 35)<|o_ 31 true 36 (ix_ 44 (tO 33) (tO 35) 36)<|o_ 31 true 37 (fa_ 1 (tO 36) 37)<|o_ 31 true 38 (l_ (tO 37) 38)<|o_ 31 true 39 (fa_ 1 (tO 4) 39)<|o_ 31 true 40 (l_ (tO 39) 40)<|o_ 31 true 41 (cl_ false 104 [(tO 38),(tO 40)] 41)<|o_ 31 true 42 (nt_ (tO 41) 42)<|o_ 28 false 43 (pk_ (tO 31) (tO 42) (.con (.bool false)) 43)<|pk_ (tO 28) (.con (.bool true)) (tO 43) 44<| .done))
 (.cond (tO 44) (.seq (.reg (m_ (.con (.bool false)) 2<| .done))
 .ret) .skip))
 (.seq (.seq (.reg (m_ (.con (.int .i64 (0))) 5<| .done))
 (.block 2 (.loop zsn1)))
 (.seq (.reg (lN_ 7 (tO 1) 59<|lN_ 44 (tO 4) 60<|cl_ false 108 [(tO 59),(tO 60)] 61<|nt_ (tO 61) 62<| .done))
 (.cond (tO 62) (.seq (.reg (m_ (.con (.bool false)) 2<| .done))
 .ret) .skip))))))
 (.reg (m_ (tO 3) 11<|b_ lookM .add 3 (.tmp 11) (.const (.int .i64 (1))) 12<|m_ (tO 12) 3<| .done))))
def f102b0:Code:=lpN zha1 0
theorem zif1:comp lookM f102b0=f102l0:=kR
def f102c:C2:=(.seq (.reg (bx_ false 53 7 (tO 0) 1<|m_ (.con (.bool false)) 2<| .done))
 (.seq (.seq (.reg (m_ (.con (.int .i64 (0))) 3<| .done))
 (.block 0 (.loop f102b0)))
 (.seq (.reg (m_ (.con (.bool true)) 2<| .done))
 .ret)))
theorem f102_eq:fnF lookM 102=some ⟨63,f102c, [.tmp 2]⟩:=kR
theorem zdu {s:ByteArray}:∀{n i:Nat},∀j,i<=j->j<i+n->okB j (byA s j)=false->zre s i n=false
 |0,_,j,h1,h2,_=>oM
 |n+1,i,j,h1,h2,h=>by
  unfold zre;rcases qi2 i j with h3|h3
  ·rw [zdu j oM oM h,qr3]
  ·have:j=i:=oM
   subst this;rw [h];rfl
theorem zeu {s:ByteArray}:∀{n i:Nat},(∀j,i<=j->j<i+n->okB j (byA s j)=true)->zre s i n=true
 |0,_,_=>rfl
 |n+1,i,h=>by
  unfold zre;rw [h i (qn _) oM,zeu fun j h1 h2=>h j oM oM];rfl
theorem zjr (s:ByteArray) (hs:s.size<=1000000) (H:AH):FnX lookM 65 [.str s] H (.bool (partB s)) H:=by
 refine fI Tryz.f65 ?_;have hl:=fun H=> @ls9 s H
 refine uT0 ?_;refine rc_l (fun n T H'=> ∃q,n+q=s.size/\(∀j,j<q->okB j (byA s j)=true)/\gT T 0= .str s/\gT T 3= .int .i64 q/\H'=H) s.size ?_ ?_
 ·exact ⟨0,rfl,fun j h=>absurd h (qe4 _),by exact vT0,by refine uT0 ?_;rfl,rfl⟩
 rintro n T H' ⟨q,hn,hall,g0,g3,rfl⟩;cases n with
 |zero =>
  have ha:zre s 0 s.size=true:=zeu fun j _ h=>hall j oM
  have ep:partB s=(decide (1<=s.size) && decide (s.size<=20)):=by unfold partB;rw [ha,qz3]
  rw [ep];by_cases h1:1<=s.size
  ·have d1:decide ((1:Int)<=(s.size:Int))=true:=qk oM
   have e1:decide (1<=s.size)=true:=qk h1;have d2:decide ((s.size:Int)<=20)=decide (s.size<=20):=by rw [qa3];simp;omega
   have F:=J5 @g0 @g3 @hl @d1 @d2;refine uT ?_;clear F;simp [e1]
  ·have d1:decide ((1:Int)<=(s.size:Int))=false:=qq oM
   have e1:decide (1<=s.size)=false:=qq h1;have F:=J4 @g0 @g3 @hl @d1;refine uT ?_;clear F;simp [e1]
 |succ n =>
  have hq:q<s.size:=oM
  have hix:=zdn1 uN9 s .i64 q hq;have hc:((s.data[q]'hq).toNat:Int)=byA s q:=by
   unfold byA;rw [qn1,qu1 hq];rfl
  rw [hc] at hix;have hc0:0<=byA s q:=by unfold byA;omega
  have hc1:byA s q<256:=by unfold byA;have:=(s.data.getD q 0).toNat_lt;omega
  have hgo:okB q (byA s q)=true-> ∃n',n'<n+1/\ ∃q',n'+q'=s.size/\(∀j,j<q'->okB j (byA s j)=true)/\AV.int .i64 ((q:Int)+1)= .int .i64 q':=fun h=>⟨n,oM,q+1,oM,fun j hj=>by
   rcases qi2 j q with h3|h3
   ·exact hall j h3
   ·have:j=q:=oM
    subst this;exact h,by push_cast;rfl⟩
  have hno:okB q (byA s q)=false->AV.bool false=AV.bool (partB s):=fun h=>by
   unfold partB;rw [zdu q (qo2 _) oM h,qr3,qr3]
  clear hc hall;generalize byA s q=c at *
  unfold okB at hgo hno
  (repeat' (first|simp (maxSteps:=1000000) (disch:=first|assumption|omega|rfl|(simp only [nx];omega)|(simp only [lens]<;>omega)) only [rq,rq2,qa2,qr1,Nat.reduceEqDiff,Nat.reduceAdd,reduceIte,reduceCtorEq,ne_eq,qf1,qc1,qs2,qm2,g0,g3,hl,hix]|((first|refine gR_if ?_ ?_|refine bR_if ?_ ?_|refine gZ_if ?_ ?_)<;>intro hb<;>(try simp only [qs,qd4,qm4,qr5] at hb))))
  all_goals first|(refine hno ?_;simp;omega)|(refine hgo ?_;simp;omega)|trace_state
theorem at64_is {s:ByteArray}{q:Nat}(hq:q<s.size) (h:s[q]! =64) (hall:∀j,j<q->s[j]! ≠64):at64 s=some q:=by
 unfold at64;rw [qz6];exact ⟨by simp [h],qp3.2 hq,fun j hj=>by simp [hall j hj]⟩
theorem at64_no {s:ByteArray}(hall:∀j,j<s.size->s[j]! ≠64):at64 s=none:=by
 unfold at64;rw [List.find?_eq_none];intro i hi;simp [hall i (qp3.1 hi)]
theorem by_64 {s:ByteArray}{q:Nat}(hq:q<s.size):decide (byA s q=64)=decide (s[q]! =64):=by
 have h4:s[q]! =s.data.getD q 0:=by
  have:q<s.data.size:=hq;rw [getElem!_pos s q hq,qn1,qu1 this];rfl
 have:byA s q=(s[q]!.toNat:Int):=by unfold byA;rw [h4]
 rw [this,qa3,qs,qs,u8_eq];constructor
 ·intro h;have:s[q]!.toNat=64:=oM
  rw [this];rfl
 ·intro h;rw [h];rfl
theorem zia1 (s:ByteArray) (hs:s.size<=1000000) (H:AH):FnX lookM 84 [.str s] H (.tup [.str (cutA s),.str (cutB s),.bool (cutF s)]) H:=by
 refine fI Tryz.f84 ?_;have hl:=fun H=> @ls9 s H
 refine uT0 ?_;refine rc_l (fun n T H'=> ∃q,n+q=s.size/\(∀j,j<q->s[j]! ≠64)/\gT T 0= .str s/\gT T 5= .int .i64 q/\H'=H) s.size ?_ ?_
 ·exact ⟨0,rfl,fun j h=>absurd h (qe4 _),by exact vT0,by refine uT0 ?_;rfl,rfl⟩
 rintro n T H' ⟨q,hn,hall,g0,g5,rfl⟩;cases n with
 |zero =>
  have ha:=at64_no (s:=s) fun j h=>hall j oM
  unfold cutA cutB cutF;rw [ha];have F:=J3 @g0 @g5 @hl;refine uT ?_;clear F;rfl
 |succ n =>
  have hq:q<s.size:=oM
  have hix:=zdn1 uN9 s .i64 q hq;have hc:((s.data[q]'hq).toNat:Int)=byA s q:=by
   unfold byA;rw [qn1,qu1 hq];rfl
  rw [hc] at hix;have hd:=by_64 hq;by_cases h:s[q]! =64
  ·have ha:=at64_is hq h hall
   rw [qk h] at hd;have h1:=sls_hi uN9 s .i64 q oM
   have h2:=sls_lo uN9 s .i64 (q+1) oM
   have e:((q+1:Nat):Int)=(q:Int)+1:=by push_cast;rfl
   rw [e] at h2;unfold cutA cutB cutF;rw [ha];have F:=J7 @g0 @g5 @hl @hix @hd @h1 @h2;refine uT ?_;clear F;rfl
  ·rw [qq h] at hd
   have F:=J5 @g0 @g5 @hl @hix @hd;refine uT ?_;clear F;refine ⟨n,oM,q+1,oM,fun j hj=> ?_,by push_cast;rfl⟩
   rcases qi2 j q with h3|h3
   ·exact hall j h3
   ·have:j=q:=oM
    subst this;exact h
theorem zfu (s:ByteArray):(cutA s).size<=s.size/\(cutB s).size<=s.size:=by
 unfold cutA cutB;cases h:at64 s with
 |none=>exact ⟨qn _,qo2 _⟩
 |some i =>
  have:=zfj1 h;show (s.extract 0 i).size<=_/\(s.extract (i+1) s.size).size<=_
  rw [ByteArray.size_extract,ByteArray.size_extract];omega
theorem ztk (s:ByteArray) (hs:s.size<=1000000) (H:AH):FnX lookM 34 [.str s] H (.bool (partB s)) H:=by
 refine fI Tryz.f34 ?_;have h:= @FnX.p _ _ _ _ (zjr s hs);have F:=@h;exact vT
theorem zue (s:ByteArray) (hs:s.size<=1000000) (H:AH):FnX lookM 62 [.str s] H (.tup [.str (splA s),.str (splB s),.bool (snapB s)]) H:=by
 refine fI Tryz.f62 ?_;have hc:=zfu s;have h:= @FnX.p _ _ _ _ (zia1 s hs);have hv:= @FnX.p _ _ _ _ (zjr (cutA s) oM)
 have hp:= @FnX.p _ _ _ _ (zjr (cutB s) oM)
 unfold splA splB snapB;cases hc:cutF s<;>cases ha:partB (cutA s)<;>cases hb:partB (cutB s)<;>rw [hc] at h<;>rw [ha] at hv<;>rw [hb] at hp<;>(have F:=J3 @h @hv @hp;exact wT)
theorem zyn (s:ByteArray) (hs:s.size<=1000000) (H:AH):FnX lookM 35 [.str s] H (.bool (snapB s)) H:=by
 refine fI Tryz.f35 ?_;have h:= @FnX.p _ _ _ _ (zue s hs);have F:=@h;exact vT
theorem zja1 (a b:ByteArray) (ha:a.size<=1000000) (hb:b.size<=1000000) (H:AH):FnX lookM 104 [.str a,.str b] H (.bool (lessB a b)) H:=by
 refine fI Tryz.f104 ?_;have h1:= @FnX.p _ _ _ _ (zia1 a ha);have h2:= @FnX.p _ _ _ _ (zia1 b hb);unfold lessB;by_cases e:cutA a=cutA b
 ·have d:decide (cutA a=cutA b)=true:=qk e
  rw [qi e];cases c1:cutF a<;>cases c2:cutF b<;>rw [c1] at h1<;>rw [c2] at h2<;>(have F:=J5 @h1 @h2 @ztd @zej1 @d;exact wT)
 ·have d:decide (cutA a=cutA b)=false:=qq e
  rw [qd e];have F:=J5 @h1 @h2 @ztd @zej1 @d;exact vT
theorem zka1 {H:AH}[hn:HN H]{a:AV}(ha:IsSl H a 0):FnE lookM 113 [roA a] H fun r H'=>r= .bool true/\HX H H':=by
 refine fI Tryz.f113 ?_;have hc:=zlw ha;have hl:=fun H'=>ztc (L:=lookM) (t:=78) (e:=161) (H':=H') kR ha
 have F:=J8 @hc @ro_0 @ro_1 @ro_2 @ro_sum @hl @id0 @idq;refine uT ?_;clear F
 (exact fin0)
theorem ztn1 {H:AH}[hn:HN H]{a:AV}(ha:IsSl H a 0):FnE lookM 112 [roA a] H fun r H'=>r= .int .i64 0/\HX H H':=by
 refine fI Tryz.f112 ?_;have hc:=zlw ha;have F:=J2 @hc @zbf1;refine uT ?_;clear F;refine cR_f (zka1 (ha.hx (HX.new _ _))) ?_;rintro r H2 ⟨rfl,hx⟩;refine uT0 ?_
 (exact fin0)
theorem zla1 (n a b:Int) (H:AH):FnX lookM 101 [.int .i64 n,.int .i64 a,.int .i64 b] H (.bool (wi n a b)) H:=by
 refine fI Tryz.f101 ?_;rw [wi_d];cases h1:decide (a<=n) with
 |false=>have F:=@h1;refine uT ?_;clear F;rfl
 |true=>have F:=@h1;refine uT ?_;clear F;rfl
theorem zcf (n a b:Int){H:AH}{d:Nat}{k:K2}{s:List Kf}{T:Tr AV}{Q:PostC}:cR false lookM 101 [.int .i64 n,.int .i64 a,.int .i64 b] H d k s T Q=RK lookM k s (pS d (.bool (wi n a b)) T) H Q:=FnX.p (zla1 n a b)
theorem dmay_ok {H:AH}[hn:HN H]{p:AV×Rc}(ha:IsSl H p.1 0) (hs:p.2.nm.size<=1000000):FnE lookM 107 [.agg (rcL p)] H fun r H'=>r= .bool (aloneB p.2)/\HX H H':=by
 refine fI Tryz.f107 ?_;have hv:= @FnX.p _ _ _ _ (ztk p.2.nm hs);have hsn:= @FnX.p _ _ _ _ (zyn p.2.nm hs);cases h1:wi p.2.id 1 2147483647 with
 |false=>have F:=J4 @zpa @rc_0 @zcf @h1;refine uT ?_;clear F;(have F:=J3 aloneB.eq_1 maxN.eq_1 @h1;exact fin)
 |true =>
 cases h2:wi p.2.sz 1 64 with
 |false=>have F:=J6 @zpa @rc_0 @rc_3 @zcf @h1 @h2;refine uT ?_;clear F;(have F:=J4 aloneB.eq_1 maxN.eq_1 @h1 @h2;exact fin)
 |true =>
 cases h3:wi p.2.md 1 2147483648 with
 |false=>have F:=J8 @zpa @rc_0 @rc_3 @rc_39 @zcf @h1 @h2 @h3;refine uT ?_;clear F;(have F:=J5 aloneB.eq_1 maxN.eq_1 @h1 @h2 @h3;exact fin)
 |true =>
 have F:=J9 @zpa @rc_0 @rc_3 @rc_39 @rc_ro @zcf @h1 @h2 @h3;refine uT ?_;clear F;have hx1:HX H (H.new (.cells (.lst (rcL p)) 84 44 false false)):=HX.new _ _;refine cR_f (ztn1 (ha.hx hx1)) ?_;rintro r H2 ⟨rfl,hx2⟩;have hx02:=hx1.trans hx2;have hg2:=(hx2.get (i:=H.next) (qd1 _)).trans (zaa _);haveI:=hx02.hn;have F:=J2 @hg2 @rc_ro;refine uT ?_;clear F;refine cR_f (zka1 (ha.hx hx02)) ?_;rintro r H3 ⟨rfl,hx3⟩;have hx:=hx02.trans hx3;have hn2:H.next+1<=H2.next:=hx2.next;have hg:=(hx3.get oM).trans hg2
 by_cases k1:p.2.kd=1
 ·have d1:decide (p.2.kd=1)=true:=qk k1
  have ea:aloneB p.2=(partB p.2.nm && (decide (p.2.ow=0) && (wi p.2.og 0 2147483647 && (wi p.2.qu 0 64 && wi p.2.rs 0 64)))):=by
   unfold aloneB;simp only [maxN];rw [h1,h2,h3,qi k1];rfl
  rw [ea];cases a1:partB p.2.nm with
  |false=>have F:=J11 @hg @rc_1 @rc_2 @rc_40 @rc_41 @rc_42 @rc_43 @hv @zcf @d1 @a1;refine uT ?_;clear F;(have F:=@a1;exact fin)
  |true =>
  cases a2:decide (p.2.ow=0) with
  |false=>have F:=J12 @hg @rc_1 @rc_2 @rc_40 @rc_41 @rc_42 @rc_43 @hv @zcf @d1 @a1 @a2;refine uT ?_;clear F;(have F:=J2 @a1 @a2;exact fin)
  |true =>
  cases a3:wi p.2.og 0 2147483647 with
  |false=>have F:=J13 @hg @rc_1 @rc_2 @rc_40 @rc_41 @rc_42 @rc_43 @hv @zcf @d1 @a1 @a2 @a3;refine uT ?_;clear F;(have F:=J3 @a1 @a2 @a3;exact fin)
  |true =>
  cases a4:wi p.2.qu 0 64 with
  |false=>have F:=J14 @hg @rc_1 @rc_2 @rc_40 @rc_41 @rc_42 @rc_43 @hv @zcf @d1 @a1 @a2 @a3 @a4;refine uT ?_;clear F;(have F:=J4 @a1 @a2 @a3 @a4;exact fin)
  |true =>
  have F:=J14 @hg @rc_1 @rc_2 @rc_40 @rc_41 @rc_42 @rc_43 @hv @zcf @d1 @a1 @a2 @a3 @a4;refine uT ?_;clear F
  (have F:=J4 @a1 @a2 @a3 @a4;exact fin)
 ·have d1:decide (p.2.kd=1)=false:=qq k1
  by_cases k2:p.2.kd=2
  ·have d2:decide (p.2.kd=2)=true:=qk k2
   have ea:aloneB p.2=(snapB p.2.nm && (wi p.2.ow 1 2147483647 && (decide (p.2.og=0) && (decide (p.2.qu=0) && (decide (p.2.rs=0) && decide (0<=p.2.md)))))):=by
    unfold aloneB;simp only [maxN];rw [h1,h2,h3,qd k1,qi k2];rfl
   rw [ea];cases a1:snapB p.2.nm with
   |false=>have F:=J14 @hg @rc_1 @rc_2 @rc_5 @rc_39 @rc_40 @rc_41 @rc_42 @rc_43 @hsn @zcf @d1 @d2 @a1;refine uT ?_;clear F;(have F:=@a1;exact fin)
   |true =>
   cases a2:wi p.2.ow 1 2147483647 with
   |false=>have F:=J15 @hg @rc_1 @rc_2 @rc_5 @rc_39 @rc_40 @rc_41 @rc_42 @rc_43 @hsn @zcf @d1 @d2 @a1 @a2;refine uT ?_;clear F;(have F:=J2 @a1 @a2;exact fin)
   |true =>
   cases a3:decide (p.2.og=0) with
   |false=>have F:=J16 @hg @rc_1 @rc_2 @rc_5 @rc_39 @rc_40 @rc_41 @rc_42 @rc_43 @hsn @zcf @d1 @d2 @a1 @a2 @a3;refine uT ?_;clear F;(have F:=J3 @a1 @a2 @a3;exact fin)
   |true =>
   cases a4:decide (p.2.qu=0) with
   |false=>have F:=J16 @hg @rc_1 @rc_2 @rc_5 @rc_39 @rc_40 @rc_41 @rc_42 @rc_43 @hsn @zcf @d1 @d2 @a1 @a2 (J2 @a3 @a4);refine uT ?_;clear F;(have F:=J4 @a1 @a2 @a3 @a4;exact fin)
   |true =>
   cases a5:decide (p.2.rs=0) with
   |false=>have F:=J16 @hg @rc_1 @rc_2 @rc_5 @rc_39 @rc_40 @rc_41 @rc_42 @rc_43 @hsn @zcf @d1 @d2 @a1 @a2 (J3 @a3 @a4 @a5);refine uT ?_;clear F;(have F:=J5 @a1 @a2 @a3 @a4 @a5;exact fin)
   |true =>
   have F:=J16 @hg @rc_1 @rc_2 @rc_5 @rc_39 @rc_40 @rc_41 @rc_42 @rc_43 @hsn @zcf @d1 @d2 @a1 @a2 (J3 @a3 @a4 @a5);refine uT ?_;clear F
   (have F:=J5 @a1 @a2 @a3 @a4 @a5;exact fin)
  ·have d2:decide (p.2.kd=2)=false:=qq k2
   have ea:aloneB p.2=false:=by unfold aloneB;simp only [maxN];rw [h1,h2,h3,qd k1,qd k2];rfl
   rw [ea];have F:=J4 @hg @rc_2 @d1 @d2;refine uT ?_;clear F
   (exact fin0)
theorem zma1 {H:AH}[hn:HN H]{nn:Int}{v lv:AV}{l:List (AV×Rc)}{s:ByteArray}(hsl:SlRc H v l) (hlen:l.length<=1000000) :
  FnE lookM 66 [tbA nn v lv,.str s] H fun r H'=>r= .tup [.int .i64 (fndI s (rcs l):Nat),.bool (hasB s (rcs l))]/\HX H H':=by
 refine fI Tryz.f66 ?_;have hl:=fun H'=>ztc (H':=H') uRs hsl.is
 have hx1:HX H (H.new (.cells (.lst (tbL nn v lv)) 53 7 false false)):=HX.new _ _;have F:=@zba;refine uT ?_;clear F;refine rc_l (fun n T H'=> ∃q,n+q=l.length/\H'=H.new (.cells (.lst (tbL nn v lv)) 53 7 false false)/\(∀(j:Nat) (r:Rc),j<q->(rcs l)[j]? =some r->decide (r.nm≠s)=true)/\gT T 1= .str s/\gT T 2= .ptr H.next 0/\gT T 6= .int .i64 q) l.length ?_ ?_
 ·exact ⟨0,rfl,rfl,fun j r h=>absurd h (qe4 _),by exact vT0,by exact vT0,by refine uT0 ?_;rfl⟩
 rintro n T H' ⟨q,hnq,rfl,hall,g1,g2,g6⟩;cases n with
 |zero =>
  have e:fnd s (rcs l)=l.length:=zae _ (by simp) (fun i r hi hr=>hall i r oM hr) (fun r hr=>by simp at hr)
  have e2:fndI s (rcs l)=0:=by unfold fndI;rw [e,zjb,qd (qv5 _)]
  have e3:hasB s (rcs l)=false:=by unfold hasB;rw [e,zjb];simp
  rw [e2,e3];have F:=J5 @g1 @g2 @g6 @tb_1 @hl;refine uT ?_;clear F;exact ⟨rfl,hx1⟩
 |succ n =>
  have hq:q<l.length:=oM
  obtain ⟨p,hk⟩:∃p,l[q]? =some p:=⟨_,qo hq⟩
  have hk2:(rcs l)[q]? =some p.2:=by rw [qh1,hk];rfl
  have hix:=ix44 (z:=44) (q:=q) hsl.is hq;have hfa:=fa_el hsl.is hq 44 1;have hld:=(hsl.hx hx1).fld hk (j:=1) (x:=.str p.2.nm) rfl;by_cases h:p.2.nm=s
  ·have d:decide (p.2.nm=s)=true:=qk h
   have e:fnd s (rcs l)=q:=zae _ (by simp;omega) (fun i r hi hr=>hall i r hi hr) (fun r hr=>by rw [hk2] at hr;cases hr;simp [h])
   have e2:fndI s (rcs l)=q:=by unfold fndI;rw [e,zjb,qi hq]
   have e3:hasB s (rcs l)=true:=by unfold hasB;rw [e,zjb];simp [hq]
   rw [e2,e3];have F:=J10 @g1 @g2 @g6 @tb_1 @hl @hix @hfa @hld @zte @d;refine uT ?_;clear F;exact hx1
  ·have d:decide (p.2.nm=s)=false:=qq h
   have F:=J10 @g1 @g2 @g6 @tb_1 @hl @hix @hfa @hld @zte @d;refine uT ?_;clear F;refine ⟨n,oM,q+1,oM,fun j r hj hr=> ?_,by push_cast;rfl⟩
   rcases qi2 j q with h3|h3
   ·exact hall j r h3 hr
   ·have:j=q:=oM
    subst this;rw [hk2] at hr;cases hr;simp [h]
theorem dkin_ok {H:AH}[hn:HN H]{nn:Int}{v lv:AV}{l:List (AV×Rc)}{p:AV×Rc}(hsl:SlRc H v l) (hlen:l.length<=1000000) (hs:p.2.nm.size<=1000000) (hp:IsSl H p.1 0) :
  FnE lookM 108 [tbA nn v lv,.agg (rcL p)] H fun r H'=>r= .bool (kinB (rcs l) p.2)/\HX H H':=by
 refine fI Tryz.f108 ?_;have hl:=fun H'=>ztc (H':=H') uRs hsl.is
 have hlo:=hn.lo;have e1:=hEq_f (oM:H.next≠H.next+1)
 have hsp:= @FnX.p _ _ _ _ (zue p.2.nm hs);unfold kinB;by_cases k2:p.2.kd=2
 ·rw [qi k2]
  have d2:decide (p.2.kd=2)=true:=qk k2;have F:=J8 @zba @zpa @rc_1 @rc_2 @e1 @d2 @hsp @zea;refine uT ?_;clear F;refine cR_at (fun H1=>HX H H1/\H1.next=H.next+2/\H1.get H.next=some (.cells (.lst (tbL nn v lv)) 53 7 false false)/\H1.get (H.next+1)=some (.cells (.lst (rcL p)) 84 44 false false)) ?_ ?_
  ·exact ⟨hxt,rfl,by exact vT0,zaa _⟩
  rintro H1 ⟨hx1,hn1,g0,g1⟩;haveI:=hx1.hn;refine cR_f (zma1 (hsl.hx hx1) hlen) ?_;rintro r2 H2 ⟨rfl,hx2⟩;have m0:=(hx2.get oM).trans g0
  have m1:=(hx2.get oM).trans g1
  have hx02:=hx1.trans hx2;cases a3:hasB (splA p.2.nm) (rcs l) with
  |false=>refine uT0 ?_;(exact fin0)
  |true =>
   obtain ⟨q1,q2⟩:=zza a3;rw [zjb] at q1;obtain ⟨q,hq⟩:∃q,l[fndI (splA p.2.nm) (rcs l)]? =some q:=⟨_,qo q1⟩
   have hqx:=ix44 (z:=44) (q:=fndI (splA p.2.nm) (rcs l)) hsl.is q1;have hqf:=fa_el hsl.is q1 44 0;have hqd:=(hsl.hx hx02).fld hq (j:=0) (x:=.int .i64 q.2.id) rfl;have hqg:=zti hq;rw [hqg];have F:=J7 @m0 @m1 @tb_1 @rc_40 @hqx @hqf @hqd;refine uT ?_;clear F
   (exact fin0)
 ·rw [qd k2]
  have d2:decide (p.2.kd=2)=false:=qq k2;have F:=J6 @zba @zpa @rc_2 @rc_41 @e1 @d2;refine uT ?_;clear F;refine rc_at (fun H1=>HX H H1/\H1.next=H.next+2/\H1.get H.next=some (.cells (.lst (tbL nn v lv)) 53 7 false false)/\H1.get (H.next+1)=some (.cells (.lst (rcL p)) 84 44 false false)) ?_ ?_
  ·exact ⟨hxt,rfl,by exact vT0,zaa _⟩
  rintro H1 ⟨hx1,hn1,g0,g1⟩;haveI:=hx1.hn;refine rc_l (fun n T H'=> ∃q,n+q=l.length/\H'=H1/\gT T 2= .ptr H.next 0/\gT T 3= .ptr (H.next+1) 0/\gT T 11= .int .i64 q/\gT T 10= .bool (decide (p.2.og=0) || ((rcs l).take q).any fun y=>decide (y.id=p.2.og) && decide (y.kd=2))) l.length ?_ ?_
  ·exact ⟨0,rfl,rfl,by exact vT0,by exact vT0,by refine uT0 ?_;rfl,by refine uT0 ?_;simp⟩
  rintro n T H' ⟨q,hnq,rfl,t2,t3,t11,t10⟩;cases n with
  |zero =>
   rw [qx (by rw [zjb];omega)] at t10
   have F:=J7 @t2 @t3 @t11 @t10 @g0 @tb_1 @hl;refine uT ?_;clear F;exact hx1
  |succ n =>
   have hq:q<l.length:=oM
   obtain ⟨y,hk⟩:∃p,l[q]? =some p:=⟨_,qo hq⟩
   have hk2:(rcs l)[q]? =some y.2:=by rw [qh1,hk];rfl
   have hix:=ix44 (z:=44) (q:=q) hsl.is hq;have hf0:=fa_el hsl.is hq 44 0;have hf2:=fa_el hsl.is hq 44 2;have hl0:=(hsl.hx hx1).fld hk (j:=0) (x:=.int .i64 y.2.id) rfl;have hl2:=(hsl.hx hx1).fld hk (j:=2) (x:=.int .i64 y.2.kd) rfl;have hst:(decide (p.2.og=0) || ((rcs l).take (q+1)).any fun y=>decide (y.id=p.2.og) && decide (y.kd=2))=((decide (p.2.og=0) || ((rcs l).take q).any fun y=>decide (y.id=p.2.og) && decide (y.kd=2)) || (decide (y.2.id=p.2.og) && decide (y.2.kd=2))):=by
    rw [qc4,hk2,qj3,List.any_append];simp [Bool.or_assoc]
   have goal:∀b:Bool,b=((decide (p.2.og=0) || ((rcs l).take q).any fun y=>decide (y.id=p.2.og) && decide (y.kd=2)) || (decide (y.2.id=p.2.og) && decide (y.2.kd=2)))-> ∃n',n'<n+1/\ ∃q',n'+q'=l.length/\AV.int .i64 ((q:Int)+1)= .int .i64 (q':Int)/\AV.bool b= .bool (decide (p.2.og=0) || ((rcs l).take q').any fun y=>decide (y.id=p.2.og) && decide (y.kd=2)):=fun b hb=>⟨n,oM,q+1,oM,by push_cast;rfl,by rw [hst,hb]⟩
   generalize (decide (p.2.og=0) || ((rcs l).take q).any fun y=>decide (y.id=p.2.og) && decide (y.kd=2))=b0 at *
   clear hst;cases b0 with
   |true=>have F:=J8 @t2 @t3 @t11 @t10 @g0 @g1 @tb_1 @hl;refine uT ?_;clear F;exact goal true (by simp)
   |false =>
    cases b1:decide (y.2.id=p.2.og) with
    |false =>
     rw [b1] at goal;have F:=J13 @t2 @t3 @t11 @t10 @g0 @g1 @tb_1 @hl @hix @hf0 @hl0 @rc_41 @b1;refine uT ?_;clear F;exact goal false (by simp)
    |true =>
     rw [b1] at goal;have F:=J15 @t2 @t3 @t11 @t10 @g0 @g1 @tb_1 @hl @hix @hf0 @hl0 @hf2 @hl2 @rc_41 @b1;refine uT ?_;clear F;exact goal _ (by simp)
end HS
end
