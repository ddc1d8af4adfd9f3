import Derived.Test.YtmdkejaglfokaaaGreatVAAG
import Derived.Test.YtmdkejaglfokaaaGreatVAAH
noncomputable section
set_option maxHeartbeats 8000000
set_option linter.unusedSimpArgs false
set_option linter.unusedVariables false
namespace Go.Ev
open HS.Md
def OwnS (H:AH) (s:AV) (n e z:Nat) (cs:List AV) (N:Nat):Prop:=cs.length=n*z/\((s= .nilSl/\n=0)\/ ∃j op,s= .sl j 0 n n op/\Row H j false op e z cs/\N<=j/\j<H.next/\(n≠0->op=true))
theorem OwnS.nil (H:AH) (e z N:Nat):OwnS H .nilSl 0 e z [] N:=⟨by simp,.inl ⟨rfl,rfl⟩⟩
theorem OwnS.slZ {H:AH}{s:AV}{n e z N:Nat}{cs:List AV}(h:OwnS H s n e z cs N):SlZ H s n z cs:=by
 obtain ⟨h0,h|⟨j,op,rfl,hr,hN,hj,_⟩⟩:=h
 ·exact ⟨h0,.inl h⟩
 ·exact hr.slZ hj h0
theorem OwnS.hx {H H':AH}{s:AV}{n e z N:Nat}{cs:List AV}(h:OwnS H s n e z cs N) (hx:HX H H'):OwnS H' s n e z cs N:=by
 obtain ⟨h0,h|⟨j,op,rfl,hr,hN,hj,ho⟩⟩:=h
 ·exact ⟨h0,.inl h⟩
 ·exact ⟨h0,.inr ⟨j,op,rfl,hr.hx hx hj,hN,qa1 hj hx.next,ho⟩⟩
theorem OwnS.hq {H H':AH}{s:AV}{n e z N:Nat}{cs:List AV}(h:OwnS H s n e z cs N){p:Nat->Prop}(hx:HP p H H') (hb:∀j o n c op,s= .sl j o n c op->p j):OwnS H' s n e z cs N:=by
 obtain ⟨h0,h|⟨j,op,rfl,hr,hN,hj,ho⟩⟩:=h
 ·exact ⟨h0,.inl h⟩
 ·exact ⟨h0,.inr ⟨j,op,rfl,hr.hp hx hj (hb _ _ _ _ _ rfl),hN,qa1 hj hx.next,ho⟩⟩
theorem OwnS.le {H:AH}{s:AV}{n e z N M:Nat}{cs:List AV}(h:OwnS H s n e z cs N) (hm:M<=N):OwnS H s n e z cs M:=by
 obtain ⟨h0,h|⟨j,op,rfl,hr,hN,hj,ho⟩⟩:=h
 ·exact ⟨h0,.inl h⟩
 ·exact ⟨h0,.inr ⟨j,op,rfl,hr,oM,hj,ho⟩⟩
theorem bs0_q {s e:Nat}{z:AV}{H:AH}:bsF s 0 z e (zipF [] []) H=some (.sl H.next 0 0 0 false,H.new (.cells (Ce.of []) e s false false)):=zsh (.cells (Ce.of []) e s false false) (fun m H'=>some (.sl m 0 0 0 false,H')) H
theorem OwnS.bs0 {H:AH}[hn:HN H]{e z:Nat}:OwnS (H.new (.cells (Ce.of []) e z false false)) (.sl H.next 0 0 0 false) 0 e z [] H.next :=
 ⟨by simp,.inr ⟨H.next,false,rfl,by have:=Row.new hn.hide (Ce.of []) e z false false;rwa [Ce.of_l] at this,qn _,qc1 _,fun h=>absurd rfl h⟩⟩
theorem bs1_q {s e:Nat}{z v:AV}{c:Ce}{H:AH}(hz:z.cells.length=s) (hv:v.cells.length=s) (hc:Ce.of v.cells=c):bsF s 1 z e (zipF [0] [v]) H=some (.sl H.next 0 1 1 false,H.new (.cells c e s false false)):=by
 subst hc;have hf:fillL (fun i=>some (Nat.mul i s,s)) (zipF [0] [v]) (rep z.cells 1)=some v.cells:=by
  show (match Nat.beq (len v.cells) s with
   |false=>none
   |true=>match zgd v.cells (rep z.cells 1) (Nat.mul 0 s) with
    |none=>none
    |some cs'=>some cs')=_
  rw [zse,hv,show Nat.beq s s=true from qr2 s]
  have:zgd v.cells (rep z.cells 1) (Nat.mul 0 s)=some v.cells:=(zyb _ _ _ _).2 ⟨by rw [zuc,hz,hv];simp,by
   rw [show Nat.mul 0 s=0 from ql4 s,hv]
   rw [qw3 (by rw [zuc,hz];omega)];simp⟩
  rw [this]
 unfold bsF;rw [hf];exact zsh (.cells (Ce.of v.cells) e s false false) (fun m H'=>some (.sl m 0 1 1 false,H')) H
theorem zbo {e z b n:Nat}{s x:AV}{new:Ce}{H:AH}(hx:lenOf x=some n) (hsrc:zhb z x n H=some new) (h1:new.one=true):appX e z b [s,x] H=appS e z b n new s H:=by
 show orec none (fun n=>orec none (fun new=>brec none (appS e z b n new s H) new.one) (srcF z x n H)) (lenOf x)=_
 rw [hx];show orec none (fun new=>brec none (appS e z b n new s H) new.one) (srcF z x n H)=_
 rw [zls,hsrc];show brec none (appS e z b n new s H) new.one=_
 rw [h1];rfl
theorem OwnS.app {e z b:Nat}{H:AH}[hn:HN H]{s x:AV}{n m N:Nat}{cs cx:List AV}(h:OwnS H s n e z cs N) (hx:SlZ H x m z cx) (h1:cx.all AV.oneCell=true)
  (hb:(n+m)*b<=140737488355328) (hm:n+m<=9223372036854775807) (hlo:H.lo<=N) (hN:N<=H.next) :
  ∃s' H',appX e z b [s,x] H=some (s',H')/\OwnS H' s' (n+m) e z (cs ++ cx) N/\HP (blkNe s) H H'/\H'.next<=H.next+1/\(∀j,j<H.next->blkNe s j->blkNe s' j):=by
 obtain ⟨new,hsrc,hnl⟩:=hx.src;have hlen:=hx.is.lenOf;have hone:=zhg (c:=new) (by rw [hnl];exact h1)
 have hxl:=hx.len;obtain ⟨h0,hs⟩:=h;rcases qp3 m with hm0|hm0
 ·subst hm0
  have hcx:cx= []:=ql1 (by rw [hxl,ql4])
  subst hcx;rw [qy1,qk4];rcases hs with ⟨rfl,rfl⟩|⟨j,op,rfl,⟨cc,hg,rfl⟩,hNj,hj,ho⟩
  ·exact ⟨.nilSl,H,by rw [zbo hlen hsrc hone];rfl,⟨h0,.inl ⟨rfl,rfl⟩⟩,HP.refl _ _,qv3 _,fun j _ h=>h⟩
  ·obtain ⟨c',h3,h4⟩:=Ce.over_ex (x:=new) (c:=cc) (o:=0+n*z) (by rw [hnl];show 0+n*z+0<=_;omega)
   rw [hnl] at h4;have h5:c'.l=cc.l:=by rw [h4,qy1];exact qn4 _ _
   refine ⟨.sl j 0 n n op,H.put j (.cells c' e z op false),?_,⟨h0,.inr ⟨j,op,rfl,⟨c',AH.get_put hn.hide _ _,h5⟩,hNj,hj,ho⟩⟩,(HP.put H j _).mono (fun i hi hb=> ?_),qv3 _,fun i _ h=>h⟩
   ·rw [zbo hlen hsrc hone]
    show brec _ (orec none (fun H'=>some (AV.sl j 0 (Nat.add n 0) n op,H')) (zne H j (Nat.add 0 (Nat.mul n z)) new)) (Nat.ble (Nat.add n 0) n)=_
    rw [show Nat.ble (Nat.add n 0) n=true from qh (qn n),zcd]
    unfold AH.writeC;rw [show Nat.ble H.lo j=true from qh oM,hg]
    have h3':Ce.over new cc (Nat.add 0 (Nat.mul n z))=some c':=h3;simp only [hone,h3'];rfl
   ·intro e;subst e;exact hb 0 n n op rfl
 ·rcases hs with ⟨rfl,rfl⟩|⟨j,op,rfl,hr,hNj,hj,ho⟩
  ·obtain ⟨s',H',a1,a2,a3,a4,a5⟩:=Ap.app (s:=.nilSl) (n:=0) (l:= []) ⟨by simp,.inl ⟨rfl,rfl⟩⟩ hlen hsrc hone (by rw [hnl,hxl]) hm0 (b:=b) (e:=e) hb hm hn.hide hlo hN
   have hc0:cs= []:=ql1 (by rw [h0,ql4])
   subst hc0;rw [hnl] at a2;obtain ⟨b0,⟨rfl,b1⟩|⟨i,rfl,b1,b2,b3⟩⟩:=a2
   ·omega
   ·exact ⟨_,H',a1,⟨b0,.inr ⟨i,true,rfl,b1,b2,b3,fun _=>rfl⟩⟩,a3,oM,fun k hk _=>a5 k hk⟩
  ·cases op with
   |true =>
    obtain ⟨s',H',a1,a2,a3,a4,a5⟩:=Ap.app (s:=.sl j 0 n n true) (n:=n) (l:=cs) ⟨h0,.inr ⟨j,rfl,hr,hNj,hj⟩⟩ hlen hsrc hone (by rw [hnl,hxl]) hm0 (b:=b) (e:=e) hb hm hn.hide hlo hN
    rw [hnl] at a2;obtain ⟨b0,⟨rfl,b1⟩|⟨i,rfl,b1,b2,b3⟩⟩:=a2
    ·omega
    ·exact ⟨_,H',a1,⟨b0,.inr ⟨i,true,rfl,b1,b2,b3,fun _=>rfl⟩⟩,a3,oM,fun k hk _=>a5 k hk⟩
   |false =>
    have hn0:n=0:=by
     rcases qp3 n with h|h
     ·exact h
     ·exact absurd (ho oM) dC
    subst hn0;have hc0:cs= []:=ql1 (by rw [h0,ql4])
    subst hc0;obtain ⟨H',a1,a2,a3,a4⟩:=zlt (b:=b) (e:=e) (z:=z) (i:=j) (o:=0) (l:=0) (c:=0) hlen hsrc hone hr (by simp) oM hb hm hn.hide
    refine ⟨_,H',a1,⟨by rw [qk1,hxl,qu1],.inr ⟨H.next,true,rfl,?_,hN,oM,fun _=>rfl⟩⟩,a2.hp _,oM,fun k hk _=>zla oM⟩
    rw [hnl] at a4
    simpa using a4
theorem zdf1 {L:Lk}{H:AH}{f:FuncId}{args:List AV}{nt:Nat}{c:C2}{rs:List ResultVar}{R:AV->AH->Prop}
  (hf:fnF L f=some ⟨nt,c,rs⟩) (hx:extS L f args H=none) (hn:Nat.ble (len args) nt=true) (h:RC L c [] (zub args 0 .nil) H (FnQ L rs R)) (hd:L.dfn f=false:=by rfl):FnE L f args H R:=by
 obtain ⟨o,⟨hex,v,hv,hR⟩,n,hm⟩:=h.h;obtain ⟨ex,T1,H1⟩:=o;simp only at hex hv hR;refine ⟨v,H1,hR,n+1,fun m hmn=> ?_⟩
 obtain ⟨m,rfl⟩:∃m',m=m'+1:=⟨m - 1,oM⟩
 have hm:=hm m oM
 show callS L (evF L m) f args H=_
 unfold callS;rw [hx];show bodyS L (evF L m) f args H=_
 unfold bodyS;rw [hd];show callF L (evF L m) f args H=_
 have hcode:∃fn body,L.func f=some fn/\fn.body=some body/\c=comp L body:=by
  unfold fnF at hf;cases h1:L.func f with
  |none=>rw [h1] at hf;cases hf
  |some fn =>
   rw [h1] at hf;simp only at hf;cases h2:fn.body with
   |none=>rw [h2] at hf;cases hf
   |some b=>rw [h2] at hf;cases hf;exact ⟨fn,b,rfl,h2,rfl⟩
 obtain ⟨fn,body,_,_,rfl⟩:=hcode;unfold callF;rw [hf];show brec none (evC L (evF L m) (comp L body) (fun ex T H=>exRec (fin2 L rs T H) (fun _=>none) (fin2 L rs T H) (fun _=>none) ex) (zub args 0 .nil) H) (Nat.ble (len args) nt)=_
 rw [hn];simp only [zpm];have h0:evC L (evF L m) (comp L body) (fun ex T H=>some ⟨ex,T,H⟩) (zub args 0 .nil) H=some ⟨ex,T1,H1⟩:=hm
 rw [zcr] at h0 ⊢
 cases he:zzb L (evF L m) body (zub args 0 .nil) H with
 |none=>rw [he] at h0;cases h0
 |some o =>
  rw [he] at h0;obtain ⟨ex',T',H'⟩:=o;simp only [qz1,Out.mk.injEq] at h0;obtain ⟨rfl,rfl,rfl⟩:=h0;have hfin:fin2 L rs T' H'=some (out1 v H'):=by
   unfold fin2;unfold resV at hv;cases hr:zmb L T' H' rs with
   |none=>rw [hr] at hv;cases hv
   |some vs =>
    rw [hr] at hv;rcases vs with _|⟨a,_|⟨b,l⟩⟩<;>(cases hv;rfl)
  rcases hex with rfl|rfl<;>exact hfin
theorem fwu {n:Int}(h0:0<=n) (h1:n<=9223372036854775807):fw .u64 n=n:=by
 rw [fw_eq];unfold IntKind.wrap;simp [IntKind.bits,IntKind.signed];omega
theorem cv_u {n:Int}(k:IntKind) (h0:0<=n) (h1:n<=9223372036854775807):cvI .u64 (.int k n)=some (.int .u64 n):=by
 show some (AV.int .u64 (fw .u64 n))=_
 rw [fwu h0 h1]
theorem cv_i {n:Int}(k:IntKind) (h0:0<=n) (h1:n<=9223372036854775807):cvI .i64 (.int k n)=some (.int .i64 n):=by
 show some (AV.int .i64 (fw .i64 n))=_
 rw [fw64 oM h1]
theorem shr1 (s:AV->AV->Option AV){n:Int}:binF .shr s (.int .u64 n) (.int .u64 1)=some (.int .u64 (n / 2)):=by
 show shrF .u64 n 1=_
 rw [zbh1];show some (AV.int .u64 (n.fdiv (2 ^ min (1:Int).toNat (IntKind.bits .u64))))=_
 rw [show (2:Int) ^ min (1:Int).toNat (IntKind.bits .u64)=2 from dC,Int.fdiv_eq_ediv_of_nonneg _ dC]
theorem zyi (H:AH) (b:ABlk):hOut true H ((hIn true H).new b)=H.new b:=by cases H;rfl
theorem zzi (H:AH):(hIn true H).next=H.next:=rfl
end Go.Ev
open Go Go.Ev Go.Proofs Go.RowKit
namespace HS
set_option maxRecDepth 100000
open HS.Md
theorem HX.hp2 {H H1 H2:AH}{p:Nat->Prop}(h:HX H H1) (h2:HP p H1 H2) (hp:∀i,i<H.next->p i):HX H H2 :=
 ((h.hp (fun _=>True)).trans h2 (r:=fun _=>True) (fun i hi _=>⟨trivial,hp i hi⟩)).hx fun _ _=>trivial
abbrev nl (rs:List Rc):List (AV×Rc):=rs.map fun r=>(AV.nilSl,r)
theorem zhc (rs:List Rc):(nl rs).length=rs.length:=by simp
theorem zef1 (rs:List Rc):rcs (nl rs)=rs:=by simp [rcs,nl,Function.comp_def]
theorem zbn1 (rs:List Rc):(encC rcL (nl rs)).all AV.oneCell=true:=by
 induction rs with
 |nil=>rfl
 |cons r rs ih =>
  have:encC rcL (nl (r::rs))=rcL (.nilSl,r) ++ encC rcL (nl rs):=by show encC rcL ((AV.nilSl,r)::nl rs)=_;rw [zod]
  rw [this,qd6,ih,zbc _ rfl];rfl
abbrev OwR (H:AH) (v:AV) (rs:List Rc) (N:Nat):Prop:=OwnS H v rs.length 84 44 (encC rcL (nl rs)) N
abbrev lvL:List AV:= [.int .i64 0,.int .i64 0]
abbrev OwL (H:AH) (lv:AV) (N:Nat):Prop:=OwnS H lv 2 3 1 lvL N
theorem OwR.sl {H:AH}{v:AV}{rs:List Rc}{N:Nat}(h:OwR H v rs N):SlRc H v (nl rs):=by
 refine ⟨?_,fun p hp=> ?_,fun i o n c op hv=> ?_⟩
 ·have:=OwnS.slZ h
  show SlZ H v (nl rs).length 44 _
  rw [zhc];exact this
 ·obtain ⟨r,_,rfl⟩:=qd3.1 hp
  exact .inl ⟨rfl,rfl⟩
 ·rcases h.2 with ⟨rfl,_⟩|⟨j,op',rfl,_⟩
  ·cases hv
  ·cases hv;exact qn _
theorem OwL.lv {H:AH}{lv:AV}{N:Nat}(h:OwL H lv N):Lv H lv:=by
 rcases h.2 with ⟨_,h⟩|⟨j,op,rfl,hr,_,hj,_⟩
 ·cases h
 ·refine hr.slR hj (qh2 _) fun k hk=> ?_
  have hk:k<2:=hk;rcases k with _|_|k
  ·rfl
  ·rfl
  ·omega
structure TbS (H:AH) (it:Nat) (t:Tb) (v lv:AV) (N:Nat):Prop where
 lt:it<H.next
 ge:N<=it
 box:H.get it=some (.cells (.lst (tbL t.nx v lv)) 53 7 false false)
 own:OwR H v t.rs N
 lvo:OwL H lv N
theorem TbS.hx {H H':AH}{it:Nat}{t:Tb}{v lv:AV}{N:Nat}(h:TbS H it t v lv N) (hx:HX H H'):TbS H' it t v lv N :=
 ⟨qa1 h.lt hx.next,h.ge,(hx.get h.lt).trans h.box,OwnS.hx h.own hx,OwnS.hx h.lvo hx⟩
theorem TbS.sl {H:AH}{it:Nat}{t:Tb}{v lv:AV}{N:Nat}(h:TbS H it t v lv N):SlRc H v (nl t.rs):=OwR.sl h.own
theorem OwnS.ne {H:AH}{s:AV}{n e z N:Nat}{cs:List AV}(h:OwnS H s n e z cs N){it:Nat}{c:Ce}{e' z':Nat}{op ro:Bool}(hb:H.get it=some (.cells c e' z' op ro)) (hz:z≠z'):blkNe s it:=by
 rcases h.2 with ⟨rfl,_⟩|⟨j,op',rfl,⟨cc,hg,_⟩,_⟩
 ·exact zka _
 ·refine zla fun e=> ?_
  subst e;rw [hb] at hg;cases hg;exact hz rfl
theorem nilq_a (xo yo:Operand):binF .eql (evBin lookM .eql 78 xo yo) .nilSl .nilSl=some (.bool true):=kR
theorem nilq_r (xo yo:Operand):binF .eql (evBin lookM .eql 49 xo yo) .nilSl .nilSl=some (.bool true):=kR
theorem zbu (H:AH):FnX lookM 171 [.nilSl] H .nilSl H:=by
 refine fI Tryz.f171 ?_;have F:=@nilq_a;exact vT
theorem zff1 {H:AH}[hn:HN H]{lv:AV}(h:Lv H lv):FnE lookM 168 [lv] H fun r H'=>OwL H' r H.next/\HX H H':=by
 refine fI Tryz.f168 ?_;have hlo:=hn.lo;have his:IsSl H lv 2:=h.is;rcases his with ⟨_,h0⟩|⟨i,o,c,op,rfl,hi⟩
 ·cases h0
 have hq:∀xo yo,binF .eql (evBin lookM .eql 35 xo yo) (.sl i o 2 c op) .nilSl=some (.bool false):=fun xo yo=>by
  rcases nil_eq uIs xo yo h.is with ⟨h1,_⟩|⟨i',o',c',op',h1,h2⟩
  ·cases h1
  ·exact h2
 have hx1:HX H (H.new (.cells (Ce.of []) 3 1 false false)):=HX.new _ _;have hz:SlZ H (.sl i o 2 c op) 2 1 lvL:=by
  obtain ⟨hi1,cc,e,z,op',ro,hg,hol⟩:=hi;have e0:=h.el 0 (by show 0<2;omega)
  have e1:=h.el 1 (by show 1<2;omega)
  have r0:cc.l[o+0*1]? =some (.int .i64 0):=by
   have:ld1 (.ptr i (o+0*1)) H=some (.int .i64 0):=e0;rw [zbm] at this;unfold AH.read1 AH.row at this;rw [hg] at this
   simpa [zcg] using this
  have r1:cc.l[o+1*1]? =some (.int .i64 0):=by
   have:ld1 (.ptr i (o+1*1)) H=some (.int .i64 0):=e1;rw [zbm] at this;unfold AH.read1 AH.row at this;rw [hg] at this
   simpa [zcg] using this
  have hl1:=(qq.1 r1).1;refine ⟨rfl,.inr ⟨i,o,c,op,ro,op',e,z,cc.l,rfl,hi1,⟨cc,hg,rfl⟩,oM,?_⟩⟩
  refine qm3 fun k=> ?_
  rcases k with _|_|k
  ·rw [qa2 oM,qj2];exact r0
  ·rw [qa2 oM,qj2];exact r1
  ·rw [qx1 (by rw [qd1];omega)];rfl
 obtain ⟨s',H',ha,ho,hp,hnx,_⟩:=OwnS.app (b:=8) OwnS.bs0 (SlZ.hx hz hx1) rfl dC dC (qx2 hn.lo (qn _)) (qv3 _)
 have F:=J3 @hq @bs0_q @ha;refine uT ?_;exact ⟨ho,HX.hp2 hx1 hp fun k hk=>zla oM⟩
theorem zgf1 {H:AH}[hn:HN H]{v:AV}{rs:List Rc}(h:SlRc H v (nl rs)) (hlen:rs.length<=1000000):FnE lookM 183 [v] H fun r H'=>OwR H' r rs H.next/\HX H H':=by
 refine fI Tryz.f183 ?_;have hlo:=hn.lo;have hz:SlZ H v rs.length 44 (encC rcL (nl rs)):=by have:=h.sl;unfold SlE at this;rwa [zhc] at this
 have hx1:HX H (H.new (.cells (Ce.of []) 84 44 false false)):=HX.new _ _;have hd:∀xo yo,(v= .nilSl/\rs.length=0/\binF .eql (evBin lookM .eql 49 xo yo) v .nilSl=some (.bool true))\/(∃i o c op,v= .sl i o rs.length c op/\binF .eql (evBin lookM .eql 49 xo yo) v .nilSl=some (.bool false)):=fun xo yo=>nil_eq uRs xo yo (SlZ.is hz)
 rcases (SlZ.is hz) with ⟨rfl,h0⟩|⟨i,o,c,op,rfl,hi⟩
 ·have F:=@nilq_r;refine uT ?_
  have:rs= []:=ql1 h0;subst this;exact ⟨OwnS.nil _ _ _ _,HX.refl _⟩
 ·have hq:∀xo yo,binF .eql (evBin lookM .eql 49 xo yo) (.sl i o rs.length c op) .nilSl=some (.bool false):=fun xo yo=>by
   rcases hd xo yo with ⟨h1,_⟩|⟨_,_,_,_,_,h2⟩
   ·cases h1
   ·exact h2
  obtain ⟨s',H',ha,ho,hp,hnx,_⟩:=OwnS.app (b:=152) OwnS.bs0 (SlZ.hx hz hx1) (zbn1 rs) oM oM (qx2 hn.lo (qn _)) (qv3 _)
  rw [qu1,qk1] at ho;have F:=J3 @hq @bs0_q @ha;refine uT ?_;exact ⟨ho,HX.hp2 hx1 hp fun k hk=>zla oM⟩
theorem szA:lookM.size 78=some 1:=kR
theorem zcn1 {rs:List Rc}{k:Nat}(hk:k<rs.length):(encC rcL (nl rs))[k*44+4]? =some .nilSl:=by
 have h1:(nl rs)[k]? =some (AV.nilSl,rs[k]):=by rw [qi1,qr hk];rfl
 rw [zvi zqa h1 oM];rfl
theorem own1_ok {H:AH}[hn:HN H]{j:Nat}{op:Bool}{rs:List Rc}{k:Nat}(hr:Row H j false op 84 44 (encC rcL (nl rs))) (hlo:H.lo<=j) (hk:k<rs.length) :
  FnE lookM 170 [.ptr j (k*44)] H fun r H'=>HP (·≠ j) H H'/\H'.next=H.next/\Row H' j false op 84 44 (encC rcL (nl rs)):=by
 refine fI Tryz.f170 ?_;have hlt:=(qq.1 (zcn1 hk)).1;obtain ⟨H',h1,h2,h3,h4⟩:=Row.st1 (L:=lookM) (t:=78) (k:=k*44+4) (v:=.nilSl) hr hn.hide hlo szA rfl hlt;have hset:(encC rcL (nl rs)).set (k*44+4) .nilSl=encC rcL (nl rs):=by
  refine qm3 fun i=> ?_
  by_cases hi:i=k*44+4
  ·subst hi;rw [qg4 hlt,zcn1 hk]
  ·rw [qe5 (fun e=>hi e.symm)]
 rw [hset] at h2;have hrd:=hr.rd (zcn1 hk);rw [ld1_q] at hrd;have hcl:= @FnX.p _ _ _ _ zbu;have F:=J3 @hrd @hcl @h1;refine uT ?_;exact ⟨h3,h4,h2⟩
theorem each_ok {H:AH}[hn:HN H]{v:AV}{rs:List Rc}(h:SlRc H v (nl rs)) (hlen:rs.length<=1000000):FnE lookM 169 [v,.fn (.func 170) [] []] H fun r H'=>OwR H' r rs H.next/\HX H H':=by
 refine fI Tryz.f169 ?_;refine uT0 ?_;refine cR_f (zgf1 h hlen) ?_;rintro s H1 ⟨ho1,hx1⟩;have hl:=fun H'=>zwc (H':=H') uRs (SlZ.is ho1.slZ)
 have F:=@hl;refine uT ?_;refine rc_l (fun n T H'=> ∃q,n+q=rs.length/\OwR H' s rs H.next/\HX H H'/\gT T 5=s/\gT T 1= .fn (.func 170) [] []/\gT T 10= .int .i64 rs.length/\gT T 11= .int .i64 q) rs.length ?_ ?_
 ·exact ⟨0,rfl,ho1,hx1,vT0,vT0,vT0,by refine uT0 ?_;rfl⟩
 rintro n T H2 ⟨q,hnq,ho2,hx2,g5,g1,g10,g11⟩;haveI:=hx2.hn;cases n with
 |zero =>
  have F:=J4 @g5 @g1 @g10 @g11;refine uT ?_;exact ⟨ho2,hx2⟩
 |succ n =>
  have hq:q<rs.length:=oM
  obtain ⟨h0,⟨rfl,h00⟩|⟨j,op,rfl,hr,hNj,hj,hop⟩⟩:=ho2
  ·omega
  have hix:ixS 44 (.sl j 0 rs.length rs.length op) (.int .i64 (q:Int))=some (elA 44 (.sl j 0 rs.length rs.length op) q):=ix44 (H:=H2) (SlZ.is (hr.slZ hj h0)) hq;have F:=J5 @g5 @g1 @g10 @g11 @hix;refine uX ?_;refine cR_f (own1_ok hr (by have:=hx2.lo;have:=hn.lo;omega) hq) ?_
  rintro r3 H3 ⟨hp3,hn3,hr3⟩;have F:=J4 @g5 @g1 @g10 @g11;refine uT ?_;exact ⟨n,oM,q+1,oM,⟨h0,.inr ⟨j,op,rfl,hr3,hNj,oM,hop⟩⟩,HX.hp2 hx2 hp3 fun i hi=>oM,by push_cast;rfl⟩
def zfa1:Code:=bodyN lookM 102
def f102l1:C2:=(.seq (.seq (.reg (m_ (tO 5) 45<|m_ (tO 3) 46<|b_ lookM .lss 3 (.tmp 45) (.tmp 46) 47<| .done))
 (.cond (tO 47) .skip (.exit 2)))
 (.seq (.block 3 (.seq (.reg (fa_ 1 (tO 1) 50<|l_ (tO 50) 51<|m_ (tO 5) 52<|ix_ 44 (tO 51) (tO 52) 53<|fa_ 0 (tO 53) 54<|l_ (tO 54) 55<|fa_ 0 (tO 4) 56<|l_ (tO 56) 57<|b_ lookM .eql 3 (.tmp 55) (.tmp 57) 58<| .done))
 (.cond (tO 58) (.seq (.reg (m_ (.con (.bool false)) 2<| .done))
 .ret) .skip)))
 (.reg (m_ (tO 5) 48<|b_ lookM .add 3 (.tmp 48) (.const (.int .i64 (1))) 49<|m_ (tO 49) 5<| .done))))
def zdn1:Code:=lpN zfa1 1
theorem zhf1:comp lookM zdn1=f102l1:=kR
def f102l0:C2:=(.seq (.seq (.reg (m_ (tO 3) 6<|fa_ 1 (tO 1) 7<|l_ (tO 7) 8<|le_ lookM 49 (tO 8) 9<|b_ lookM .lss 3 (.tmp 6) (.tmp 9) 10<| .done))
 (.cond (tO 10) .skip (.exit 0)))
 (.seq (.block 1 (.seq (.reg (fa_ 1 (tO 1) 13<|l_ (tO 13) 14<|m_ (tO 3) 15<|ix_ 44 (tO 14) (tO 15) 16<|lN_ 44 (tO 16) 17<|al_ false (AV.toC (.agg [(.int .i64 (0)),(.str ⟨#[]⟩),(.int .i64 (0)),(.int .i64 (0)),.nilSl,(.int .i64 (0)),(.int .i64 (0)),(.int .u8 (0)),(.int .u8 (0)),(.int .u8 (0)),(.int .u8 (0)),(.int .u8 (0)),(.int .u8 (0)),(.int .u8 (0)),(.int .u8 (0)),(.int .u8 (0)),(.int .u8 (0)),(.int .u8 (0)),(.int .u8 (0)),(.int .u8 (0)),(.int .u8 (0)),(.int .u8 (0)),(.int .u8 (0)),(.int .u8 (0)),(.int .u8 (0)),(.int .u8 (0)),(.int .u8 (0)),(.int .u8 (0)),(.int .u8 (0)),(.int .u8 (0)),(.int .u8 (0)),(.int .u8 (0)),(.int .u8 (0)),(.int .u8 (0)),(.int .u8 (0)),(.int .u8 (0)),(.int .u8 (0)),(.int .u8 (0)),(.int .u8 (0)),(.int .i64 (0)),(.int .i64 (0)),(.int .i64 (0)),(.int .i64 (0)),(.int .i64 (0))])) 84 44 4<|sN_ false 44 (tO 4) (tO 17)<| .done))
 (.seq (.seq (.reg (lN_ 44 (tO 4) 18<|cl_ false 107 [(tO 18)] 19<|nt_ (tO 19) 20<|m_ (tO 20) 21<|o_ 21 false 22 (fa_ 0 (tO 4) 22)<|o_ 21 false 23 (l_ (tO 22) 23)<|o_ 21 false 24 (fa_ 0 (tO 1) 24)<|o_ 21 false 25 (l_ (tO 24) 25)<|o_ 21 false 26 (b_ lookM .geq 3 (.tmp 23) (.tmp 25) 26)<|pk_ (tO 21) (.con (.bool true)) (tO 26) 27<|m_ (tO 27) 28<|o_ 28 false 29 (m_ (tO 3) 29)<|o_ 28 false 30 (b_ lookM .gtr 3 (.tmp 29) (.const (.int .i64 (0))) 30)<|o_ 28 false 31 (m_ (tO 30) 31)<|o_ 31 true 32 (fa_ 1 (tO 1) 32)<|o_ 31 true 33 (l_ (tO 32) 33)<|o_ 31 true 34 (m_ (tO 3) 34)<|o_ 31 true 35 (b_ lookM .sub 3 (.tmp 34) (.const (.int .i64 (1))) 35)<|o_ 31 true 36 (ix_ 44 (tO 33) (tO 35) 36)<|o_ 31 true 37 (fa_ 1 (tO 36) 37)<|o_ 31 true 38 (l_ (tO 37) 38)<|o_ 31 true 39 (fa_ 1 (tO 4) 39)<|o_ 31 true 40 (l_ (tO 39) 40)<|o_ 31 true 41 (cl_ false 104 [(tO 38),(tO 40)] 41)<|o_ 31 true 42 (nt_ (tO 41) 42)<|o_ 28 false 43 (pk_ (tO 31) (tO 42) (.con (.bool false)) 43)<|pk_ (tO 28) (.con (.bool true)) (tO 43) 44<| .done))
 (.cond (tO 44) (.seq (.reg (m_ (.con (.bool false)) 2<| .done))
 .ret) .skip))
 (.seq (.seq (.reg (m_ (.con (.int .i64 (0))) 5<| .done))
 (.block 2 (.loop zdn1)))
 (.seq (.reg (lN_ 7 (tO 1) 59<|lN_ 44 (tO 4) 60<|cl_ false 108 [(tO 59),(tO 60)] 61<|nt_ (tO 61) 62<| .done))
 (.cond (tO 62) (.seq (.reg (m_ (.con (.bool false)) 2<| .done))
 .ret) .skip))))))
 (.reg (m_ (tO 3) 11<|b_ lookM .add 3 (.tmp 11) (.const (.int .i64 (1))) 12<|m_ (tO 12) 3<| .done))))
def f102b0:Code:=lpN zfa1 0
theorem zif1:comp lookM f102b0=f102l0:=kR
def f102c:C2:=(.seq (.reg (bx_ false 53 7 (tO 0) 1<|m_ (.con (.bool false)) 2<| .done))
 (.seq (.seq (.reg (m_ (.con (.int .i64 (0))) 3<| .done))
 (.block 0 (.loop f102b0)))
 (.seq (.reg (m_ (.con (.bool true)) 2<| .done))
 .ret)))
theorem f102_eq:fnF lookM 102=some ⟨63,f102c, [.tmp 2]⟩:=kR
theorem zcu {s:ByteArray}:∀{n i:Nat},∀j,i<=j->j<i+n->okB j (byA s j)=false->zpe s i n=false
 |0,_,j,h1,h2,_=>oM
 |n+1,i,j,h1,h2,h=>by
  unfold zpe;rcases qf2 i j with h3|h3
  ·rw [zcu j oM oM h,ql3]
  ·have:j=i:=oM
   subst this;rw [h];rfl
theorem zdu {s:ByteArray}:∀{n i:Nat},(∀j,i<=j->j<i+n->okB j (byA s j)=true)->zpe s i n=true
 |0,_,_=>rfl
 |n+1,i,h=>by
  unfold zpe;rw [h i (qn _) oM,zdu fun j h1 h2=>h j oM oM];rfl
theorem zkr (s:ByteArray) (hs:s.size<=1000000) (H:AH):FnX lookM 65 [.str s] H (.bool (partB s)) H:=by
 refine fI Tryz.f65 ?_;have hl:=fun H=> @ls9 s H
 refine uT0 ?_;refine rc_l (fun n T H'=> ∃q,n+q=s.size/\(∀j,j<q->okB j (byA s j)=true)/\gT T 0= .str s/\gT T 3= .int .i64 q/\H'=H) s.size ?_ ?_
 ·exact ⟨0,rfl,fun j h=>absurd h (qb4 _),vT0,by refine uT0 ?_;rfl,rfl⟩
 rintro n T H' ⟨q,hn,hall,g0,g3,rfl⟩;cases n with
 |zero =>
  have ha:zpe s 0 s.size=true:=zdu fun j _ h=>hall j oM
  have ep:partB s=(decide (1<=s.size) && decide (s.size<=20)):=by unfold partB;rw [ha,qx3]
  rw [ep];by_cases h1:1<=s.size
  ·have d1:decide ((1:Int)<=(s.size:Int))=true:=qo oM
   have e1:decide (1<=s.size)=true:=qo h1;have d2:decide ((s.size:Int)<=20)=decide (s.size<=20):=by rw [ql2];simp;omega
   have F:=J5 @g0 @g3 @hl @d1 @d2;refine uT ?_;clear F;simp [e1]
  ·have d1:decide ((1:Int)<=(s.size:Int))=false:=qp oM
   have e1:decide (1<=s.size)=false:=qp h1;have F:=J4 @g0 @g3 @hl @d1;refine uT ?_;clear F;simp [e1]
 |succ n =>
  have hq:q<s.size:=oM
  have hix:=zom1 uN9 s .i64 q hq;have hc:((s.data[q]'hq).toNat:Int)=byA s q:=by
   unfold byA;rw [qm1,qs1 hq];rfl
  rw [hc] at hix;have hc0:0<=byA s q:=by unfold byA;omega
  have hc1:byA s q<256:=by unfold byA;have:=(s.data.getD q 0).toNat_lt;omega
  have hgo:okB q (byA s q)=true-> ∃n',n'<n+1/\ ∃q',n'+q'=s.size/\(∀j,j<q'->okB j (byA s j)=true)/\AV.int .i64 ((q:Int)+1)= .int .i64 q':=fun h=>⟨n,oM,q+1,oM,fun j hj=>by
   rcases qf2 j q with h3|h3
   ·exact hall j h3
   ·have:j=q:=oM
    subst this;exact h,by push_cast;rfl⟩
  have hno:okB q (byA s q)=false->AV.bool false=AV.bool (partB s):=fun h=>by
   unfold partB;rw [zcu q (qh2 _) oM h,ql3,ql3]
  clear hc hall;generalize byA s q=c at *
  unfold okB at hgo hno
  (repeat' (first|simp (maxSteps:=1000000) (disch:=first|assumption|omega|rfl|(simp only [nx];omega)|(simp only [lens]<;>omega)) only [rq,rq2,qz3,qu3,Nat.reduceEqDiff,Nat.reduceAdd,reduceIte,reduceCtorEq,ne_eq,qb3,qu2,qh5,qb5,g0,g3,hl,hix]|((first|refine gR_if ?_ ?_|refine bR_if ?_ ?_|refine gZ_if ?_ ?_)<;>intro hb<;>(try simp only [qs,qa4,qh4,qr5] at hb))))
  all_goals first|(refine hno ?_;simp;omega)|(refine hgo ?_;simp;omega)|trace_state
theorem at64_is {s:ByteArray}{q:Nat}(hq:q<s.size) (h:s[q]! =64) (hall:∀j,j<q->s[j]! ≠64):at64 s=some q:=by
 unfold at64;rw [qb7];exact ⟨by simp [h],qc3.2 hq,fun j hj=>by simp [hall j hj]⟩
theorem at64_no {s:ByteArray}(hall:∀j,j<s.size->s[j]! ≠64):at64 s=none:=by
 unfold at64;rw [List.find?_eq_none];intro i hi;simp [hall i (qc3.1 hi)]
theorem by_64 {s:ByteArray}{q:Nat}(hq:q<s.size):decide (byA s q=64)=decide (s[q]! =64):=by
 have h4:s[q]! =s.data.getD q 0:=by
  have:q<s.data.size:=hq;rw [getElem!_pos s q hq,qm1,qs1 this];rfl
 have:byA s q=(s[q]!.toNat:Int):=by unfold byA;rw [h4]
 rw [this,ql2,qs,qs,u8_eq];constructor
 ·intro h;have:s[q]!.toNat=64:=oM
  rw [this];rfl
 ·intro h;rw [h];rfl
theorem zga1 (s:ByteArray) (hs:s.size<=1000000) (H:AH):FnX lookM 84 [.str s] H (.tup [.str (cutA s),.str (cutB s),.bool (cutF s)]) H:=by
 refine fI Tryz.f84 ?_;have hl:=fun H=> @ls9 s H
 refine uT0 ?_;refine rc_l (fun n T H'=> ∃q,n+q=s.size/\(∀j,j<q->s[j]! ≠64)/\gT T 0= .str s/\gT T 5= .int .i64 q/\H'=H) s.size ?_ ?_
 ·exact ⟨0,rfl,fun j h=>absurd h (qb4 _),vT0,by refine uT0 ?_;rfl,rfl⟩
 rintro n T H' ⟨q,hn,hall,g0,g5,rfl⟩;cases n with
 |zero =>
  have ha:=at64_no (s:=s) fun j h=>hall j oM
  unfold cutA cutB cutF;rw [ha];have F:=J3 @g0 @g5 @hl;refine uT ?_;clear F;rfl
 |succ n =>
  have hq:q<s.size:=oM
  have hix:=zom1 uN9 s .i64 q hq;have hc:((s.data[q]'hq).toNat:Int)=byA s q:=by
   unfold byA;rw [qm1,qs1 hq];rfl
  rw [hc] at hix;have hd:=by_64 hq;by_cases h:s[q]! =64
  ·have ha:=at64_is hq h hall
   rw [qo h] at hd;have h1:=sls_hi uN9 s .i64 q oM
   have h2:=sls_lo uN9 s .i64 (q+1) oM
   have e:((q+1:Nat):Int)=(q:Int)+1:=by push_cast;rfl
   rw [e] at h2;unfold cutA cutB cutF;rw [ha];have F:=J7 @g0 @g5 @hl @hix @hd @h1 @h2;refine uT ?_;clear F;rfl
  ·rw [qp h] at hd
   have F:=J5 @g0 @g5 @hl @hix @hd;refine uT ?_;clear F;refine ⟨n,oM,q+1,oM,fun j hj=> ?_,by push_cast;rfl⟩
   rcases qf2 j q with h3|h3
   ·exact hall j h3
   ·have:j=q:=oM
    subst this;exact h
theorem zeu (s:ByteArray):(cutA s).size<=s.size/\(cutB s).size<=s.size:=by
 unfold cutA cutB;cases h:at64 s with
 |none=>exact ⟨qn _,qh2 _⟩
 |some i =>
  have:=zvi1 h;show (s.extract 0 i).size<=_/\(s.extract (i+1) s.size).size<=_
  rw [ByteArray.size_extract,ByteArray.size_extract];omega
theorem zzk (s:ByteArray) (hs:s.size<=1000000) (H:AH):FnX lookM 34 [.str s] H (.bool (partB s)) H:=by
 refine fI Tryz.f34 ?_;have h:= @FnX.p _ _ _ _ (zkr s hs);have F:=@h;exact vT
theorem zre (s:ByteArray) (hs:s.size<=1000000) (H:AH):FnX lookM 62 [.str s] H (.tup [.str (splA s),.str (splB s),.bool (snapB s)]) H:=by
 refine fI Tryz.f62 ?_;have hc:=zeu s;have h:= @FnX.p _ _ _ _ (zga1 s hs);have hv:= @FnX.p _ _ _ _ (zkr (cutA s) oM)
 have hp:= @FnX.p _ _ _ _ (zkr (cutB s) oM)
 unfold splA splB snapB;cases hc:cutF s<;>cases ha:partB (cutA s)<;>cases hb:partB (cutB s)<;>rw [hc] at h<;>rw [ha] at hv<;>rw [hb] at hp<;>(have F:=J3 @h @hv @hp;exact wT)
theorem zco (s:ByteArray) (hs:s.size<=1000000) (H:AH):FnX lookM 35 [.str s] H (.bool (snapB s)) H:=by
 refine fI Tryz.f35 ?_;have h:= @FnX.p _ _ _ _ (zre s hs);have F:=@h;exact vT
theorem zha1 (a b:ByteArray) (ha:a.size<=1000000) (hb:b.size<=1000000) (H:AH):FnX lookM 104 [.str a,.str b] H (.bool (lessB a b)) H:=by
 refine fI Tryz.f104 ?_;have h1:= @FnX.p _ _ _ _ (zga1 a ha);have h2:= @FnX.p _ _ _ _ (zga1 b hb);unfold lessB;by_cases e:cutA a=cutA b
 ·have d:decide (cutA a=cutA b)=true:=qo e
  rw [qj e];cases c1:cutF a<;>cases c2:cutF b<;>rw [c1] at h1<;>rw [c2] at h2<;>(have F:=J5 @h1 @h2 @zsd @zui1 @d;exact wT)
 ·have d:decide (cutA a=cutA b)=false:=qp e
  rw [qg e];have F:=J5 @h1 @h2 @zsd @zui1 @d;exact vT
theorem zia1 {H:AH}[hn:HN H]{a:AV}(ha:IsSl H a 0):FnE lookM 113 [roA a] H fun r H'=>r= .bool true/\HX H H':=by
 refine fI Tryz.f113 ?_;have hc:=znw ha;have hl:=fun H'=>zwc (L:=lookM) (t:=78) (e:=161) (H':=H') kR ha
 have F:=J8 @hc @ro_0 @ro_1 @ro_2 @ro_sum @hl @id0 @idq;refine uT ?_;clear F
 (exact fin0)
theorem zen1 {H:AH}[hn:HN H]{a:AV}(ha:IsSl H a 0):FnE lookM 112 [roA a] H fun r H'=>r= .int .i64 0/\HX H H':=by
 refine fI Tryz.f112 ?_;have hc:=znw ha;have F:=J2 @hc @zbf1;refine uT ?_;clear F;refine cR_f (zia1 (ha.hx (HX.new _ _))) ?_;rintro r H2 ⟨rfl,hx⟩;refine uT0 ?_
 (exact fin0)
theorem zja1 (n a b:Int) (H:AH):FnX lookM 101 [.int .i64 n,.int .i64 a,.int .i64 b] H (.bool (wi n a b)) H:=by
 refine fI Tryz.f101 ?_;rw [wi_d];cases h1:decide (a<=n) with
 |false=>have F:=@h1;refine uT ?_;clear F;rfl
 |true=>have F:=@h1;refine uT ?_;clear F;rfl
theorem zze (n a b:Int){H:AH}{d:Nat}{k:K2}{s:List Kf}{T:Tr AV}{Q:PostC}:cR false lookM 101 [.int .i64 n,.int .i64 a,.int .i64 b] H d k s T Q=RK lookM k s (pS d (.bool (wi n a b)) T) H Q:=FnX.p (zja1 n a b)
theorem dmay_ok {H:AH}[hn:HN H]{p:AV×Rc}(ha:IsSl H p.1 0) (hs:p.2.nm.size<=1000000):FnE lookM 107 [.agg (rcL p)] H fun r H'=>r= .bool (aloneB p.2)/\HX H H':=by
 refine fI Tryz.f107 ?_;have hv:= @FnX.p _ _ _ _ (zzk p.2.nm hs);have hsn:= @FnX.p _ _ _ _ (zco p.2.nm hs);cases h1:wi p.2.id 1 2147483647 with
 |false=>have F:=J4 @zra @rc_0 @zze @h1;refine uT ?_;clear F;(have F:=J3 aloneB.eq_1 maxN.eq_1 @h1;exact fin)
 |true =>
 cases h2:wi p.2.sz 1 64 with
 |false=>have F:=J6 @zra @rc_0 @rc_3 @zze @h1 @h2;refine uT ?_;clear F;(have F:=J4 aloneB.eq_1 maxN.eq_1 @h1 @h2;exact fin)
 |true =>
 cases h3:wi p.2.md 1 2147483648 with
 |false=>have F:=J8 @zra @rc_0 @rc_3 @rc_39 @zze @h1 @h2 @h3;refine uT ?_;clear F;(have F:=J5 aloneB.eq_1 maxN.eq_1 @h1 @h2 @h3;exact fin)
 |true =>
 have F:=J9 @zra @rc_0 @rc_3 @rc_39 @rc_ro @zze @h1 @h2 @h3;refine uT ?_;clear F;have hx1:HX H (H.new (.cells (.lst (rcL p)) 84 44 false false)):=HX.new _ _;refine cR_f (zen1 (ha.hx hx1)) ?_;rintro r H2 ⟨rfl,hx2⟩;have hx02:=hx1.trans hx2;have hg2:=(hx2.get (i:=H.next) (qc1 _)).trans (zaa _);haveI:=hx02.hn;have F:=J2 @hg2 @rc_ro;refine uT ?_;clear F;refine cR_f (zia1 (ha.hx hx02)) ?_;rintro r H3 ⟨rfl,hx3⟩;have hx:=hx02.trans hx3;have hn2:H.next+1<=H2.next:=hx2.next;have hg:=(hx3.get oM).trans hg2
 by_cases k1:p.2.kd=1
 ·have d1:decide (p.2.kd=1)=true:=qo k1
  have ea:aloneB p.2=(partB p.2.nm && (decide (p.2.ow=0) && (wi p.2.og 0 2147483647 && (wi p.2.qu 0 64 && wi p.2.rs 0 64)))):=by
   unfold aloneB;simp only [maxN];rw [h1,h2,h3,qj k1];rfl
  rw [ea];cases a1:partB p.2.nm with
  |false=>have F:=J11 @hg @rc_1 @rc_2 @rc_40 @rc_41 @rc_42 @rc_43 @hv @zze @d1 @a1;refine uT ?_;clear F;(have F:=@a1;exact fin)
  |true =>
  cases a2:decide (p.2.ow=0) with
  |false=>have F:=J12 @hg @rc_1 @rc_2 @rc_40 @rc_41 @rc_42 @rc_43 @hv @zze @d1 @a1 @a2;refine uT ?_;clear F;(have F:=J2 @a1 @a2;exact fin)
  |true =>
  cases a3:wi p.2.og 0 2147483647 with
  |false=>have F:=J13 @hg @rc_1 @rc_2 @rc_40 @rc_41 @rc_42 @rc_43 @hv @zze @d1 @a1 @a2 @a3;refine uT ?_;clear F;(have F:=J3 @a1 @a2 @a3;exact fin)
  |true =>
  cases a4:wi p.2.qu 0 64 with
  |false=>have F:=J14 @hg @rc_1 @rc_2 @rc_40 @rc_41 @rc_42 @rc_43 @hv @zze @d1 @a1 @a2 @a3 @a4;refine uT ?_;clear F;(have F:=J4 @a1 @a2 @a3 @a4;exact fin)
  |true =>
  have F:=J14 @hg @rc_1 @rc_2 @rc_40 @rc_41 @rc_42 @rc_43 @hv @zze @d1 @a1 @a2 @a3 @a4;refine uT ?_;clear F
  (have F:=J4 @a1 @a2 @a3 @a4;exact fin)
 ·have d1:decide (p.2.kd=1)=false:=qp k1
  by_cases k2:p.2.kd=2
  ·have d2:decide (p.2.kd=2)=true:=qo k2
   have ea:aloneB p.2=(snapB p.2.nm && (wi p.2.ow 1 2147483647 && (decide (p.2.og=0) && (decide (p.2.qu=0) && (decide (p.2.rs=0) && decide (0<=p.2.md)))))):=by
    unfold aloneB;simp only [maxN];rw [h1,h2,h3,qg k1,qj k2];rfl
   rw [ea];cases a1:snapB p.2.nm with
   |false=>have F:=J14 @hg @rc_1 @rc_2 @rc_5 @rc_39 @rc_40 @rc_41 @rc_42 @rc_43 @hsn @zze @d1 @d2 @a1;refine uT ?_;clear F;(have F:=@a1;exact fin)
   |true =>
   cases a2:wi p.2.ow 1 2147483647 with
   |false=>have F:=J15 @hg @rc_1 @rc_2 @rc_5 @rc_39 @rc_40 @rc_41 @rc_42 @rc_43 @hsn @zze @d1 @d2 @a1 @a2;refine uT ?_;clear F;(have F:=J2 @a1 @a2;exact fin)
   |true =>
   cases a3:decide (p.2.og=0) with
   |false=>have F:=J16 @hg @rc_1 @rc_2 @rc_5 @rc_39 @rc_40 @rc_41 @rc_42 @rc_43 @hsn @zze @d1 @d2 @a1 @a2 @a3;refine uT ?_;clear F;(have F:=J3 @a1 @a2 @a3;exact fin)
   |true =>
   cases a4:decide (p.2.qu=0) with
   |false=>have F:=J16 @hg @rc_1 @rc_2 @rc_5 @rc_39 @rc_40 @rc_41 @rc_42 @rc_43 @hsn @zze @d1 @d2 @a1 @a2 (J2 @a3 @a4);refine uT ?_;clear F;(have F:=J4 @a1 @a2 @a3 @a4;exact fin)
   |true =>
   cases a5:decide (p.2.rs=0) with
   |false=>have F:=J16 @hg @rc_1 @rc_2 @rc_5 @rc_39 @rc_40 @rc_41 @rc_42 @rc_43 @hsn @zze @d1 @d2 @a1 @a2 (J3 @a3 @a4 @a5);refine uT ?_;clear F;(have F:=J5 @a1 @a2 @a3 @a4 @a5;exact fin)
   |true =>
   have F:=J16 @hg @rc_1 @rc_2 @rc_5 @rc_39 @rc_40 @rc_41 @rc_42 @rc_43 @hsn @zze @d1 @d2 @a1 @a2 (J3 @a3 @a4 @a5);refine uT ?_;clear F
   (have F:=J5 @a1 @a2 @a3 @a4 @a5;exact fin)
  ·have d2:decide (p.2.kd=2)=false:=qp k2
   have ea:aloneB p.2=false:=by unfold aloneB;simp only [maxN];rw [h1,h2,h3,qg k1,qg k2];rfl
   rw [ea];have F:=J4 @hg @rc_2 @d1 @d2;refine uT ?_;clear F
   (exact fin0)
theorem zka1 {H:AH}[hn:HN H]{nn:Int}{v lv:AV}{l:List (AV×Rc)}{s:ByteArray}(hsl:SlRc H v l) (hlen:l.length<=1000000) :
  FnE lookM 66 [tbA nn v lv,.str s] H fun r H'=>r= .tup [.int .i64 (fndI s (rcs l):Nat),.bool (hasB s (rcs l))]/\HX H H':=by
 refine fI Tryz.f66 ?_;have hl:=fun H'=>zwc (H':=H') uRs hsl.is
 have hx1:HX H (H.new (.cells (.lst (tbL nn v lv)) 53 7 false false)):=HX.new _ _;have F:=@zba;refine uT ?_;clear F;refine rc_l (fun n T H'=> ∃q,n+q=l.length/\H'=H.new (.cells (.lst (tbL nn v lv)) 53 7 false false)/\(∀(j:Nat) (r:Rc),j<q->(rcs l)[j]? =some r->decide (r.nm≠s)=true)/\gT T 1= .str s/\gT T 2= .ptr H.next 0/\gT T 6= .int .i64 q) l.length ?_ ?_
 ·exact ⟨0,rfl,rfl,fun j r h=>absurd h (qb4 _),vT0,vT0,by refine uT0 ?_;rfl⟩
 rintro n T H' ⟨q,hnq,rfl,hall,g1,g2,g6⟩;cases n with
 |zero =>
  have e:fnd s (rcs l)=l.length:=zxd _ (by simp) (fun i r hi hr=>hall i r oM hr) (fun r hr=>by simp at hr)
  have e2:fndI s (rcs l)=0:=by unfold fndI;rw [e,zkb,qg (qu5 _)]
  have e3:hasB s (rcs l)=false:=by unfold hasB;rw [e,zkb];simp
  rw [e2,e3];have F:=J5 @g1 @g2 @g6 @tb_1 @hl;refine uT ?_;clear F;exact ⟨rfl,hx1⟩
 |succ n =>
  have hq:q<l.length:=oM
  obtain ⟨p,hk⟩:∃p,l[q]? =some p:=⟨_,qr hq⟩
  have hk2:(rcs l)[q]? =some p.2:=by rw [qi1,hk];rfl
  have hix:=ix44 (z:=44) (q:=q) hsl.is hq;have hfa:=fa_el hsl.is hq 44 1;have hld:=(hsl.hx hx1).fld hk (j:=1) (x:=.str p.2.nm) rfl;by_cases h:p.2.nm=s
  ·have d:decide (p.2.nm=s)=true:=qo h
   have e:fnd s (rcs l)=q:=zxd _ (by simp;omega) (fun i r hi hr=>hall i r hi hr) (fun r hr=>by rw [hk2] at hr;cases hr;simp [h])
   have e2:fndI s (rcs l)=q:=by unfold fndI;rw [e,zkb,qj hq]
   have e3:hasB s (rcs l)=true:=by unfold hasB;rw [e,zkb];simp [hq]
   rw [e2,e3];have F:=J10 @g1 @g2 @g6 @tb_1 @hl @hix @hfa @hld @zkg @d;refine uT ?_;clear F;exact hx1
  ·have d:decide (p.2.nm=s)=false:=qp h
   have F:=J10 @g1 @g2 @g6 @tb_1 @hl @hix @hfa @hld @zkg @d;refine uT ?_;clear F;refine ⟨n,oM,q+1,oM,fun j r hj hr=> ?_,by push_cast;rfl⟩
   rcases qf2 j q with h3|h3
   ·exact hall j r h3 hr
   ·have:j=q:=oM
    subst this;rw [hk2] at hr;cases hr;simp [h]
theorem dkin_ok {H:AH}[hn:HN H]{nn:Int}{v lv:AV}{l:List (AV×Rc)}{p:AV×Rc}(hsl:SlRc H v l) (hlen:l.length<=1000000) (hs:p.2.nm.size<=1000000) (hp:IsSl H p.1 0) :
  FnE lookM 108 [tbA nn v lv,.agg (rcL p)] H fun r H'=>r= .bool (kinB (rcs l) p.2)/\HX H H':=by
 refine fI Tryz.f108 ?_;have hl:=fun H'=>zwc (H':=H') uRs hsl.is
 have hlo:=hn.lo;have e1:=hEq_f (oM:H.next≠H.next+1)
 have hsp:= @FnX.p _ _ _ _ (zre p.2.nm hs);unfold kinB;by_cases k2:p.2.kd=2
 ·rw [qj k2]
  have d2:decide (p.2.kd=2)=true:=qo k2;have F:=J8 @zba @zra @rc_1 @rc_2 @e1 @d2 @hsp @zda;refine uT ?_;clear F;refine cR_at (fun H1=>HX H H1/\H1.next=H.next+2/\H1.get H.next=some (.cells (.lst (tbL nn v lv)) 53 7 false false)/\H1.get (H.next+1)=some (.cells (.lst (rcL p)) 84 44 false false)) ?_ ?_
  ·exact ⟨hxt,rfl,vT0,zaa _⟩
  rintro H1 ⟨hx1,hn1,g0,g1⟩;haveI:=hx1.hn;refine cR_f (zka1 (hsl.hx hx1) hlen) ?_;rintro r2 H2 ⟨rfl,hx2⟩;have m0:=(hx2.get oM).trans g0
  have m1:=(hx2.get oM).trans g1
  have hx02:=hx1.trans hx2;cases a3:hasB (splA p.2.nm) (rcs l) with
  |false=>refine uT0 ?_;(exact fin0)
  |true =>
   obtain ⟨q1,q2⟩:=zeb a3;rw [zkb] at q1;obtain ⟨q,hq⟩:∃q,l[fndI (splA p.2.nm) (rcs l)]? =some q:=⟨_,qr q1⟩
   have hqx:=ix44 (z:=44) (q:=fndI (splA p.2.nm) (rcs l)) hsl.is q1;have hqf:=fa_el hsl.is q1 44 0;have hqd:=(hsl.hx hx02).fld hq (j:=0) (x:=.int .i64 q.2.id) rfl;have hqg:=zxi hq;rw [hqg];have F:=J7 @m0 @m1 @tb_1 @rc_40 @hqx @hqf @hqd;refine uT ?_;clear F
   (exact fin0)
 ·rw [qg k2]
  have d2:decide (p.2.kd=2)=false:=qp k2;have F:=J6 @zba @zra @rc_2 @rc_41 @e1 @d2;refine uT ?_;clear F;refine rc_at (fun H1=>HX H H1/\H1.next=H.next+2/\H1.get H.next=some (.cells (.lst (tbL nn v lv)) 53 7 false false)/\H1.get (H.next+1)=some (.cells (.lst (rcL p)) 84 44 false false)) ?_ ?_
  ·exact ⟨hxt,rfl,vT0,zaa _⟩
  rintro H1 ⟨hx1,hn1,g0,g1⟩;haveI:=hx1.hn;refine rc_l (fun n T H'=> ∃q,n+q=l.length/\H'=H1/\gT T 2= .ptr H.next 0/\gT T 3= .ptr (H.next+1) 0/\gT T 11= .int .i64 q/\gT T 10= .bool (decide (p.2.og=0) || ((rcs l).take q).any fun y=>decide (y.id=p.2.og) && decide (y.kd=2))) l.length ?_ ?_
  ·exact ⟨0,rfl,rfl,vT0,vT0,by refine uT0 ?_;rfl,by refine uT0 ?_;simp⟩
  rintro n T H' ⟨q,hnq,rfl,t2,t3,t11,t10⟩;cases n with
  |zero =>
   rw [qx (by rw [zkb];omega)] at t10
   have F:=J7 @t2 @t3 @t11 @t10 @g0 @tb_1 @hl;refine uT ?_;clear F;exact hx1
  |succ n =>
   have hq:q<l.length:=oM
   obtain ⟨y,hk⟩:∃p,l[q]? =some p:=⟨_,qr hq⟩
   have hk2:(rcs l)[q]? =some y.2:=by rw [qi1,hk];rfl
   have hix:=ix44 (z:=44) (q:=q) hsl.is hq;have hf0:=fa_el hsl.is hq 44 0;have hf2:=fa_el hsl.is hq 44 2;have hl0:=(hsl.hx hx1).fld hk (j:=0) (x:=.int .i64 y.2.id) rfl;have hl2:=(hsl.hx hx1).fld hk (j:=2) (x:=.int .i64 y.2.kd) rfl;have hst:(decide (p.2.og=0) || ((rcs l).take (q+1)).any fun y=>decide (y.id=p.2.og) && decide (y.kd=2))=((decide (p.2.og=0) || ((rcs l).take q).any fun y=>decide (y.id=p.2.og) && decide (y.kd=2)) || (decide (y.2.id=p.2.og) && decide (y.2.kd=2))):=by
    rw [qi4,hk2,qi3,List.any_append];simp [Bool.or_assoc]
   have goal:∀b:Bool,b=((decide (p.2.og=0) || ((rcs l).take q).any fun y=>decide (y.id=p.2.og) && decide (y.kd=2)) || (decide (y.2.id=p.2.og) && decide (y.2.kd=2)))-> ∃n',n'<n+1/\ ∃q',n'+q'=l.length/\AV.int .i64 ((q:Int)+1)= .int .i64 (q':Int)/\AV.bool b= .bool (decide (p.2.og=0) || ((rcs l).take q').any fun y=>decide (y.id=p.2.og) && decide (y.kd=2)):=fun b hb=>⟨n,oM,q+1,oM,by push_cast;rfl,by rw [hst,hb]⟩
   generalize (decide (p.2.og=0) || ((rcs l).take q).any fun y=>decide (y.id=p.2.og) && decide (y.kd=2))=b0 at *
   clear hst;cases b0 with
   |true=>have F:=J8 @t2 @t3 @t11 @t10 @g0 @g1 @tb_1 @hl;refine uT ?_;clear F;exact goal true (by simp)
   |false =>
    cases b1:decide (y.2.id=p.2.og) with
    |false =>
     rw [b1] at goal;have F:=J13 @t2 @t3 @t11 @t10 @g0 @g1 @tb_1 @hl @hix @hf0 @hl0 @rc_41 @b1;refine uT ?_;clear F;exact goal false (by simp)
    |true =>
     rw [b1] at goal;have F:=J15 @t2 @t3 @t11 @t10 @g0 @g1 @tb_1 @hl @hix @hf0 @hl0 @hf2 @hl2 @rc_41 @b1;refine uT ?_;clear F;exact goal _ (by simp)
def recB (t:Tb):Bool:=((List.range t.rs.length).all fun i=>aloneB (get t.rs i) && ordB t.rs i) && ((List.range t.rs.length).all fun i=>relB t i)
theorem zjf1 (t:Tb):ztb t=(headB t && recB t):=rfl
theorem rec_f1 {t:Tb}{q:Nat}(hq:q<t.rs.length) (h:(aloneB (get t.rs q) && ordB t.rs q)=false):recB t=false:=by
 rw [qf3];intro hc;unfold recB at hc;rw [qm,qb1,qb1] at hc;rw [hc.1 q (qc3.2 hq)] at h;cases h
theorem zfn1 {t:Tb}{q:Nat}(hq:q<t.rs.length) (h:relB t q=false):recB t=false:=by
 rw [qf3];intro hc;unfold recB at hc;rw [qm,qb1,qb1] at hc;rw [hc.2 q (qc3.2 hq)] at h;cases h
theorem rec_t {t:Tb}(h1:∀q,q<t.rs.length->(aloneB (get t.rs q) && ordB t.rs q)=true/\relB t q=true):recB t=true:=by
 unfold recB;rw [qm,qb1,qb1];exact ⟨fun i hi=>(h1 i (qc3.1 hi)).1,fun i hi=>(h1 i (qc3.1 hi)).2⟩
set_option maxHeartbeats 16000000 in
theorem drec_ok {H:AH}[hn:HN H]{nn:Int}{v lv:AV}{l:List (AV×Rc)}(hsl:SlRc H v l) (hlen:l.length<=1000000) (hs:∀p,p∈l->p.2.nm.size<=1000000) :
  FnE lookM 102 [tbA nn v lv] H fun r H'=>r= .bool (recB ⟨nn,rcs l⟩)/\HX H H':=by
 refine zud f102_eq rfl rfl ?_;have hlo:=hn.lo;have hl:=fun H'=>zwc (H':=H') uRs hsl.is
 have hx1:HX H (H.new (.cells (.lst (tbL nn v lv)) 53 7 false false)):=HX.new _ _;have F:=J2 f102c.eq_1 @zba;refine uT ?_;refine rc_lp zif1 (fun n T H'=> ∃q,n+q=l.length/\HX (H.new (.cells (.lst (tbL nn v lv)) 53 7 false false)) H'/\gT T 1= .ptr H.next 0/\gT T 3= .int .i64 q/\(∀j,j<q->(aloneB (get (rcs l) j) && ordB (rcs l) j)=true/\relB ⟨nn,rcs l⟩ j=true)) l.length ?_ ?_
 ·exact ⟨0,rfl,HX.refl _,vT0,by refine uT0 ?_;rfl,fun j h=>absurd h (qb4 _)⟩
 rintro n T H2 ⟨q,hnq,hx2,g1,g3,hall⟩;have hx02:=hx1.trans hx2;have hg2:=(hx2.get (i:=H.next) (qc1 _)).trans (zaa _);haveI:=hx02.hn;have hlo2:=(HN.lo:H2.lo<=H2.next);have hn2:H.next+1<=H2.next:=hx2.next;unfold f102l0;cases n with
 |zero =>
  have hc:recB ⟨nn,rcs l⟩=true:=rec_t fun j hj=>hall j (by rw [zkb] at hj;omega)
  rw [hc];have F:=J5 @g1 @g3 @hg2 @tb_1 @hl;refine uT ?_;exact hx02
 |succ n =>
  have hq:q<l.length:=oM
  obtain ⟨p,hk⟩:∃p,l[q]? =some p:=⟨_,qr hq⟩
  have hmem:p∈l:=qz.2 ⟨q,hk⟩;have hix:=ix44 (z:=44) (q:=q) hsl.is hq;have hld:=(hsl.hx hx02).agg hk;have hp1:=zjr (hsl.holeAt hk);have hgp:=zxi hk;have F:=J9 @g1 @g3 @hg2 @tb_1 @hl @hix @hld @zra @zzd;refine uT ?_;refine cR_at (fun H3=>HX H2 H3/\H3.next=H2.next+1/\H3.get H2.next=some (.cells (.lst (rcL p)) 84 44 false false)) ?_ ?_
  ·exact ⟨hxt,rfl,by rw [zfa]⟩
  rintro H3 ⟨hx3,hn3,hg3x⟩;have hx03:=hx02.trans hx3;haveI:=hx03.hn;refine cR_f (dmay_ok ((hsl.hx hx03).holeAt hk) (hs p hmem)) ?_;rintro r4 H4 ⟨rfl,hx4⟩;have hx04:=hx03.trans hx4;have hx14:=(hx2.trans hx3).trans hx4;have hn4:=hx4.next;have hg4:=((hx3.trans hx4).get oM).trans hg2
  have hg4x:=(hx4.get oM).trans hg3x
  haveI:=hx04.hn;have no1:(aloneB p.2 && ordB (rcs l) q)=false->AV.bool false= .bool (recB ⟨nn,rcs l⟩):=fun h=>by
   rw [rec_f1 (t:=⟨nn,rcs l⟩) (q:=q) (by rw [zkb];exact hq) (by show (aloneB (get (rcs l) q) && _)=false;rw [hgp];exact h)]
  have no2:relB ⟨nn,rcs l⟩ q=false->AV.bool false= .bool (recB ⟨nn,rcs l⟩):=fun h=>by
   rw [zfn1 (t:=⟨nn,rcs l⟩) (q:=q) (by rw [zkb];exact hq) h]
  have erel:relB ⟨nn,rcs l⟩ q=(((rcs l).take q).all (fun y=>decide (y.id≠p.2.id)) && (decide (p.2.id<nn) && kinB (rcs l) p.2)):=by
   unfold relB;simp only [hgp]
  cases a3:aloneB p.2 with
  |false =>
   have F:=J4 @g1 @g3 @hg4 @hg4x;refine uT ?_;exact ⟨no1 (by rw [a3];rfl),hx04⟩
  |true =>
  have elt:decide (nn<=p.2.id)= !decide (p.2.id<nn):=by rw [ql2];simp
  cases a4:decide (p.2.id<nn) with
  |false =>
   rw [a4] at elt;have F:=J7 @g1 @g3 @hg4 @hg4x @rc_0 @tb_0 @elt;refine uT ?_;exact ⟨no2 (by rw [erel,a4];simp),hx04⟩
  |true =>
  rw [a4] at elt;have rest:∀(T:Tr AV) (H5:AH),ordB (rcs l) q=true->HX H4 H5->gT T 1= .ptr H.next 0->gT T 3= .int .i64 q->gT T 4= .ptr H2.next 0->gT T 5= .int .i64 0 ->
    ∀(ss:List Kf) (Q:PostC),
    (∀H',HX H H'->(recB ⟨nn,rcs l⟩=false)-> ∀T',RN lookM ss .ret (pS 2 (.bool false) T') H' Q) ->
    (∀T' H',HX H5 H'->gT T' 1= .ptr H.next 0->gT T' 3= .int .i64 q->relB ⟨nn,rcs l⟩ q=true->RN lookM ss .normal T' H' Q) ->
    RC lookM (.loop zdn1) (.blk 2:: .seq (.seq (.reg (lN_ 7 (tO 1) 59<|lN_ 44 (tO 4) 60<|cl_ false 108 [(tO 59),(tO 60)] 61<|nt_ (tO 61) 62<| .done))
      (.cond (tO 62) (.seq (.reg (m_ (.con (.bool false)) 2<| .done)) .ret) .skip))::ss) T H5 Q:=by
   intro T H5 eo hx5 g1 g3 g4 g5 ss Q hret hgo;have hx05:=hx04.trans hx5;have hg5:=(hx5.get oM).trans hg4
   have hg5x:=(hx5.get oM).trans hg4x
   have hn5:=hx5.next;haveI:=hx05.hn;refine rc_lp zhf1 (fun n T H'=> ∃k,n+k=q/\H'=H5/\gT T 1= .ptr H.next 0/\gT T 3= .int .i64 q/\gT T 4= .ptr H2.next 0/\gT T 5= .int .i64 k/\((rcs l).take k).all (fun y=>decide (y.id≠p.2.id))=true) q ?_ ?_
   ·exact ⟨0,rfl,rfl,g1,g3,g4,g5,by simp⟩
   rintro n T H' ⟨k,hnk,rfl,g1,g3,g4,g5,hin⟩;unfold f102l1;cases n with
   |zero =>
    have hkq:k=q:=oM
    subst hkq;have d0:decide ((k:Int)<(k:Int))=false:=qp oM
    have F:=J9 @g1 @g3 @g4 @g5 @d0 @hg5 @hg5x @zda @zzd;refine uT ?_;refine cR_f (dkin_ok (hsl.hx hx05) hlen (hs p hmem) ((hsl.hx hx05).holeAt hk)) ?_;rintro r6 H6 ⟨rfl,hx6⟩;cases a5:kinB (rcs l) p.2 with
    |false =>
     refine uT0 ?_;exact hret _ (hx05.trans hx6) (zfn1 (t:=⟨nn,rcs l⟩) (q:=k) (by rw [zkb];exact hq) (by rw [erel,a5];simp)) _
    |true =>
     refine uT0 ?_;refine hgo _ _ hx6 (by have F:=@g1;exact vT) (by have F:=@g3;exact vT) ?_
     rw [erel,a5,a4,hin];rfl
   |succ n =>
    have hkl:k<l.length:=oM
    obtain ⟨y,hy⟩:∃p,l[k]? =some p:=⟨_,qr hkl⟩
    have hy2:(rcs l)[k]? =some y.2:=by rw [qi1,hy];rfl
    have hix:=ix44 (z:=44) (q:=k) hsl.is hkl;have hf0:=fa_el hsl.is hkl 44 0;have hl0:=(hsl.hx hx05).fld hy (j:=0) (x:=.int .i64 y.2.id) rfl;have d0:decide ((k:Int)<(q:Int))=true:=qo oM
    by_cases c:y.2.id=p.2.id
    ·have d:decide (y.2.id=p.2.id)=true:=qo c
     have F:=J13 @g1 @g3 @g4 @g5 @d0 @hg5 @hg5x @tb_1 @rc_0 @hix @hf0 @hl0 @d;refine uT ?_;refine hret _ hx05 (zfn1 (t:=⟨nn,rcs l⟩) (q:=q) (by rw [zkb];exact hq) ?_) _
     rw [erel];have:((rcs l).take q).all (fun y=>decide (y.id≠p.2.id))=false:=by
      rw [qf3];intro hc;rw [qb1] at hc;have hm:y.2∈(rcs l).take q:=qz.2 ⟨k,by rw [qa2 oM];exact hy2⟩
      have:=hc _ hm;simp [c] at this
     rw [this];rfl
    ·have d:decide (y.2.id=p.2.id)=false:=qp c
     have F:=J13 @g1 @g3 @g4 @g5 @d0 @hg5 @hg5x @tb_1 @rc_0 @hix @hf0 @hl0 @d;refine uT ?_;refine ⟨n,oM,k+1,oM,by push_cast;rfl,?_⟩
     rw [qi4,hy2,qi3,qd6,hin];simp [c]
  have fin:∀{H5:AH},HX H4 H5->ordB (rcs l) q=true->relB ⟨nn,rcs l⟩ q=true-> ∃n',n'<n+1/\ ∃q',n'+q'=l.length/\HX (H.new (.cells (.lst (tbL nn v lv)) 53 7 false false)) H5/\AV.int .i64 ((q:Int)+1)= .int .i64 (q':Int)/\(∀j,j<q'->(aloneB (get (rcs l) j) && ordB (rcs l) j)=true/\relB ⟨nn,rcs l⟩ j=true):=by
   intro H5 hx5 e1 e2;refine ⟨n,oM,q+1,oM,hx14.trans hx5,by push_cast;rfl,fun j hj=> ?_⟩
   rcases qf2 j q with h|h
   ·exact hall j h
   ·have:j=q:=oM
    subst this;exact ⟨by rw [hgp,a3,e1];rfl,e2⟩
  rcases qp3 q with h0|h0
  ·subst h0
   have e0:decide ((0:Int)<((0:Nat):Int))=false:=rfl;have F:=J8 @g1 @g3 @hg4 @hg4x @rc_0 @tb_0 @elt @e0;refine uT ?_;refine rest _ _ rfl (HX.refl _) (by have F:=@g1;exact vT) (by have F:=@g3;exact vT) vT0 vT0 _ _ ?_ ?_
   ·intro H' hx' hr T'
    rw [hr];refine uT0 ?_;exact hx'
   ·intro T' H' hx' k1 k3 hr
    have F:=J2 @k1 @k3;refine uT ?_;exact fin hx' rfl hr
  ·obtain ⟨m,rfl⟩:∃m,q=m+1:=⟨q - 1,oM⟩
   have e0:decide ((0:Int)<((m+1:Nat):Int))=true:=qo oM
   have e1:((m+1:Nat):Int) - 1=(m:Int):=oM
   have hm:m<l.length:=oM
   obtain ⟨p',hk'⟩:∃p,l[m]? =some p:=⟨_,qr hm⟩
   have hmem':p'∈l:=qz.2 ⟨m,hk'⟩;have hix':=ix44 (z:=44) (q:=m) hsl.is hm;have hqf:=fa_el hsl.is hm 44 1;have hqd:=(hsl.hx hx04).fld hk' (j:=1) (x:=.str p'.2.nm) rfl;have eo:ordB (rcs l) (m+1)=lessB p'.2.nm p.2.nm:=by
    unfold ordB;rw [qy6,zxi hk',hgp];simp
   have hle:= @FnX.p _ _ _ _ (zha1 p'.2.nm p.2.nm (hs p' hmem') (hs p hmem));cases a6:lessB p'.2.nm p.2.nm with
   |false =>
    have F:=J16 @g1 @g3 @hg4 @hg4x @rc_0 @tb_0 @elt @e0 @e1 @tb_1 @rc_1 @hix' @hqf @hqd @hle @a6;refine uT ?_;exact ⟨no1 (by rw [eo,a6,ql3]),hx04⟩
   |true =>
    have F:=J16 @g1 @g3 @hg4 @hg4x @rc_0 @tb_0 @elt @e0 @e1 @tb_1 @rc_1 @hix' @hqf @hqd @hle @a6;refine uT ?_;refine rest _ _ (by rw [eo,a6]) (HX.refl _) (by have F:=@g1;exact vT) (by have F:=@g3;exact vT) vT0 vT0 _ _ ?_ ?_
    ·intro H' hx' hr T'
     rw [hr];refine uT0 ?_;exact hx'
    ·intro T' H' hx' k1 k3 hr
     have F:=J2 @k1 @k3;refine uT ?_;exact fin hx' (by rw [eo,a6]) hr
theorem dcur_ok {H:AH}[hn:HN H]{n:Int}:FnE lookM 103 [.agg cu0,.int .i64 n] H fun r H'=>r= .bool true/\HX H H':=by
 refine fI Tryz.f103 ?_;have F:=J3 @cu_all @cu_bu @cu_q;refine uT ?_
 (exact fin0)
theorem zkf1 {H:AH}[hn:HN H]{nn:Int}{v lv:AV}{l:List (AV×Rc)}(hsl:SlRc H v l) (hlv:Lv H lv) (hlen:l.length<=1000000) (hs:∀p,p∈l->p.2.nm.size<=1000000) :
  FnE lookM 90 [tbA nn v lv] H fun r H'=>r= .int .i64 (chkI ⟨nn,rcs l⟩)/\HX H H':=by
 refine fI Tryz.f90 ?_;have hl:=fun H'=>zwc (H':=H') uRs hsl.is
 have hll:=fun H'=>zym1 (H':=H') hlv
 have hw2:wi 2 2 8=true:=dC
 have hw0:wi 0 0 2147483647=true:=dC
 have hhd:headB ⟨nn,rcs l⟩=(wi nn 1 2147483648 && !decide (16<(l.length:Int))):=by
  unfold headB;simp only [zkb];congr 1;rw [ql2];simp;omega
 cases a1:wi nn 1 2147483648 with
 |false =>
  have hc:chkI ⟨nn,rcs l⟩=2:=by unfold chkI;rw [chk_h (by rw [hhd,a1];rfl)];rfl
  rw [hc];have F:=J4 @zba @tb_0 @zze @a1;refine uT ?_;(exact fin0)
 |true =>
 by_cases a2:(16:Int)<(l.length:Int)
 ·have hc:chkI ⟨nn,rcs l⟩=2:=by unfold chkI;rw [chk_h (by rw [hhd,qo a2];simp)];rfl
  rw [hc];have d2:decide ((16:Int)<(l.length:Int))=true:=qo a2;have F:=J7 @zba @tb_0 @tb_1 @hl @zze @a1 @d2;refine uT ?_;(exact fin0)
 have d2:decide ((16:Int)<(l.length:Int))=false:=qp a2;have hh:headB ⟨nn,rcs l⟩=true:=by rw [hhd,a1,d2];rfl
 have hcr:chkI ⟨nn,rcs l⟩=if recB ⟨nn,rcs l⟩ then 0 else 2:=by unfold chkI;rw [zjf1,hh,qo2]
 rw [hcr];have hx1:HX H (H.new (.cells (.lst (tbL nn v lv)) 53 7 false false)):=HX.new _ _;have F:=J10 @zba @tb_0 @tb_1 @tb_6 @hl @hll @zze @a1 @d2 @hw2;refine uT ?_;have i0:=lv_i0 hlv;have i1:=lv_i1 hlv;have e0:=lv_0 (SlR.hx hlv hx1);have e1:=lv_1 (SlR.hx hlv hx1);refine rc_l (fun n T H'=>H'=H.new (.cells (.lst (tbL nn v lv)) 53 7 false false)/\gT T 1= .ptr H.next 0/\((n=2/\gT T 3= .int .i64 0)\/(n=1/\gT T 3= .int .i64 1)\/(n=0/\gT T 3= .int .i64 2))) 2 ?_ ?_
 ·exact ⟨rfl,vT0,.inl ⟨rfl,vT0⟩⟩
 rintro n T H' ⟨rfl,g1,⟨rfl,g3⟩|⟨rfl,g3⟩|⟨rfl,g3⟩⟩
 ·have F:=J8 @g1 @g3 @tb_6 @hll @i0 @e0 @zze @hw0;refine uT ?_
  exact ⟨1,oM,.inr (.inl ⟨rfl,rfl⟩)⟩
 ·have F:=J8 @g1 @g3 @tb_6 @hll @i1 @e1 @zze @hw0;refine uT ?_
  exact ⟨0,oM,.inr (.inr ⟨rfl,rfl⟩)⟩
 ·have F:=J5 @g1 @g3 @tb_6 @hll @zda;refine uT ?_
  refine cR_f (drec_ok (hsl.hx hx1) hlen hs) ?_;rintro r2 H2 ⟨rfl,hx2⟩;have hx02:=hx1.trans hx2;have hg2:=(hx2.get (i:=H.next) (qc1 _)).trans (zaa _);haveI:=hx02.hn;cases a3:recB ⟨nn,rcs l⟩ with
  |false=>refine uT0 ?_;exact hx02
  |true =>
   have F:=J5 @g1 @hg2 @tb_cu @tb_6 @hll;refine uT ?_;refine cR_f dcur_ok ?_;rintro r3 H3 ⟨rfl,hx3⟩;refine uT0 ?_;exact hx02.trans hx3
theorem ld35 (i o:Nat) (H:AH):zvb lookM 82 (.ptr i o) H=ldN 35 (.ptr i o) H:=zdh kR kR
theorem ld44 (i o:Nat) (H:AH):zvb lookM 84 (.ptr i o) H=ldN 44 (.ptr i o) H:=zdh kR kR
theorem ld7 (i o:Nat) (H:AH):zvb lookM 53 (.ptr i o) H=ldN 7 (.ptr i o) H:=zdh kR kR
theorem zla1 {H:AH}[hn:HN H]:FnE lookM 149 [roA .nilSl] H fun r H'=>r=roA .nilSl/\HX H H':=by
 refine fI Tryz.f149 ?_;have hlo:=hn.lo;have ht:AV.toC (roA .nilSl)= .lst (roL .nilSl):=rfl;have h1:(roL .nilSl).all AV.oneCell=true:=rfl;have hcl:= @FnX.p _ _ _ _ zbu;have hst:∀(i o:Nat) (H:AH),H.lo<=i->st1 lookM 78 (.ptr i o) .nilSl H=wr1 (H.get i) i o .nilSl H:=fun i o H h=>st1_w szA rfl rfl h
 have htn:∀l:List AV,AV.toC (.agg (.nilSl::l))= .lst (.nilSl::l):=fun l=>rfl
 have hs0:(roL .nilSl).set 0 .nilSl=roL .nilSl:=rfl;have he:=hEq_f (oM:H.next≠H.next+1)
 have he2:=hEq_f (oM:H.next+1≠H.next)
 have F:=J10 @ht @htn @ro_0 @zbf1 @hcl @hst @hs0 @he @he2 @ld35;refine uT ?_
 (exact fin0)
def cmpN (a b:ByteArray):Int:=if lessB a b then -1 else if lessB b a then 1 else 0
theorem zxi1 {H:AH}[hn:HN H](p q:AV×Rc) (hp:p.2.nm.size<=1000000) (hq:q.2.nm.size<=1000000) :
  FnE lookM 173 [.agg (rcL p),.agg (rcL q)] H fun r H'=>r= .int .i64 (cmpN p.2.nm q.2.nm)/\HX H H':=by
 refine fI Tryz.f173 ?_;have he:=hEq_f (oM:H.next≠H.next+1)
 have F:=J3 @zra @rc_1 @he;refine uT ?_;refine cR_at (fun H1=>HX H H1/\H1.next=H.next+2/\H1.get H.next=some (.cells (.lst (rcL p)) 84 44 false false)/\H1.get (H.next+1)=some (.cells (.lst (rcL q)) 84 44 false false)) ?_ ?_
 ·exact ⟨hxt,rfl,by rw [zmf _ (oM:H.next≠H.next+1),zaa],zaa _⟩
 rintro H1 ⟨hx1,hn1,g1,g2⟩;haveI:=hx1.hn;refine cR_f (zwz _ _ hp hq _) ?_;rintro r H2 ⟨rfl,hx2⟩;have k1:=(hx2.get oM).trans g1
 have k2:=(hx2.get oM).trans g2
 haveI:=(hx1.trans hx2).hn;unfold cmpN;cases a1:lessB p.2.nm q.2.nm with
 |true=>refine uT0 ?_;(exact fin0)
 |false =>
  have F:=J3 @k1 @k2 @rc_1;refine uT ?_;refine cR_f (zwz _ _ hq hp _) ?_;rintro r H3 ⟨rfl,hx3⟩;cases a2:lessB q.2.nm p.2.nm with
  |true=>refine uT0 ?_;(exact fin0)
  |false=>refine uT0 ?_;(exact fin0)
theorem cmpN_lt (a b:ByteArray):decide (cmpN a b<0)=lessB a b:=by
 unfold cmpN;cases h:lessB a b with
 |true=>rfl
 |false=>cases h2:lessB b a<;>rfl
theorem nl_at {rs:List Rc}{k:Nat}(hk:k<rs.length):(nl rs)[k]? =some (AV.nilSl,get rs k):=by
 rw [qi1,get_lt hk];rfl
theorem zfm {rs:List Rc}{k:Nat}(hk:k<rs.length):get rs k∈rs:=qz.2 ⟨k,get_lt hk⟩
abbrev fLay:AV:=.fn (.func 173) [] []
theorem bs_ok {H:AH}[hn:HN H]{v:AV}{rs:List Rc}{x:Rc}(h:SlRc H v (nl rs)) (hlen:rs.length<=1000000) (hs:Srt rs) (hb:∀r,r∈rs->r.nm.size<=1000000) (hx:x.nm.size<=1000000) :
  FnE lookM 172 [v,.agg (rcL (.nilSl,x)),fLay] H fun r H'=>(∃b,r= .tup [.int .i64 (plc x rs:Nat),.bool b])/\HX H H':=by
 refine fI Tryz.f172 ?_;have hl:∀H',fstO (zea .len lookM [49] [v] H')=some (.int .i64 rs.length):=fun H'=>by have:=zwc (H':=H') uRs h.is;rwa [zhc] at this
 have F:=J2 @hl @zra;refine uT ?_;refine rc_l (fun n T H'=> ∃i j:Nat,n+i=j/\j<=rs.length/\(∀k,k+1=i->lessB (get rs k).nm x.nm=true)/\(j<rs.length->lessB (get rs j).nm x.nm=false)/\HX (H.new (.cells (.lst (rcL (.nilSl,x))) 84 44 false false)) H' /\
  gT T 0=v/\gT T 2=fLay/\gT T 4= .ptr H.next 0/\gT T 8= .int .i64 rs.length/\gT T 9= .int .i64 i/\gT T 10= .int .i64 j) rs.length ?_ ?_
 ·exact ⟨0,rs.length,rfl,qn _,fun k hk=>oM,fun h=>absurd h (qu5 _),HX.refl _,vT0,vT0,vT0,vT0,by refine uT0 ?_;rfl,vT0⟩
 rintro n T H1 ⟨i,j,hij,hj,hi1,hj1,hx1,g0,g2,g4,g8,g9,g10⟩;have hgx:=(hx1.get (i:=H.next) (qc1 _)).trans (zaa _);have hx01:=(HX.new H (.cells (.lst (rcL (.nilSl,x))) 84 44 false false)).trans hx1;haveI:=hx01.hn;cases n with
 |zero =>
  have e:i=j:=oM
  subst e;have hpl:plc x rs=i:=zem1 hs hj (fun r h0 hr=>by
   have:=hi1 (i - 1) oM
   rwa [zeh hr] at this) (fun r hr=>by
   have:=hj1 (qq.1 hr).1
   rwa [zeh hr] at this)
  rw [hpl];have d0:decide ((i:Int)<(i:Int))=false:=by simp
  rcases qf2 i rs.length with hlt|hge
  ·have d1:decide ((i:Int)<(rs.length:Int))=true:=qo oM
   have hix:=ix44 (z:=44) (q:=i) (h.hx hx01).is (by rw [zhc];exact hlt)
   have hld:=(h.hx hx01).agg (nl_at hlt);have F:=J12 @g0 @g2 @g4 @g8 @g9 @g10 @d0 @d1 @hix @hld @hgx @zzd;refine uX ?_;refine cR_f (zxi1 _ _ (hb _ (zfm hlt)) hx) ?_;rintro r2 H2 ⟨rfl,hx2⟩;refine uT0 ?_;exact ⟨⟨_,rfl⟩,hx01.trans hx2⟩
  ·have d1:decide ((i:Int)<(rs.length:Int))=false:=qp oM
   have F:=J8 @g0 @g2 @g4 @g8 @g9 @g10 @d0 @d1;refine uT ?_;exact ⟨⟨_,rfl⟩,hx01⟩
 |succ n =>
  obtain ⟨m,hm⟩:∃m,m=(i+j) / 2:=⟨_,rfl⟩
  have hmi:i<=m:=oM
  have hmj:m<j:=oM
  have hml:m<rs.length:=oM
  have d0:decide ((i:Int)<(j:Int))=true:=qo oM
  have hcv:cvI .u64 (.int .i64 ((i:Int)+j))=some (.int .u64 ((i:Int)+j)):=cv_u _ oM oM
  have hsh:∀s,binF .shr s (.int .u64 ((i:Int)+j)) (.int .u64 1)=some (.int .u64 (m:Int)):=fun s=>by
   rw [shr1];exact qj4 (fun x=>some (AV.int .u64 x)) oM
  have hcv2:cvI .i64 (.int .u64 (m:Int))=some (.int .i64 (m:Int)):=cv_i _ oM oM
  have hix:=ix44 (z:=44) (q:=m) (h.hx hx01).is (by rw [zhc];exact hml)
  have hld:=(h.hx hx01).agg (nl_at hml);have F:=J14 @g0 @g2 @g4 @g8 @g9 @g10 @d0 @hcv @hsh @hcv2 @hix @hld @hgx @zzd;refine uX ?_;refine cR_f (zxi1 _ _ (hb _ (zfm hml)) hx) ?_;rintro r2 H2 ⟨rfl,hx2⟩;have hlt:=cmpN_lt (get rs m).nm x.nm;cases a1:lessB (get rs m).nm x.nm with
  |true =>
   rw [a1] at hlt;have F:=J7 @g0 @g2 @g4 @g8 @g9 @g10 @hlt;refine uT ?_;exact ⟨j - (m+1),oM,m+1,j,oM,hj,fun k hk=>(oM:k=m)▸a1,hj1,hx1.trans hx2,by push_cast;rfl,rfl⟩
  |false =>
   rw [a1] at hlt;have F:=J7 @g0 @g2 @g4 @g8 @g9 @g10 @hlt;refine uT ?_;exact ⟨m - i,oM,i,m,oM,oM,hi1,fun _=>a1,hx1.trans hx2,rfl,rfl⟩
theorem zgn1 (a b:List Rc):encC rcL (nl (a ++ b))=encC rcL (nl a) ++ encC rcL (nl b):=by
 show encC rcL ((a ++ b).map _)=_
 rw [qe3,zui]
theorem zyi1 (r:Rc):encC rcL (nl [r])=rcL (.nilSl,r):=by show encC rcL [(AV.nilSl,r)]=_;unfold encC;simp
theorem enc_ins (rs:List Rc) (r:Rc) (p:Nat):(encC rcL (nl rs)).take (p*44) ++ rcL (.nilSl,r) ++ (encC rcL (nl rs)).drop (p*44)=encC rcL (nl (rs.take p ++ r::rs.drop p)):=by
 rw [zqe zqa,zof zqa,zgn1,show r::rs.drop p= [r] ++ rs.drop p from rfl,zgn1,zyi1,qg1]
 show encC rcL ((rs.map _).take p) ++ (_ ++ encC rcL ((rs.map _).drop p))=encC rcL ((rs.take p).map _) ++ (_ ++ encC rcL ((rs.drop p).map _))
 rw [qm5,qn5]
theorem insx:lookM.ext 175=some HS.Ins.xInsert:=rfl
theorem slE_ls {L:Lk}{t e z:Nat}(ht:L.under t=some (.slice e)) (hz:L.size e=some z) (i n c:Nat) (op:Bool) (hc:n<=c):∃v,zxa L t true false false [.sl i 0 n c op,.int .i64 (n:Int)]=some v:=by
 show ∃v,zfb L t (.sl i 0 n c op) (some (.int .i64 (n:Int))) none none=some v
 unfold zfb;simp only [maxOk,bndOf,ht,hz,natOf];rw [show Nat.ble n n=true from qh (qn _),show Nat.ble n c=true from qh hc]
 cases op with
 |false=>exact ⟨_,rfl⟩
 |true =>
  show ∃v,(match Nat.beq c n with|true=>(match Nat.beq 0 0 with|true=>some (AV.ext 1 i (c*z+1))|false=>none)|false=>some (AV.sl i (0+n*z) (n - n) (c - n) true))=some v
  cases Nat.beq c n<;>exact ⟨_,rfl⟩
theorem zlf1 {H:AH}[hn:HN H]{v:AV}{rs:List Rc}{N p j:Nat}{r:Rc}(h:OwR H v rs N) (hlen:rs.length<=1000) (hp:p<=rs.length) (hj:Row H j false false 84 44 (rcL (.nilSl,r))) (hjn:j<H.next) (hjb:blkNe v j) (hlo:H.lo<=N) (hN:N<=H.next) :
  FnE lookM 175 [v,.int .i64 (p:Int),.sl j 0 1 1 false] H fun s' H'=>OwR H' s' (rs.take p ++ r::rs.drop p) N/\HP (blkNe v) H H'/\(∀k,k<H.next->blkNe v k->blkNe s' k)/\s'.oneCell=true/\s'.toC= .lst [s']:=by
 have hll:(rs.take p ++ r::rs.drop p).length=rs.length+1:=by simp;omega
 rcases qf2 p rs.length with hlt|hge
 ·obtain ⟨h0,⟨rfl,h00⟩|⟨b,op,rfl,⟨cb,hg,hcb⟩,hNb,hb,hop⟩⟩:=h
  ·omega
  have hop:=hop oM;subst hop
  have hjb:j≠b:=fun e=>by subst e;exact hjb 0 rs.length rs.length true rfl
  obtain ⟨cj,hgj,hcj⟩:=hj;have hcjl:cj.l.length=44:=by rw [hcj];rfl
  obtain ⟨cv,hsub,hcv⟩:=Ce.sub_ex (c:=cj) (o:=0) (n:=44) oM
  have hcv:cv.l=rcL (.nilSl,r):=by rw [hcv,qt2,qx oM,hcj]
  have hx:HS.Ins.xInsert [.sl b 0 rs.length rs.length true,.int .i64 (Int.ofNat p),.sl j 0 1 1 false] H=some (.sl H.next 0 (rs.length+1) (rs.length+1) true,(H.drop b).new (.cells (.lst (HS.Ins.insL cb.l cv.l (p*44))) 84 44 true false)):=by
   have hsub':H.subC j 0 44=some cv:=by unfold AH.subC;rw [hgj];exact hsub
   unfold HS.Ins.xInsert;simp only [hn.hide];rw [show Nat.ble H.lo b=true from qh oM,show Nat.beq j b=false from by cases hq:Nat.beq j b with|false=>rfl|true=>exact absurd (qi hq) hjb,hg,hgj,hsub']
   simp only;have c1:Nat.beq rs.length rs.length=true:=qr2 _;have c2:Nat.blt p rs.length=true:=by rw [qa5];exact hlt
   have c3:Nat.beq cb.len (rs.length*44)=true:=by rw [Ce.len_l,hcb,h0];exact qr2 _
   have c4:Nat.beq cv.len 44=true:=by rw [Ce.len_l,hcv];rfl
   have c5:cv.one=true:=zhg (by rw [hcv];exact zbc _ rfl)
   have c6:cb.l.all AV.oneCell=true:=by rw [hcb];exact zbn1 rs
   have c7:Nat.blt 0 cj.len=true:=by rw [qa5,Ce.len_l,hcjl];omega
   have c8:Nat.ble rs.length 1000000=true:=qh oM
   rw [c1,c2,c3,c4,c5,c6,c7,c8];rfl
  refine (zcm insx hx).mono ?_;rintro r' H' ⟨rfl,rfl⟩;have hrow:Row ((H.drop b).new (.cells (.lst (HS.Ins.insL cb.l cv.l (p*44))) 84 44 true false)) H.next false true 84 44 (encC rcL (nl (rs.take p ++ r::rs.drop p))):=by
   have h1:Row ((H.drop b).new (.cells (.lst (HS.Ins.insL cb.l cv.l (p*44))) 84 44 true false)) (H.drop b).next false true 84 44 _:=Row.new (H:=H.drop b) hn.hide _ _ _ _ _;have h2:(Ce.lst (HS.Ins.insL cb.l cv.l (p*44))).l=encC rcL (nl (rs.take p ++ r::rs.drop p)):=by
    show HS.Ins.insL cb.l cv.l (p*44)=_
    unfold HS.Ins.insL;rw [hcb,hcv,enc_ins]
   rw [h2] at h1;exact h1
  refine ⟨⟨?_,.inr ⟨H.next,true,?_,hrow,hN,qc1 _,fun _=>rfl⟩⟩,?_,fun k hk _=>zla oM,rfl,rfl⟩
  ·rw [znc zqa,zhc]
  ·rw [hll]
  ·have h1:HP (·≠ b) H (H.drop b):=HP.put H b .defd
   have h2:HX (H.drop b) ((H.drop b).new (.cells (.lst (HS.Ins.insL cb.l cv.l (p*44))) 84 44 true false)):=HX.new _ _;exact h1.trans (h2.hp (fun _=>True)) fun i hi hb'=>⟨fun e=>by subst e;exact hb' 0 _ _ _ rfl,trivial⟩
 ·have hpe:p=rs.length:=oM
  subst hpe;rw [qm6,List.drop_length];have hxn:extS lookM 175 [v,.int .i64 (rs.length:Int),.sl j 0 1 1 false] H=none:=by
   unfold extS;rw [insx];show HS.Ins.xInsert [v,.int .i64 (Int.ofNat rs.length),.sl j 0 1 1 false] H=none
   rcases h.2 with ⟨rfl,_⟩|⟨b,op,rfl,_⟩
   ·rfl
   ·cases op with
    |false=>rfl
    |true =>
     unfold HS.Ins.xInsert;simp only [hn.hide];have c2:Nat.blt rs.length rs.length=false:=by cases hq:Nat.blt rs.length rs.length with|false=>rfl|true=>rw [qa5] at hq;exact absurd hq (qu5 _)
     split
     ·rw [c2];simp
     ·rfl
  refine zdf1 zvt hxn rfl ?_;have hl:∀H',fstO (zea .len lookM [49] [v] H')=some (.int .i64 rs.length):=fun H'=>zwc uRs (SlZ.is h.slZ)
  have hl1:∀H',fstO (zea .len lookM [49] [.sl j 0 1 1 false] H')=some (.int .i64 1):=fun H'=>rfl
  obtain ⟨u,hu⟩:∃u,zxa lookM 49 true false false [v,.int .i64 (rs.length:Int)]=some u:=by
   rcases h.2 with ⟨rfl,h00⟩|⟨b,op,rfl,_⟩
   ·rw [h00];exact ⟨.nilSl,kR⟩
   ·exact slE_ls uRs sz3 b rs.length rs.length op (qn _)
  obtain ⟨s',H',ha,ho,hp2,hnx,hne⟩:=OwnS.app (b:=152) h (hj.slZ hjn (n:=1) (c:=1) (op':=false) rfl) (zbc _ rfl) oM oM hlo hN
  rw [← zyi1,← zgn1] at ho;have d0:decide ((rs.length:Int)=(rs.length:Int))=true:=qo rfl;have F:=J6 f175c.eq_1 @hl @hl1 @hu @d0 @ha;refine uT ?_;have hs:s'.oneCell=true/\s'.toC= .lst [s']:=by
   rcases ho.2 with ⟨rfl,_⟩|⟨_,_,rfl,_⟩<;>exact ⟨rfl,rfl⟩
  refine ⟨?_,hp2,hne,hs.1,hs.2⟩;show OwnS H' s' (rs ++ [r]).length _ 44 _ N
  rw [qy];exact ho
theorem szR1:lookM.size 49=some 1:=kR
theorem zgj (nn:Int) (v v' lv:AV):(tbL nn v lv).set 1 v'=tbL nn v' lv:=rfl
theorem zzi1 (nn n':Int) (v lv:AV):(tbL nn v lv).set 0 (.int .i64 n')=tbL n' v lv:=rfl
theorem zha (nn:Int) (v lv:AV):(tbL nn v lv).length=7:=rfl
abbrev Fr (it:Nat) (v:AV):Nat->Prop:=fun k=>k≠it/\blkNe v k
theorem lay_ok {H:AH}[hn:HN H]{it N:Nat}{t:Tb}{v lv:AV}{x:Rc}(h:TbS H it t v lv N) (hlen:t.rs.length<=999) (hs:Srt t.rs) (hb:∀r,r∈t.rs->r.nm.size<=1000000) (hx:x.nm.size<=1000000) (hlo:H.lo<=N) (hN:N<=H.next) :
  FnE lookM 162 [.ptr it 0,.agg (rcL (.nilSl,x))] H fun r H'=>(∃v',TbS H' it ⟨t.nx,layL x t.rs⟩ v' lv N/\ ∀k,k<H.next->blkNe v k->blkNe v' k)/\HP (Fr it v) H H':=by
 refine fJ Tryz.f162 o162 ?_;have hit:=h.lt;have hge:=h.ge;have e1:=hEq_f (oM:it≠H.next)
 have F:=J5 @zra @h.box @e1 @tb_1 @zzd;refine uT ?_;have hx1:HX H (H.new (.cells (.lst (rcL (.nilSl,x))) 84 44 false false)):=HX.new _ _;refine cR_f (bs_ok (h.sl.hx hx1) oM hs hb hx) ?_
 rintro r1 H1 ⟨⟨b,rfl⟩,hx2⟩;have hx02:=hx1.trans hx2;have hgx:=(hx2.get (i:=H.next) (qc1 _)).trans (zaa _);have h1:=h.hx hx02;have hn1:=hx02.next;have hn2:H.next+1<=H1.next:=hx2.next;have hlo1:=hx02.lo;haveI:=hx02.hn;have hbs:∀H2:AH,bsF 44 1 (.agg [(.int .i64 (0)),(.str ⟨#[]⟩),(.int .i64 (0)),(.int .i64 (0)),.nilSl,(.int .i64 (0)),(.int .i64 (0)),(.int .u8 (0)),(.int .u8 (0)),(.int .u8 (0)),(.int .u8 (0)),(.int .u8 (0)),(.int .u8 (0)),(.int .u8 (0)),(.int .u8 (0)),(.int .u8 (0)),(.int .u8 (0)),(.int .u8 (0)),(.int .u8 (0)),(.int .u8 (0)),(.int .u8 (0)),(.int .u8 (0)),(.int .u8 (0)),(.int .u8 (0)),(.int .u8 (0)),(.int .u8 (0)),(.int .u8 (0)),(.int .u8 (0)),(.int .u8 (0)),(.int .u8 (0)),(.int .u8 (0)),(.int .u8 (0)),(.int .u8 (0)),(.int .u8 (0)),(.int .u8 (0)),(.int .u8 (0)),(.int .u8 (0)),(.int .u8 (0)),(.int .u8 (0)),(.int .i64 (0)),(.int .i64 (0)),(.int .i64 (0)),(.int .i64 (0)),(.int .i64 (0))]) 84 (zipF [0] [.agg (rcL (.nilSl,x))]) H2=some (.sl H2.next 0 1 1 false,H2.new (.cells (.lst (rcL (.nilSl,x))) 84 44 false false)):=fun H2=>bs1_q rfl rfl rfl
 have e2:=hEq_f (oM:it≠H1.next)
 have F:=J7 @h1.box @tb_1 @hgx @zzd @hbs @zyi @zzi;refine uT ?_;have hx3:HX H1 (H1.new (.cells (.lst (rcL (.nilSl,x))) 84 44 false false)):=HX.new _ _;have h3:=h1.hx hx3;have hrow:Row (H1.new (.cells (.lst (rcL (.nilSl,x))) 84 44 false false)) H1.next false false 84 44 (rcL (.nilSl,x)):=Row.new HN.hide _ _ _ _ _;have hjb:blkNe v H1.next:=by
  rcases h1.own.2 with ⟨rfl,_⟩|⟨j,op,rfl,_,_,hj,_⟩
  ·exact zka _
  ·exact zla oM
 refine cR_f (zlf1 h3.own oM (zrt _ _) hrow (qc1 _) hjb (by show H1.lo<=N;omega) (by show N<=H1.next+1;omega)) ?_
 rintro s' H4 ⟨ho4,hp4,hne4,hs1,hs2⟩;have hbx:blkNe v it:=OwnS.ne h3.own h3.box dC
 have hg4:=(hp4.get h3.lt hbx).trans h3.box;have hn4:=hp4.next;have hn4':H1.next+1<=H4.next:=hn4;have hlo4:H4.lo<=it:=by rw [hp4.lo];show H1.lo<=it;omega
 have hst:=st1_w (L:=lookM) (t:=49) (i:=it) (o:=1) (H:=H4) szR1 hs1 hs2 hlo4;have hwr:=wr1_l (i:=it) (o:=1) (v:=s') (H:=H4) (l:=tbL t.nx v lv) (e:=53) (z:=7) (op:=false) (by show 1<7;omega)
 have F:=J4 @hst @hg4 @hwr @zgj;refine uT ?_;have hxx:HP (Fr it v) H (H4.put it (.cells (.lst (tbL t.nx s' lv)) 53 7 false false)):=by
  have a1:=(hx02.trans hx3).hp (fun _=>True)
  exact (a1.trans hp4 (r:=Fr it v) (fun i hi hf=>⟨trivial,hf.2⟩)).trans (HP.put H4 it _) (fun i hi hf=>⟨hf,hf.1⟩)
 have hput:HP (·≠ it) H4 (H4.put it (.cells (.lst (tbL t.nx s' lv)) 53 7 false false)):=HP.put _ _ _;haveI:HN H4:=hp4.hn;refine ⟨⟨s',⟨?_,hge,zfa _ _,?_,?_⟩,fun k hk hb=>hne4 k (oM:k<H1.next+1) hb⟩,hxx⟩
 ·show it<H4.next;omega
 ·refine OwnS.hq ho4 hput fun j o n c op he=> ?_
  intro e;subst e;exact hne4 _ (oM:_<H1.next+1) hbx _ _ _ _ he
 ·have a2:OwL H4 lv N:=OwnS.hq h3.lvo hp4 fun j o n c op he=>by
   rcases h3.lvo.2 with ⟨_,hc⟩|⟨j',op',rfl,⟨cc,hg,_⟩,_⟩
   ·cases hc
   ·cases he
    exact OwnS.ne h3.own hg dC
  refine OwnS.hq a2 hput fun j o n c op he=> ?_
  rcases a2.2 with ⟨_,hc⟩|⟨j',op',rfl,⟨cc,hg,_⟩,_⟩
  ·cases hc
  ·cases he
   intro e;subst e;rw [hg4] at hg;cases hg
def zma1:Code:=bodyN lookM 166
def f166c:C2:=(.reg (m_ (tO 0) 4<|m_ (tO 0) 5<|l_ (tO 1) 6<|l_ (tO 2) 7<|nl_ (tO 4) 8<|fa_ 42 (tO 8) 9<|K2.gw (gwX lookM zma1 0 6) (gwP lookM zma1 0 6) none<|nl_ (tO 5) 10<|fa_ 43 (tO 10) 11<|s1_ false lookM 3 (tO 11) (tO 7)<| .done))
theorem f166_eq:fnF lookM 166=some ⟨12,f166c, []⟩:=kR
theorem sz3i:lookM.size 3=some 1:=kR
theorem zaj1 (a:AV) (x:Rc) (n:Int):(rcL (a,x)).set 0 (.int .i64 n)=rcL (a,{x with id:=n}):=rfl
theorem zsm {H:AH}[hn:HN H]{it N:Nat}{t:Tb}{v lv:AV}{x:Rc}(h:TbS H it t v lv N) (hlen:t.rs.length<=999) (hs:Srt t.rs) (hb:∀r,r∈t.rs->r.nm.size<=1000000) (hx:x.nm.size<=1000000) (hnx:0<=t.nx/\t.nx<=4294967296) (hlo:H.lo<=N) (hN:N<=H.next) :
  FnE lookM 147 [.ptr it 0,.agg (rcL (.nilSl,x))] H fun r H'=>(r= .int .i64 0/\ ∃v',TbS H' it (putT t x) v' lv N/\ ∀k,k<H.next->blkNe v k->blkNe v' k)/\HP (Fr it v) H H':=by
 refine fI Tryz.f147 ?_;have hit:=h.lt;have hge:=h.ge;have e1:=hEq_f (oM:it≠H.next)
 have e2:=hEq_f (oM:H.next≠it)
 have hlt:=hn.lo;have hnx1:=hnx.1;have hnx2:=hnx.2;have hst:∀(i o:Nat) (n:Int) (H:AH),H.lo<=i->st1 lookM 3 (.ptr i o) (.int .i64 n) H=wr1 (H.get i) i o (.int .i64 n) H:=fun i o n H h=>st1_w sz3i rfl rfl h
 have hw0:∀(n:Int) (i:Nat) (H:AH),wr1 (some (.cells (.lst (rcL (.nilSl,x))) 84 44 false false)) i 0 (.int .i64 n) H=some (H.put i (.cells (.lst (rcL (.nilSl,{x with id:=n}))) 84 44 false false)):=fun n i H=>by rw [wr1_l (by rw [zqa];omega),zaj1]
 have hw1:∀(n:Int) (i:Nat) (H:AH),wr1 (some (.cells (.lst (tbL t.nx v lv)) 53 7 false false)) i 0 (.int .i64 n) H=some (H.put i (.cells (.lst (tbL n v lv)) 53 7 false false)):=fun n i H=>by rw [wr1_l (by show 0<7;omega),zzi1]
 have F:=J9 @zra @h.box @e1 @e2 @tb_0 @hst @hw0 @hw1 @zzd;refine uT ?_;have hx1:HX H ((H.new (.cells (.lst (rcL (.nilSl,x))) 84 44 false false)).put H.next (.cells (.lst (rcL (.nilSl,{x with id:=t.nx}))) 84 44 false false)):=hxt
 have h1:=h.hx hx1;have hgx:((H.new (.cells (.lst (rcL (.nilSl,x))) 84 44 false false)).put H.next (.cells (.lst (rcL (.nilSl,{x with id:=t.nx}))) 84 44 false false)).next=H.next+1:=rfl
 have hgl:((H.new (.cells (.lst (rcL (.nilSl,x))) 84 44 false false)).put H.next (.cells (.lst (rcL (.nilSl,{x with id:=t.nx}))) 84 44 false false)).lo=H.lo:=rfl
 have hh1:HN ((H.new (.cells (.lst (rcL (.nilSl,x))) 84 44 false false)).put H.next (.cells (.lst (rcL (.nilSl,{x with id:=t.nx}))) 84 44 false false)):=inferInstance
 generalize ((H.new (.cells (.lst (rcL (.nilSl,x))) 84 44 false false)).put H.next (.cells (.lst (rcL (.nilSl,{x with id:=t.nx}))) 84 44 false false))=H1 at *
 have h2:TbS (H1.put it (.cells (.lst (tbL (t.nx+1) v lv)) 53 7 false false)) it ⟨t.nx+1,t.rs⟩ v lv N:=by
  have hput:HP (·≠ it) H1 (H1.put it (.cells (.lst (tbL (t.nx+1) v lv)) 53 7 false false)):=HP.put _ _ _;refine ⟨h1.lt,hge,zfa _ _,OwnS.hq h1.own hput fun j o n c op he=> ?_,OwnS.hq h1.lvo hput fun j o n c op he=> ?_⟩
  ·intro e
   subst e;exact OwnS.ne h1.own h1.box dC _ _ _ _ he
  ·intro e
   subst e;exact OwnS.ne h1.lvo h1.box dC _ _ _ _ he
 refine cR_f (lay_ok h2 hlen hs hb hx (by show H1.lo<=N;omega) (by show N<=H1.next;omega)) ?_
 rintro r H2 ⟨⟨v',h3,h4⟩,hp⟩;have hx1n:=hx1.next;refine uT0 ?_;refine ⟨⟨v',h3,fun k hk=>h4 k (oM:k<H1.next)⟩,?_⟩
 exact ((hx1.hp (fun _=>True)).trans (HP.put H1 it _) (r:=Fr it v) (fun i _ hi=>⟨trivial,hi.1⟩)).trans hp fun i _ hi=>⟨hi,hi⟩
def RdR (H:AH) (v:AV) (rs:List Rc):Prop:=(v= .nilSl/\rs= [])\/ ∃j c op cs,v= .sl j 0 rs.length c op/\j<H.next/\Row H j false op 84 44 cs/\rs.length<=c/\rs.length*44<=cs.length/\cs.take (rs.length*44)=encC rcL (nl rs)
theorem OwR.rd {H:AH}{v:AV}{rs:List Rc}{N:Nat}(h:OwR H v rs N):RdR H v rs:=by
 rcases h.2 with ⟨rfl,h0⟩|⟨j,op,rfl,hr,_,hj,_⟩
 ·exact .inl ⟨rfl,ql1 h0⟩
 ·exact .inr ⟨j,_,op,_,rfl,hj,hr,qn _,by rw [h.1];exact qn _,qx (by rw [h.1];exact qn _)⟩
theorem RdR.sl {H:AH}{v:AV}{rs:List Rc}(h:RdR H v rs):SlRc H v (nl rs):=by
 refine ⟨⟨by rw [znc zqa],?_⟩,fun p hp=> ?_,fun i o n c op hv=> ?_⟩
 ·rcases h with ⟨rfl,rfl⟩|⟨j,c,op,cs,rfl,hj,hr,hc,hl,ht⟩
  ·exact .inl ⟨rfl,rfl⟩
  ·refine .inr ⟨j,0,c,op,false,op,_,44,cs,by rw [zhc],hj,hr,by rw [zhc];omega,by rw [zhc,qt2];exact ht⟩
 ·obtain ⟨r,_,rfl⟩:=qd3.1 hp
  exact .inl ⟨rfl,rfl⟩
 ·rcases h with ⟨rfl,rfl⟩|⟨j,c',op',cs,rfl,hj,hr,hc,_⟩
  ·cases hv
  ·cases hv;exact hc
theorem RdR.hq {H H':AH}{v:AV}{rs:List Rc}(h:RdR H v rs){p:Nat->Prop}(hx:HP p H H') (hb:∀j o n c op,v= .sl j o n c op->p j):RdR H' v rs:=by
 rcases h with h|⟨j,c,op,cs,rfl,hj,hr,hc⟩
 ·exact .inl h
 ·exact .inr ⟨j,c,op,cs,rfl,qa1 hj hx.next,hr.hp hx hj (hb _ _ _ _ _ rfl),hc⟩
theorem RdR.ne {H:AH}{v:AV}{rs:List Rc}(h:RdR H v rs){it:Nat}{c:Ce}{e' z':Nat}{op ro:Bool}(hb:H.get it=some (.cells c e' z' op ro)) (hz:44≠z'):blkNe v it:=by
 rcases h with ⟨rfl,_⟩|⟨j,c,op',cs,rfl,hj,⟨cc,hg,_⟩,_⟩
 ·exact zka _
 ·refine zla fun e=> ?_
  subst e;rw [hb] at hg;cases hg;exact hz rfl
theorem RdR.one {H:AH}{v:AV}{rs:List Rc}(h:RdR H v rs):v.oneCell=true:=by
 rcases h with ⟨rfl,_⟩|⟨j,c,op',cs,rfl,_⟩<;>rfl
structure TbO (H:AH) (it:Nat) (t:Tb) (v lv:AV) (N:Nat):Prop where
 box:H.get it=some (.cells (.lst (tbL t.nx v lv)) 53 7 false false)
 own:RdR H v t.rs
 lvo:OwL H lv N
theorem TbS.o {H:AH}{it:Nat}{t:Tb}{v lv:AV}{N:Nat}(h:TbS H it t v lv N):TbO H it t v lv N:=⟨h.box,OwR.rd h.own,h.lvo⟩
def ClOk (g:Nat) (caps:List AV) (H0:AH) (t:Tb) (out:Res):Prop:= ∀(H1:AH) (it:Nat) (v lv:AV),HX H0 H1->HN H1->TbS H1 it t v lv H0.next ->
 FnE lookM g (.ptr it 0::caps) H1 fun r H2=>r= .int .i64 out.2/\HP (Fr it v) H1 H2/\(∀t2,out.1=some t2-> ∃v2,TbO H2 it t2 v2 lv H0.next)
def ResW (out:Res):Prop:=(∃t2,out=good t2)\/(∃e,e≠0/\out=bad e)
abbrev tb0:AV:=tbA 0 .nilSl .nilSl
def TbR (H:AH) (r:AV) (out:Res):Prop:=(∃e,e≠0/\out=bad e/\r= .tup [tb0,.int .i64 e])\/(∃t2 v lv,out=good t2/\r= .tup [tbA t2.nx v lv,.int .i64 0]/\RdR H v t2.rs/\OwL H lv 0)
theorem TbR.hx {H H':AH}{r:AV}{out:Res}(h:TbR H r out) (hx:HX H H'):TbR H' r out:=by
 rcases h with h|⟨t2,v,lv,h1,h2,h3,h4⟩
 ·exact .inl h
 ·exact .inr ⟨t2,v,lv,h1,h2,h3.hq (hx.hp fun _=>True) (fun _ _ _ _ _ _=>trivial),OwnS.hx h4 hx⟩
theorem ResW.bad {e:Int}(h:e≠0):ResW (bad e):=.inr ⟨e,h,rfl⟩
theorem ResW.good {t:Tb}:ResW (good t):=.inl ⟨t,rfl⟩
structure TbIn (H:AH) (t:Tb) (v lv:AV):Prop where
 sl:SlRc H v (nl t.rs)
 lv:Lv H lv
 len:t.rs.length<=900
 nm:∀r,r∈t.rs->r.nm.size<=100000
 nx:0<=t.nx/\t.nx<=4294967296
theorem TbIn.hx {H H':AH}{t:Tb}{v lv:AV}(h:TbIn H t v lv) (hx:HX H H'):TbIn H' t v lv:=⟨h.sl.hx hx,SlR.hx h.lv hx,h.len,h.nm,h.nx⟩
theorem tb_bu:zua lookM 53 (zipF [] [])=some tb0:=kR
theorem zbb {nn:Int}{v lv:AV}(h1:v.oneCell=true) (h2:lv.oneCell=true):(tbL nn v lv).all AV.oneCell=true:=by
 show (true && (v.oneCell && (true && (true && (true && (true && (lv.oneCell && true)))))))=true
 rw [h1,h2];rfl
theorem OwnS.one {H:AH}{s:AV}{n e z N:Nat}{cs:List AV}(h:OwnS H s n e z cs N):s.oneCell=true/\s.toC= .lst [s]:=by
 rcases h.2 with ⟨rfl,_⟩|⟨j,op,rfl,_⟩<;>exact ⟨rfl,rfl⟩
theorem sz35:lookM.size 35=some 1:=kR
theorem tb_set6 (nn:Int) (v lv l':AV):(tbL nn v lv).set 6 l'=tbL nn v l':=rfl
abbrev tbx (nn:Int) (v lv:AV):ABlk:=.cells (.lst (tbL nn v lv)) 53 7 false false
theorem zfh {H:AH}[hn:HN H]{t:Tb}{v lv:AV}{g:Nat}{caps:List AV}{out:Res}(h:TbIn H t v lv) (hcl:ztb t=true->ClOk g caps H t out) (hw:ResW out) :
  FnE lookM 142 [tbA t.nx v lv,.fn (.func g) [] caps] H fun r H'=>TbR H' r (if ztb t then out else bad 2)/\HX H H':=by
 refine fI Tryz.f142 ?_;have hlo:=hn.lo;have htz:AV.toC (.agg [(.int .i64 (0)),.nilSl,(.int .i64 (0)),(.int .i64 (0)),(.int .i64 (0)),(.int .i64 (0)),.nilSl])= .lst (tbL 0 .nilSl .nilSl):=rfl;have e1:=hEq_f (oM:H.next≠H.next+1)
 have e1':=hEq_f (oM:H.next+1≠H.next)
 have F:=J4 @zba @htz @e1 @zda;refine uT ?_;refine cR_at (fun H1=>HX H H1/\H1.next=H.next+2/\H1.get H.next=some (tbx t.nx v lv)/\H1.get (H.next+1)=some (tbx 0 .nilSl .nilSl)) ?_ ?_
 ·exact ⟨hxt,rfl,by rw [zmf _ (oM:H.next≠H.next+1),zaa],zaa _⟩
 rintro H1 ⟨hx1,hn1,hg1,hr1⟩;haveI:=hx1.hn;refine cR_f (zan1 (h.sl.hx hx1) (SlR.hx h.lv hx1) (by have:=h.len;rw [zhc];omega) (fun p hp=>by obtain ⟨r,hr,rfl⟩:=qd3.1 hp;have:=h.nm r hr;show r.nm.size<=_;omega)) ?_
 rw [zef1];rintro r2 H2 ⟨rfl,hx2⟩;have hx02:=hx1.trans hx2;have hn2:=hx2.next;have hg2:=(hx2.get oM).trans hg1
 have hr2:=(hx2.get oM).trans hr1
 haveI:=hx02.hn;have hlo2:H2.lo=H.lo:=hx02.lo;have o1:=zbb (nn:=0) (v:=.nilSl) (lv:=.nilSl) rfl rfl;unfold chkI;have htt:(⟨t.nx,t.rs⟩:Tb)=t:=rfl;rw [htt];cases hc:ztb t with
 |false =>
  have F:=J7 @hg2 @hr2 @tb_bu @zba @zda @zha @ld7;refine uX ?_;exact ⟨.inl ⟨2,dC,rfl,rfl⟩,by have K:=hx02;exact hxk⟩
 |true =>
 have F:=J3 @hg2 @hr2 @tb_6;refine uT ?_;refine cR_f (zff1 (SlR.hx h.lv hx02)) ?_;rintro l3 H3 ⟨hl3,hx3⟩;have hx03:=hx02.trans hx3;have hn3:=hx3.next;have hg3:=(hx3.get oM).trans hg2
 have hr3:=(hx3.get oM).trans hr2
 haveI:=hx03.hn;have hlo3:H3.lo=H.lo:=hx03.lo;have hst:=st1_w (L:=lookM) (t:=35) (i:=H.next) (o:=6) (H:=H3) sz35 (OwnS.one hl3).1 (OwnS.one hl3).2 oM
 have hwr:=wr1_l (i:=H.next) (o:=6) (v:=l3) (H:=H3) (l:=tbL t.nx v lv) (e:=53) (z:=7) (op:=false) (by show 6<7;omega)
 have F:=J5 @hst @hg3 @hwr @tb_set6 @tb_1;refine uT ?_;refine cR_at (fun H4=>HX H H4/\H4.next=H3.next/\H4.get H.next=some (tbx t.nx v l3)/\H4.get (H.next+1)=some (tbx 0 .nilSl .nilSl)/\OwL H4 l3 H.next) ?_ ?_
 ·refine ⟨HX.put hx03 (qn _) _,rfl,zfa _ _,(zgc _ oM).trans hr3,OwnS.hq (OwnS.le hl3 oM) (HP.put H3 H.next _) fun j o n c op he=> ?_⟩
  intro e;subst e;exact OwnS.ne hl3 hg3 dC _ _ _ _ he
 rintro H4 ⟨hx04,hn4,hg4,hr4,hl4⟩;haveI:=hx04.hn;have hlo4:H4.lo=H.lo:=hx04.lo;refine cR_f (each_ok (h.sl.hx hx04) (by have:=h.len;omega)) ?_
 rintro v5 H5 ⟨hv5,hx5⟩;have hx05:=hx04.trans hx5;have hn5:=hx5.next;have hg5:=(hx5.get oM).trans hg4
 have hr5:=(hx5.get oM).trans hr4
 have hl5:=OwnS.hx hl4 hx5;haveI:=hx05.hn;have hlo5:H5.lo=H.lo:=hx05.lo;have hst:=st1_w (L:=lookM) (t:=49) (i:=H.next) (o:=1) (H:=H5) szR1 (OwnS.one hv5).1 (OwnS.one hv5).2 oM
 have hwr:=wr1_l (i:=H.next) (o:=1) (v:=v5) (H:=H5) (l:=tbL t.nx v l3) (e:=53) (z:=7) (op:=false) (by show 1<7;omega)
 have F:=J4 @hst @hg5 @hwr @zgj;refine uX ?_;refine cR_at (fun H6=>HX H H6/\H6.next=H5.next/\H6.get (H.next+1)=some (tbx 0 .nilSl .nilSl)/\TbS H6 H.next t v5 l3 H.next) ?_ ?_
 ·refine ⟨HX.put hx05 (qn _) _,rfl,(zgc _ oM).trans hr5,⟨by show H.next<H5.next;omega,qn _,zfa _ _,OwnS.hq (OwnS.le hv5 oM) (HP.put H5 H.next _) fun j o n c op he=> ?_,OwnS.hq hl5 (HP.put H5 H.next _) fun j o n c op he=> ?_⟩⟩
  ·intro e
   subst e;exact OwnS.ne hv5 hg5 dC _ _ _ _ he
  ·intro e
   subst e;exact OwnS.ne hl5 hg5 dC _ _ _ _ he
 rintro H6 ⟨hx06,hn6,hr6,ht6⟩;haveI:=hx06.hn;refine cR_f (hcl hc H6 H.next v5 l3 hx06 inferInstance ht6) ?_;rintro r7 H7 ⟨rfl,hp7,ht7⟩;have hfr:∀i,i<H.next->Fr H.next v5 i:=fun i hi=>⟨oM,by
  rcases ht6.own.2 with ⟨rfl,_⟩|⟨j,op,rfl,_,hj,_⟩
  ·exact zka _
  ·exact zla oM⟩
 have hx07:=HX.hp2 hx06 hp7 hfr;have hn7:=hp7.next;have hr7:=(hp7.get (i:=H.next+1) oM ⟨oM,OwnS.ne ht6.own hr6 dC⟩).trans hr6
 haveI:=hx07.hn;have hlo7:H7.lo=H.lo:=hx07.lo;rcases hw with ⟨t2,rfl⟩|⟨e,he,rfl⟩
 ·obtain ⟨v2,ht8⟩:=ht7 t2 rfl
  have o2:=zbb (nn:=t2.nx) (RdR.one ht8.own) (OwnS.one ht8.lvo).1;have eg:(good t2).2=0:=rfl;have F:=J7 @eg @ht8.box @hr7 @zda @zba @zha @ld7;refine uT ?_;have hpx:HX H7 (H7.put (H.next+1) (tbx t2.nx v2 l3))\/True:=.inr trivial;refine ⟨.inr ⟨t2,v2,l3,rfl,rfl,?_,?_⟩,HX.put hx07 oM _⟩
  ·refine RdR.hq ht8.own (HP.put H7 (H.next+1) _) fun j o n c op he=> ?_
   intro e;subst e;exact RdR.ne ht8.own hr7 dC _ _ _ _ he
  ·refine OwnS.le (OwnS.hq ht8.lvo (HP.put H7 (H.next+1) _) fun j o n c op he=> ?_) (qh2 _)
   intro e;subst e;exact OwnS.ne ht8.lvo hr7 dC _ _ _ _ he
 ·have eb:(bad e).2=e:=rfl
  have d1:decide (e≠0)=true:=qo he;have F:=J8 @eb @d1 @hr7 @tb_bu @zba @zda @zha @ld7;refine uT ?_;exact ⟨.inl ⟨e,he,rfl,rfl⟩,HX.put hx07 oM _⟩
theorem TbR.put {H:AH}[hn:HN H]{t2:Tb}{v lv:AV}{rb:Nat}{nn:Int}{v' l':AV}(h1:RdR H v t2.rs) (h2:OwL H lv 0) (hb:H.get rb=some (tbx nn v' l')) (b:ABlk):RdR (H.put rb b) v t2.rs/\OwL (H.put rb b) lv 0:=by
 refine ⟨RdR.hq h1 (HP.put H rb _) fun j o n c op he=> ?_,OwnS.hq h2 (HP.put H rb _) fun j o n c op he=> ?_⟩
 ·intro e
  subst e;exact RdR.ne h1 hb dC _ _ _ _ he
 ·intro e
  subst e;exact OwnS.ne h2 hb dC _ _ _ _ he
theorem zhd (d:Nat) (v:AV) (T:Tr AV):putS (some (sOf d)) v T=pS d v T:=rfl
theorem zcb {H H':AH}(hx:HX H H'):∀js:List Nat,(∀i,i∈js->i<H.next/\ ∃c e z op ro,H.get i=some (.cells c e z op ro))->zwg H H' js=true
 | [],_=>rfl
 |i::js,h=>by
  obtain ⟨h1,c,e,z,op,ro,h2⟩:=h i qt1;exact zem (show Row H i ro op e z c.l from ⟨c,h2,rfl⟩) (hx.get h1) (zcb hx js fun k hk=>h k (qh1 _ hk))
theorem mk_bu (s:ByteArray) (n m:Int):zua lookM 84 (zipF [1,2,3,5] [.str s,.int .i64 1,.int .i64 n,.int .i64 m])=some (.agg (rcL (.nilSl,⟨0,s,1,n,m,0,0,0,0⟩))):=kR
theorem sn_bu (s:ByteArray) (n m o:Int):zua lookM 84 (zipF [1,2,3,4,5,6] [.str s,.int .i64 2,.int .i64 n,roA .nilSl,.int .i64 m,.int .i64 o])=some (.agg (rcL (.nilSl,⟨0,s,2,n,m,o,0,0,0⟩))):=kR
theorem cl_bu (s:ByteArray) (n m o:Int):zua lookM 84 (zipF [1,2,3,4,5,7] [.str s,.int .i64 1,.int .i64 n,roA .nilSl,.int .i64 m,.int .i64 o])=some (.agg (rcL (.nilSl,⟨0,s,1,n,m,0,o,0,0⟩))):=kR
abbrev bxs (s:ByteArray):ABlk:=.cells (.lst [.str s]) 9 1 false false
abbrev bxi (n:Int):ABlk:=.cells (.lst [.int .i64 n]) 3 1 false false
def makeO (t:Tb) (s:ByteArray) (n:Int):Res:=if partB s && wi n 1 64 then (if roomE t s=0 then good (putT t ⟨0,s,1,n,1,0,0,0,0⟩) else bad (roomE t s)) else bad 2
theorem zna1 (t:Tb) (s:ByteArray) (n:Int):makeT t s n=if ztb t then makeO t s n else bad 2:=by
 unfold makeT makeO;cases ztb t<;>rfl
theorem makeO_w (t:Tb) (s:ByteArray) (n:Int):ResW (makeO t s n):=by
 unfold makeO;split
 ·split
  ·exact .good
  ·next h=>exact .bad h
 ·exact .bad dC
theorem zoa1 {H:AH}[hn:HN H]{it:Nat}{t:Tb}{v lv:AV}{N:Nat}{s:ByteArray}(ht:TbS H it t v lv N) (hlen:t.rs.length<=900):FnE lookM 146 [.ptr it 0,.str s] H fun r H'=>r= .int .i64 (roomE t s)/\HX H H':=by
 have:=room_ok (s:=s) ht.lt ht.box ht.sl (by rw [zhc];omega)
 rw [zef1] at this;exact this
theorem zbi {H:AH}[hn:HN H]{t:Tb}{v lv:AV}{s:ByteArray}(hsl:SlRc H v (nl t.rs)) (hlen:t.rs.length<=900):FnE lookM 68 [tbA t.nx v lv,.str s] H fun r H'=>r= .tup [.int .i64 (fndI s t.rs:Nat),.bool (hasB s t.rs)]/\HX H H':=by
 have:=zxz (nn:=t.nx) (lv:=lv) (s:=s) hsl (by rw [zhc];omega)
 rw [zef1] at this;exact this
theorem zhn1 {H0:AH}[hn0:HN H0]{t:Tb}{s:ByteArray}{n:Int}{b1 b2 b3:Nat}(hk:Ok t) (hlen:t.rs.length<=900) (hnm:∀r,r∈t.rs->r.nm.size<=100000) (hs:s.size<=100000)
  (h1:b1<H0.next) (h2:b2<H0.next) (h3:b3<H0.next) (g1:H0.get b1=some (bxs s)) (g2:H0.get b2=some (bxi n)) (g3:H0.get b3=some (bxi 1)) :
  ClOk 143 [.ptr b1 0,.ptr b2 0,.ptr b3 0] H0 t (makeO t s n):=by
 intro H1 it v lv hx hn1 ht;refine fI Tryz.f143 ?_;have k1:=(hx.get h1).trans g1;have k2:=(hx.get h2).trans g2;have k3:=(hx.get h3).trans g3;have hv:= @FnX.p _ _ _ _ (zzn s);have hz:= @FnX.p _ _ _ _ (zyz n);have hcm:= @FnX.p _ _ _ _ zao;have hN:=hx.next;have hlo:H1.lo<=H0.next:=by rw [hx.lo];exact hn0.lo
 unfold makeO;cases a1:partB s with
 |false=>have F:=J3 @k1 @hv @a1;refine uT ?_;exact ⟨rfl,HP.refl _ _,fun t2 h=>by cases h⟩
 |true =>
 cases a2:wi n 1 64 with
 |false=>have F:=J6 @k1 @k2 @hv @hz @a1 @a2;refine uT ?_;exact ⟨rfl,HP.refl _ _,fun t2 h=>by cases h⟩
 |true =>
 have F:=J8 @k1 @k2 @k3 @hv @hz @hcm @a1 @a2;refine uT ?_;refine cR_f (zoa1 ht hlen) ?_;rintro r2 H2 ⟨rfl,hx2⟩;have hx02:=hx.trans hx2;have m1:=(hx02.get h1).trans g1;have m2:=(hx02.get h2).trans g2;have m3:=(hx02.get h3).trans g3;haveI:=hx02.hn;have hn2:=hx2.next;by_cases hr:roomE t s=0
 ·have hgd:(if (true && true)=true then (if roomE t s=0 then good (putT t ⟨0,s,1,n,1,0,0,0,0⟩) else bad (roomE t s)) else bad 2)=good (putT t ⟨0,s,1,n,1,0,0,0,0⟩):=by simp [hr]
  rw [hgd,hr];have F:=J4 @m1 @m2 @m3 @mk_bu;refine uT ?_;refine cR_f (zsm (ht.hx hx2) oM hk.srt (fun r hr=>by have:=hnm r hr;omega) (by show s.size<=_;omega) (by have:=hk.nx;omega) (by rw [hx2.lo];exact hlo) oM) ?_
  rintro r3 H3 ⟨⟨rfl,v',ht3,_⟩,hp3⟩;refine uT0 ?_;exact ⟨rfl,(hx2.hp (fun _=>True)).trans hp3 fun i _ hi=>⟨trivial,hi⟩,fun t2 h=>by cases h;exact ⟨v',ht3.o⟩⟩
 ·have hgd:(if (true && true)=true then (if roomE t s=0 then good (putT t ⟨0,s,1,n,1,0,0,0,0⟩) else bad (roomE t s)) else bad 2)=bad (roomE t s):=by simp [hr]
  rw [hgd];have d1:decide (roomE t s≠0)=true:=qo hr;have F:=@d1;refine uT ?_;exact ⟨rfl,hx2.hp _,fun t2 h=>by cases h⟩
theorem zdb:AV.toC (.agg [(.int .i64 (0)),.nilSl,(.int .i64 (0)),(.int .i64 (0)),(.int .i64 (0)),(.int .i64 (0)),.nilSl])= .lst (tbL 0 .nilSl .nilSl):=rfl
theorem make_ok {H:AH}[hn:HN H]{t:Tb}{v lv:AV}{s:ByteArray}{n:Int}(h:TbIn H t v lv) (hs:s.size<=100000) :
  FnE lookM 134 [tbA t.nx v lv,.str s,.int .i64 n,.int .i64 1] H fun r H'=>TbR H' r (makeT t s n)/\HX H H':=by
 refine fI Tryz.f134 ?_;have hlo:=hn.lo;have F:=J3 @zba @zdb @zda;refine uT ?_;refine cR_at (fun H1=>HX H H1/\H1.next=H.next+5/\H1.get (H.next+1)=some (bxs s)/\H1.get (H.next+2)=some (bxi n)/\H1.get (H.next+3)=some (bxi 1)/\H1.get (H.next+4)=some (tbx 0 .nilSl .nilSl)) ?_ ?_
 ·exact ⟨hxt,rfl,vT0,vT0,vT0,vT0⟩
 rintro H1 ⟨hx1,hn1,g1,g2,g3,gr⟩;haveI:=hx1.hn;refine cR_f (zfh (h.hx hx1) (fun hc=>zhn1 (checkB_ok.1 hc) h.len h.nm hs oM oM oM g1 g2 g3) (makeO_w t s n)) ?_
 rw [← zna1];rintro r2 H2 ⟨ht2,hx2⟩;have gr2:=(hx2.get oM).trans gr
 have hx02:=hx1.trans hx2;haveI:=hx02.hn;have hlo2:H2.lo=H.lo:=hx02.lo;rcases ht2 with ⟨e,he,h1,rfl⟩|⟨t2,v2,l2,h1,rfl,h3,h4⟩
 ·have o1:=zbb (nn:=0) (v:=.nilSl) (lv:=.nilSl) rfl rfl
  have F:=J5 @gr2 @zda @zba @zha @ld7;refine uT ?_;exact ⟨.inl ⟨e,he,h1,rfl⟩,HX.put hx02 oM _⟩
 ·have o1:=zbb (nn:=t2.nx) (v:=v2) (lv:=l2) (RdR.one h3) (OwnS.one h4).1
  have F:=J5 @gr2 @zda @zba @zha @ld7;refine uT ?_;obtain ⟨p1,p2⟩:=TbR.put h3 h4 gr2 (tbx t2.nx v2 l2);exact ⟨.inr ⟨t2,v2,l2,h1,rfl,p1,p2⟩,HX.put hx02 oM _⟩
end HS
end
