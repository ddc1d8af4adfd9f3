import Derived.Test.YtmdkejaglfokaaaGreatVAAH
import Derived.Test.YtmdkejaglfokaaaGreatVAAL
import Derived.Test.YtmdkejaglfokaaaGreatVAAF
import Derived.Test.YtmdkejaglfokaaaGreatVAAG
noncomputable section
set_option maxHeartbeats 8000000
set_option linter.unusedSimpArgs false
set_option linter.unusedVariables false
open Go Go.Ev Go.Proofs Go.RowKit
namespace HS
set_option maxRecDepth 100000
open HS.Md
def orL (o:Od) (ov bv:AV) (x:Rc):List AV:=odL o ov bv ++ rcL (.nilSl,x)
abbrev orx (e:Nat) (o:Od) (ov bv:AV) (x:Rc):ABlk:=.cells (.lst (orL o ov bv x)) e 51 false false
theorem zfg1 (o:Od) (ov bv:AV) (x:Rc):AV.toC (.agg (orL o ov bv x))= .lst (orL o ov bv x):=rfl
theorem or_0 (o:Od) (ov bv:AV) (x:Rc):nth (orL o ov bv x) 0=some (.int .i64 o.op):=rfl
theorem or_3 (o:Od) (ov bv:AV) (x:Rc):nth (orL o ov bv x) 3=some (.int .i64 o.n):=rfl
theorem or_4 (o:Od) (ov bv:AV) (x:Rc):nth (orL o ov bv x) 4=some (.int .i64 o.m):=rfl
theorem or_6 (o:Od) (ov bv:AV) (x:Rc):nth (orL o ov bv x) 6=some bv:=rfl
theorem or_7 (o:Od) (ov bv:AV) (x:Rc):nth (orL o ov bv x) 7=some (.int .i64 x.id):=rfl
theorem or_9 (o:Od) (ov bv:AV) (x:Rc):nth (orL o ov bv x) 9=some (.int .i64 x.kd):=rfl
theorem or_10 (o:Od) (ov bv:AV) (x:Rc):nth (orL o ov bv x) 10=some (.int .i64 x.sz):=rfl
theorem or_49 (o:Od) (ov bv:AV) (x:Rc):nth (orL o ov bv x) 49=some (.int .i64 x.qu):=rfl
theorem or_x (o:Od) (ov bv:AV) (x:Rc) (e z:Nat) (op ro:Bool):sbB (some (.cells (.lst (orL o ov bv x)) e z op ro)) 7 44=some (.agg (rcL (.nilSl,x))):=by
 rw [sbB_l];rfl
theorem or_bu (o:Od) (ov bv:AV) (x:Rc):zua lookM 110 (zipF [0,1] [odA o ov bv,.agg (rcL (.nilSl,x))])=some (.agg (orL o ov bv x)):=kR
theorem or_buW (o:Od) (ov bv:AV) (x:Rc):zua lookM 113 (zipF [0,1] [odA o ov bv,.agg (rcL (.nilSl,x))])=some (.agg (orL o ov bv x)):=kR
theorem rp_buB (v:AV) (h:v= .nilSl\/ ∃i n op,v= .sl i 0 n n op):zua lookM 37 (zipF [2] [v])=some (rpA 0 .nilSl v):=by
 rcases h with rfl|⟨i,n,op,rfl⟩<;>kernel_rfl
def readM (s:Ms) (o:Od) (x:Rc):Rp:=if o.n>x.sz\/o.m>x.sz - o.n then er 5 else ⟨0, [],someB (s.b x.id) o.n.toNat o.m.toNat⟩
theorem zno1 {H:AH}[hn:HN H]{b mb:Nat}{s:Ms}{v lv:AV}{o:Od}{ov bv:AV}{x:Rc}(h:MdR H b mb s v lv) (hsz:1<=x.sz/\x.sz<=64) (hon:0<=o.n/\o.n<=maxN) (hom:0<=o.m/\o.m<=maxN) :
  FnE lookM 56 [.agg (orL o ov bv x),.ptr b 0] H fun r H'=>RpR H' r (readM s o x) H.next/\HX H H':=by
 refine fI Tryz.f56 ?_;have hlo:=hn.lo;have hlt:=h.lt;have hb:=h.box;have e01:=hEq_f (oM:H.next≠H.next+1)
 unfold maxN at hon hom;unfold readM;cases a1:decide (x.sz<o.n) with
 |true =>
  have y1:=qe a1;rw [qj (.inl y1)];have F:=J10 @zfg1 @zgb @e01 @or_3 @or_10 @a1 @rp_bu @rp_w0 @znb @ld3;refine uT ?_;exact ⟨RpR.err,hxt⟩
 |false =>
  have y1:=qf a1;cases a2:decide (x.sz - o.n<o.m) with
  |true =>
   have y2:=qe a2;rw [qj (.inr y2)];have F:=J12 @zfg1 @zgb @e01 @or_3 @or_4 @or_10 @a1 @a2 @rp_bu @rp_w0 @znb @ld3;refine uT ?_;exact ⟨RpR.err,hxt⟩
  |false =>
   have y2:=qf a2;rw [qg (by rintro (k|k)<;>omega)]
   have F:=J9 @zfg1 @zgb @e01 @or_3 @or_4 @or_10 @or_x @a1 @a2;refine uT ?_;refine cR_at (fun H1=>HX H H1/\H1.next=H.next+2/\H1.get (H.next+1)=some (rpx 0 .nilSl .nilSl)) ?_ ?_
   ·exact ⟨hxt,rfl,zaa _⟩
   rintro H1 ⟨hx1,hn1,g1⟩;haveI:=hx1.hn;obtain ⟨i,hi⟩:∃i:Nat,o.n=(i:Int):=⟨o.n.toNat,oM⟩
   obtain ⟨m,hm⟩:∃m:Nat,o.m=(m:Int):=⟨o.m.toNat,oM⟩
   rw [hi,hm,qg2,qg2];refine cR_f (some_ok (h.hx hx1) (i:=i) (n:=m) oM) ?_
   rintro r2 H2 ⟨ho2,hx2⟩;have hx02:=hx1.trans hx2;have g1:=(hx2.get (i:=H.next+1) oM).trans g1
   haveI:=hx02.hn;have hlo2:H2.lo=H.lo:=hx02.lo;have hbu:=rp_buB r2 (by rcases ho2.2 with ⟨h0,_⟩|⟨j,op,h0,_⟩;exact .inl h0;exact .inr ⟨j,_,op,h0⟩)
   have hone:=(OwnS.one ho2).1;have hw:∀e2 H3,wrN (some (.cells (.lst (rpL 0 .nilSl .nilSl)) e2 3 false false)) (H.next+1) 0 3 (.lst (rpL 0 .nilSl r2)) H3=some (H3.put (H.next+1) (.cells (.lst (rpL 0 .nilSl r2)) e2 3 false false)):=fun e2 H3=>rp_w 0 0 .nilSl .nilSl .nilSl r2 (H.next+1) e2 false H3 rfl hone
   have F:=J6 @hbu @zgb @g1 @hw @znb @ld3;refine uT ?_;have hlen:(someB (s.b x.id) i m).length=256*m:=zsu (h.mp.ok x.id).len oM
   refine ⟨⟨_,_,rfl,zib1 _ 1,?_,fun j hj=>⟨zka _,by
    rcases ho2.2 with ⟨h0,_⟩|⟨j2,op2,h0,_,hj2,_⟩
    ·rw [h0];exact zka _
    ·rw [h0];exact zla oM⟩⟩,HX.put hx02 oM _⟩
   have hz:=(OwnS.le (M:=H.next) ho2 oM).hq (HP.put H2 (H.next+1) (rpx 0 .nilSl r2)) (p:=(·≠ H.next+1)) fun j o n c op hj=>by
    rcases ho2.2 with ⟨h0,_⟩|⟨j2,op2,h0,_,hj2,_⟩
    ·rw [h0] at hj;cases hj
    ·rw [h0] at hj;cases hj;omega
   have he:(⟨0, [],someB (s.b x.id) i m⟩:Rp).b.length=256*m:=hlen;rw [he];exact hz
theorem u30:lookM.under 30=some (.slice 5):=kR
theorem s5:lookM.size 5=some 1:=kR
def ByS (H:AH) (v:AV) (l:List Nat):Prop:=(l= []/\LenV v 0/\ ∀j,H.next<=j->blkNe v j)\/ ∃j o c op full e z op' ro,v= .sl j o l.length c op/\j<H.next/\H.get j=some (.cells (byC full) e z op' ro)/\Byt full/\o+l.length<=full.length/\(full.drop o).take l.length=l/\l.length<=c
theorem ByS.byt {H:AH}{v:AV}{l:List Nat}(h:ByS H v l):Byt l:=by
 rcases h with ⟨rfl,_⟩|⟨j,o,c,op,full,e,z,op',ro,_,_,_,hf,_,hl,_⟩
 ·exact fun x hx=>by cases hx
 ·rw [← hl];exact (hf.drop _).take _
theorem ByS.len {H:AH}{v:AV}{l:List Nat}(h:ByS H v l):LenV v l.length:=by
 rcases h with ⟨rfl,h,_⟩|⟨j,o,c,op,full,e,z,op',ro,rfl,hj,hg,hf,ho,hl,_⟩
 ·exact h
 ·have hr:Row H j ro op' e z (u8L full):=⟨byC full,hg,byC_l hf⟩
  exact zmu (hr.isSl hj (by rw [qt3];omega))
theorem ByS.hx {H H':AH}{v:AV}{l:List Nat}(h:ByS H v l) (hx:HX H H'):ByS H' v l:=by
 rcases h with ⟨h1,h2,h3⟩|⟨j,o,c,op,full,e,z,op',ro,h1,hj,hg,h2⟩
 ·exact .inl ⟨h1,h2,fun j hj=>h3 j (qx2 hx.next hj)⟩
 ·exact .inr ⟨j,o,c,op,full,e,z,op',ro,h1,qa1 hj hx.next,(hx.get hj).trans hg,h2⟩
theorem copyB {H:AH}{b:Bk}(hb:BkOk b){k nb e z:Nat}{op:Bool}(hk:k<64) (hg:H.get nb=some (.cells (bkC b) e z op false)) (hlo:H.lo<=nb){j o c:Nat}{op2:Bool}{full:List Nat}{e' z':Nat}{op' ro:Bool}
  (hj:H.get j=some (.cells (byC full) e' z' op' ro)) (hf:Byt full) (ho:o+256<=full.length) :
  zea .copy lookM [30,30] [.sl nb (k*256) 256 256 false,.sl j o 256 c op2] H=some (.int .i64 256,H.put nb (.cells (bkC (putB b (256*k) ((full.drop o).take 256))) e z op false)):=by
 have hl:((full.drop o).take 256).length=256:=by rw [qd1,qb2];omega
 have h1:=sub_b hf ho;have h2:=over_b hb.byt ((hf.drop o).take 256) (o:=k*256) (by rw [hl,hb.len];omega)
 unfold byC at h2;rw [hl,hb.len] at h2;show zho lookM 30 (.sl nb (k*256) 256 256 false) (.sl j o 256 c op2) H=_
 unfold zho;rw [u30];simp only [s5];have h3:zhb 1 (.sl j o 256 c op2) (minN 256 256) H=some (.byt 256 (Nb ((full.drop o).take 256))):=by
  show AH.subC H j o 256=_
  unfold AH.subC;rw [hj];exact h1
 have h4:H.writeC nb (k*256) (.byt 256 (Nb ((full.drop o).take 256)))=some (H.put nb (.cells (bkC (putB b (256*k) ((full.drop o).take 256))) e z op false)):=by
  unfold AH.writeC;rw [show Nat.ble H.lo nb=true from qh hlo,hg]
  unfold bkC;simp only [h2];unfold putB;rw [hl,qo3 256 k];rfl
 simp only [show lenOf (.sl j o 256 c op2)=some 256 from rfl,h3,h4]
 rfl
theorem slb_lo {i n c o j:Nat}{op:Bool}(h:i<c) (hi:i<=n) (hn:n<=c):zxa lookM 30 true false false [.sl j o n c op,.int .i64 (i:Int)]=some (.sl j (o+i) (n - i) (c - i) op):=by
 show zfb lookM 30 (.sl j o n c op) (some (.int .i64 (i:Int))) none none=_
 unfold zfb;rw [u30];show (match lookM.size 5 with|none=>none|some z=>(match some n with
    |none=>none
    |some h=>match Nat.ble i h && Nat.ble h c with
      |true=>(match op with
       |false=>some (AV.sl j (offOf c i o z) (h - i) (c - i) false)
       |true=>match Nat.beq c i with
        |true=>(match Nat.beq o 0 with|true=>some (.ext 1 j (c*z+1))|false=>none)
        |false=>some (.sl j (o+i*z) (h - i) (c - i) true))
      |false=>none))=_
 rw [s5];have e1:Nat.beq c i=false:=by rw [qf3];intro h';have:=qi h';omega
 simp only;rw [show Nat.ble i n=true from qh hi,show Nat.ble n c=true from qh hn]
 unfold offOf;simp only [qp2,e1,qx4];cases op<;>rfl
theorem slb_3 {i k n c o j:Nat}{op:Bool}(h:i<k) (hk:k<=c):zxa lookM 30 true true true [.sl j o n c op,.int .i64 (i:Int),.int .i64 (k:Int),.int .i64 (k:Int)]=some (.sl j (o+i) (k - i) (k - i) false):=by
 show zfb lookM 30 (.sl j o n c op) (some (.int .i64 (i:Int))) (some (.int .i64 (k:Int))) (some (.int .i64 (k:Int)))=_
 unfold zfb;rw [u30];show (match lookM.size 5 with|none=>none|some z=>(match some k with
    |none=>none
    |some h=>(match some k with
      |none=>none
      |some m=>match Nat.ble i h && Nat.ble h m && Nat.ble m c with
       |true=>some (AV.sl j (offOf m i o z) (h - i) (m - i) false)
       |false=>none)))=_
 rw [s5];have e1:Nat.beq k i=false:=by rw [qf3];intro h';have:=qi h';omega
 simp only;rw [show Nat.ble i k=true from qh oM,show Nat.ble k k=true from qh (qn _),show Nat.ble k c=true from qh hk]
 unfold offOf;simp only [qp2,e1,qx4]
structure WrS (H:AH) (l nb ib:Nat) (T0:Tr AV) (B:Bk) (k:Nat):Prop where
 t8:gT T0 8= .ptr nb 0
 t9:gT T0 9= .ptr ib 0
 lp:H.get l=some (.loop .ready none T0 0 [64] f58b0 f58b1)
 nb:H.get nb=some (.cells (bkC B) 100 16384 false false)
 ib:H.get ib=some (.cells (.lst [.int .i64 (k:Nat)]) 3 1 false false)
theorem isp_one (d:Tmp) (v:AV) (T:Tr AV):zjc [(d,v)] T=T.set d v:=rfl
theorem zyq {H:AH}[hn:HN H]{l nb ib:Nat}{T0:Tr AV}{B:Bk}{k:Nat}(hw:WrS H l nb ib T0 B k) (hB:BkOk B) (hk:k<64) (hlo:H.lo<=l) (hlo2:H.lo<=nb) (hlo3:H.lo<=ib) (hln:l<H.next) (hnn:nb<H.next) (hin:ib<H.next)
  {j o c:Nat}{op2:Bool}{full:List Nat}{e' z':Nat}{op' ro:Bool}(hjl:j<H.next) (hj:H.get j=some (.cells (byC full) e' z' op' ro)) (hf:Byt full) (ho:o+256<=full.length) (hjn:j≠nb) (hji:j≠ib) :
  RdE lookM l [.sl j o 256 c op2] H fun r H'=>r= .bool true/\WrS H' l nb ib T0 (putB B (256*k) ((full.drop o).take 256)) (k+1)/\HP (fun i=>i≠nb/\i≠ib/\i≠l) H H'/\H'.next=H.next:=by
 refine rd_n hlo hw.lp rfl zho1 zio1 ?_;have hlb:l≠nb:=fun e=>by have h1:=hw.lp;rw [e,hw.nb] at h1;cases h1
 have hli:l≠ib:=fun e=>by have h1:=hw.lp;rw [e,hw.ib] at h1;cases h1
 have hlj:l≠j:=fun e=>by have h1:=hw.lp;rw [e,hj] at h1;cases h1
 have hni:nb≠ib:=fun e=>by
  have h1:=hw.nb;rw [e,hw.ib] at h1
  injection h1 with h1
  injection h1 with _ h1
  exact absurd h1 dC
 have hsp:zjc (List.zip [64] [AV.sl j o 256 c op2]) T0=T0.set 64 (.sl j o 256 c op2):=by
  rw [show List.zip [64] [AV.sl j o 256 c op2]= [((64:Nat),AV.sl j o 256 c op2)] from by simp]
  exact isp_one _ _ _
 have h64:gT (zjc (List.zip [64] [AV.sl j o 256 c op2]) T0) 64= .sl j o 256 c op2:=by rw [hsp,zhw,qj rfl]
 have h8:gT (zjc (List.zip [64] [AV.sl j o 256 c op2]) T0) 8= .ptr nb 0:=by rw [hsp,zhw,qg dC];exact hw.t8
 have h9:gT (zjc (List.zip [64] [AV.sl j o 256 c op2]) T0) 9= .ptr ib 0:=by rw [hsp,zhw,qg dC];exact hw.t9
 generalize zjc (List.zip [64] [AV.sl j o 256 c op2]) T0=T1 at *
 unfold f58l0;have F:=@h64;refine uT ?_;refine ⟨T0,0, [64],f58b0,f58b1,hw.lp,?_⟩;have hpB:HP (·≠ l) H (H.put l (.loop .busy none T0 0 [64] f58b0 f58b1)):=HP.put _ _ _;have gl:(H.put l (.loop .busy none T0 0 [64] f58b0 f58b1)).get l=some (.loop .busy none T0 0 [64] f58b0 f58b1):=zfa _ _;have hnB:(H.put l (.loop .busy none T0 0 [64] f58b0 f58b1)).next=H.next:=rfl;generalize H.put l (.loop .busy none T0 0 [64] f58b0 f58b1)=HB at *
 haveI:=hpB.hn;have hloB:HB.lo=H.lo:=hpB.lo;have gn:=(hpB.get (i:=nb) oM (fun h=>hlb h.symm)).trans hw.nb
 have gi:=(hpB.get (i:=ib) oM (fun h=>hli h.symm)).trans hw.ib
 have gj:=(hpB.get (i:=j) oM (fun h=>hlj h.symm)).trans hj
 have hcp:=copyB hB hk gn oM (c:=c) (op2:=op2) gj hf ho
 have hix:=ixA_n (n:=64) (z:=256) (i:=nb) (o:=0) (k:=k) hk;have ein:=hEq_f (show ib≠nb from fun h=>hni h.symm)
 unfold f58l1;have hst:∀(i o:Nat) (n:Int) (H:AH),H.lo<=i->st1 lookM 3 (.ptr i o) (.int .i64 n) H=wr1 (H.get i) i o (.int .i64 n) H:=fun i o n H h=>st1_w sz3i rfl rfl h
 have F:=J10 @h64 @h8 @h9 @gi @hix @zkw @sl89 @hcp @ein @hst;refine uT ?_;refine ⟨none,T0,0, [64],f58b0,f58b1,?_,?_,?_,?_⟩
 ·exact gl
 ·refine ⟨hw.t8,hw.t9,zfa _ _,?_,?_⟩
  ·rw [zgc _ (fun h=>hlb h.symm),zgc _ hni];exact zfa _ _
  ·rw [zgc _ (fun h=>hli h.symm),zfa];push_cast;rfl
 ·have k1:=hpB.trans (HP.put HB nb (.cells (bkC (putB B (256*k) ((full.drop o).take 256))) 100 16384 false false)) (r:=fun i=>i≠nb/\i≠ib/\i≠l) fun i _ hi=>⟨hi.2.2,hi.1⟩
  have k2:=k1.trans (HP.put _ ib (.cells (.lst [.int .i64 (k+1)]) 3 1 false false)) (r:=fun i=>i≠nb/\i≠ib/\i≠l) fun i _ hi=>⟨hi,hi.2.1⟩
  exact k2.trans (HP.put _ l _) fun i _ hi=>⟨hi,hi.2.2⟩
 ·exact hnB
theorem zkb1 {C:Bk}{a:Nat}{x y:List Nat}(h:a+x.length<=C.length):putB (putB C a x) (a+x.length) y=putB C a (x ++ y):=by
 unfold putB;have e1:(C.take a ++ x).length=a+x.length:=by rw [qy,qd1];omega
 rw [qp7 e1,← qk3,qe6 e1,qk3,qy,qg1 (C.take a) x y,qa6]
theorem cF_rd {l d:Nat}{args:List AV}{k:K2}{s:List Kf}{T:Tr AV}{H:AH}{Q:PostC}{L:Lk}{R:AV->AH->Prop}(hc:RdE L l args H R) (h:∀v H',R v H'->RK L k s (pS d v T) H' Q):cF false (zdc (.yld l) args) L H d k s T Q:=by
 unfold cF;exact rk_cr (l:=l) (args:=args) (R:=R) rfl hc h
theorem len_slq {i o n c:Nat}{op:Bool}(H:AH):fstO (zea .len lookM [30] [.sl i o n c op] H)=some (.int .i64 (n:Nat)):=by
 show fstO (match evLen lookM 30 (.sl i o n c op) H with|some v=>some (v,H)|none=>none)=_
 unfold evLen;rw [u30];rfl
theorem zoo1 {H:AH}[hn:HN H]{l nb ib sb zb:Nat}{T0:Tr AV}{C:Bk}{f:Nat}{bv:AV}{bs:List Nat}(hw:WrS H l nb ib T0 C f) (hC:BkOk C) (hb:ByS H bv bs) (hm:bs.length%256=0) (hf:f+bs.length / 256<=64)
  (hsb:H.get sb=some (.cells (.lst [bv]) 30 1 false false)) (hzb:H.get zb=some (.cells (.lst [.int .i64 256]) 3 1 false false)) (hlo:H.lo<=l) (hlo2:H.lo<=nb) (hlo3:H.lo<=ib) (hln:l<H.next) (hnn:nb<H.next) (hin:ib<H.next) (hsn:sb<H.next) (hzn:zb<H.next)
  (hs1:sb≠nb/\sb≠ib/\sb≠l) (hz1:zb≠nb/\zb≠ib/\zb≠l) (hjn:blkNe bv nb/\blkNe bv ib) :
  FnE lookM 89 [.yld l,.ptr sb 0,.ptr zb 0] H fun r H'=>WrS H' l nb ib T0 (putB C (256*f) bs) (f+bs.length / 256)/\HP (fun i=>i≠nb/\i≠ib/\i≠l) H H'/\H'.next=H.next:=by
 refine fI Tryz.f89 ?_;have hlb:=fun H'=>hb.len.1 u30 H'
 refine uT0 ?_;refine rc_l (fun m T H'=> ∃q,m+q=bs.length / 256/\WrS H' l nb ib T0 (putB C (256*f) (bs.take (256*q))) (f+q)/\HP (fun i=>i≠nb/\i≠ib/\i≠l) H H'/\H'.next=H.next /\
  gT T 0= .yld l/\gT T 1= .ptr sb 0/\gT T 2= .ptr zb 0/\gT T 4= .int .i64 ((256*q:Nat):Int)) (bs.length / 256) ?_ ?_
 ·refine ⟨0,rfl,?_,HP.refl _ _,rfl,vT0,vT0,vT0,by refine uT0 ?_;rfl⟩
  have:putB C (256*f) (bs.take (256*0))=C:=by unfold putB;simp
  rw [this];exact hw
 rintro m T H1 ⟨q,hmq,hw1,hp1,hn1,t0,t1,t2,t4⟩;haveI:=hp1.hn;have hlo1:H1.lo=H.lo:=hp1.lo;have gs:=(hp1.get (i:=sb) hsn hs1).trans hsb;have gz:=(hp1.get (i:=zb) hzn hz1).trans hzb;cases m with
 |zero =>
  have hq:q=bs.length / 256:=oM
  have d1:decide (((256*q:Nat):Int)<(bs.length:Int))=false:=qp oM
  have F:=J8 @t0 @t1 @t2 @t4 @gs @gz @hlb @d1;refine uT ?_;rw [qx oM,hq] at hw1
  exact ⟨hw1,hp1,hn1⟩
 |succ m =>
  have hq:q<bs.length / 256:=oM
  rcases hb with ⟨rfl,_⟩|⟨j,o,c,op,full,e,z,op',ro,rfl,hj,hg,hful,ho,hl,hc⟩
  ·simp at hq
  have hjn':j≠nb:=fun e=>hjn.1 o bs.length c op (by rw [e])
  have hji':j≠ib:=fun e=>hjn.2 o bs.length c op (by rw [e])
  have hjl':j≠l:=fun e=>by have h1:=hw.lp;rw [← e,hg] at h1;cases h1
  have g1:=(hp1.get (i:=j) hj ⟨hjn',hji',hjl'⟩).trans hg;have d1:decide (((256*q:Nat):Int)<(bs.length:Int))=true:=qo oM
  have s1:=slb_lo (i:=256*q) (n:=bs.length) (c:=c) (o:=o) (j:=j) (op:=op) oM oM hc
  have s3:=slb_3 (i:=256*q) (k:=256*q+256) (n:=bs.length) (c:=c) (o:=o) (j:=j) (op:=op) oM oM
  have hcast:((256*q:Nat):Int)+256=((256*q+256:Nat):Int):=by push_cast;rfl
  have e256:256*q+256 - 256*q=256:=oM
  rw [e256] at s3;have hB:BkOk (putB C (256*f) (bs.take (256*q))):=zpu hC ((ByS.byt (.inr ⟨j,o,c,op,full,e,z,op',ro,rfl,hj,hg,hful,ho,hl,hc⟩)).take _) (by rw [qd1];omega)
  have hrd:=zyq hw1 hB oM oM oM oM oM oM oM (c:=256) (op2:=false) (o:=o+256*q) oM g1 hful oM hjn' hji'
  have em:(if ((bs.length - 256*q:Nat):Int)<256 then ((bs.length - 256*q:Nat):Int) else (256:Int))=256:=by split<;>omega
  have F:=J13 @t0 @t1 @t2 @t4 @gs @gz @hlb @d1 @s1 @len_slq @em @hcast @s3;refine uT ?_;refine cF_rd hrd ?_;rintro v H2 ⟨rfl,hw2,hp2,hn2⟩;have gz2:=(hp2.get (i:=zb) oM hz1).trans gz
  haveI:=hp2.hn;have F:=J6 @t0 @t1 @t2 @t4 @gz2 @hcast;refine uT ?_;have hq1:bs.take (256*(q+1))=bs.take (256*q) ++ (full.drop (o+256*q)).take 256:=by
   rw [show 256*(q+1)=256*q+256 from oM,qt7,← hl]
   congr 1
   rw [qf7,qk3,qj5,qs3 oM]
  have htl:(bs.take (256*q)).length=256*q:=by rw [qd1];omega
  have hq2:putB (putB C (256*f) (bs.take (256*q))) (256*(f+q)) ((full.drop (o+256*q)).take 256)=putB C (256*f) (bs.take (256*(q+1))):=by
   rw [hq1,← zkb1 (by rw [htl,hC.len];omega),htl,qr7]
  rw [hq2] at hw2;exact ⟨m,oM,q+1,oM,hw2,hp1.trans hp2 fun i _ hi=>⟨hi,hi⟩,oM,by rw [qr7]⟩
def DoR (H H':AH) (b mb:Nat) (r:AV) (p:Rp×Ms):Prop:=RpR H' r p.1 H.next/\(∃v lv,MdR H' b mb p.2 v lv)/\HP (fun i=>i≠b/\i≠mb) H H'
theorem DoR.err {H H':AH}{b mb:Nat}{s:Ms}{v lv:AV}{e:Int}(h:MdR H b mb s v lv) (hx:HX H H'):DoR H H' b mb (rpA e .nilSl .nilSl) (er e,s):=⟨RpR.err,⟨v,lv,h.hx hx⟩,hx.hp _⟩
theorem DoR.of {H H':AH}{b mb:Nat}{s:Ms}{v lv r:AV}{p:Rp}(h:MdR H b mb s v lv) (hx:RpR H' r p H.next/\HX H H'):DoR H H' b mb r (p,s):=⟨hx.1,⟨v,lv,h.hx hx.2⟩,hx.2.hp _⟩
theorem ByS.one {H:AH}{v:AV}{l:List Nat}(h:ByS H v l):v.oneCell=true/\v.toC= .lst [v]:=by
 exact h.len.2
theorem ByS.ne {H:AH}{v:AV}{l:List Nat}(h:ByS H v l){i:Nat}(hi:H.next<=i):blkNe v i:=by
 rcases h with ⟨_,_,h⟩|⟨j,o,c,op,full,e,z,op',ro,rfl,hj,_⟩
 ·exact h i hi
 ·exact zla oM
theorem zgg1 {H:AH}[hn:HN H]{bv:AV}(ho:bv.oneCell=true) (ht:bv.toC= .lst [bv]):FnE lookM 75 [bv,.int .i64 256] H fun r H'=>r= .fn (.func 89) [] [.ptr H.next 0,.ptr (H.next+1) 0]/\HX H H'/\H'.next=H.next+2 /\
  H'.get H.next=some (.cells (.lst [bv]) 30 1 false false)/\H'.get (H.next+1)=some (.cells (.lst [.int .i64 256]) 3 1 false false):=by
 refine zud f75_eq rfl rfl ?_;have hlo:=hn.lo;have e01:=hEq_f (oM:H.next≠H.next+1)
 have F:=J3 f75c.eq_1 @ht @e01;refine uT ?_;clear F;exact hxt
theorem join2 {x:Bool}{G C:Prop}(h0:x=false->C->G) (h1:x=true->C->G) (hc:C):G:=by
 cases x with
 |false=>exact h0 rfl hc
 |true=>exact h1 rfl hc
theorem rcT_at {L:Lk}{c:C2}{H:AH}{s:List Kf}{T:Tr AV}{Q:PostC}(P:Tr AV->AH->Prop) (hp:P T H) (hk:∀T H,P T H->RC L c s T H Q):RC L c s T H Q:=hk T H hp
def toW (o:Od):Int:=if o.op=13 then o.n+((o.b.length / 256:Nat):Int) else o.m
set_option maxHeartbeats 32000000 in
theorem zhg1 {H:AH}[hn:HN H]{b mb:Nat}{s:Ms}{v lv:AV}{o:Od}{ov bv:AV}{x:Rc}(h:MdR H b mb s v lv) (hblo:H.lo<=b) (hmlo:H.lo<=mb) (hb:ByS H bv o.b) (hsz:1<=x.sz/\x.sz<=64) (hon:0<=o.n/\o.n<=maxN) (hom:0<=o.m/\o.m<=maxN)
  (hl:o.b.length<=16384) (hm:o.b.length%256=0) (hd:o.op≠13->o.b= []) :
  FnE lookM 58 [.agg (orL o ov bv x),.ptr b 0] H fun r H'=>DoR H H' b mb r (zuf s o x):=by
 refine zud f58_eq rfl rfl ?_;have hlo:=hn.lo;have hlt:=h.lt;have hmlt:=h.mp.1;have hbx:=h.box;unfold maxN at hon hom;have e0:=hEq_f (oM:b≠H.next)
 have e1:=hEq_f (oM:b≠H.next+1)
 have e01:=hEq_f (oM:H.next≠H.next+1)
 have hlk:∀bk bk' k,zjb lookM 61 (.map mb) (.int .i64 k) false ((H.new bk).new bk')=some (bkA (s.b k)):=fun bk bk' k=>((h.hx ((HX.new H bk).trans (HX.new _ bk'))).mp).at k
 have hB:=h.mp.ok x.id;have hwb:=fun i e op H=>wbk0 i e op H hB
 have F:=J16 f58c.eq_1 @zfg1 @zgb @hbx @md_7 @e0 @e1 @e01 @or_7 @or_3 @or_4 @or_0 @hlk @zyi @zzi (J3 @z100 @zfd @hwb);refine uT ?_;clear F;refine bR_at (fun T H1=>HX H H1/\H1.next=H.next+3/\H1.get H.next=some (orx 113 o ov bv x)/\H1.get (H.next+1)=some (rpx 0 .nilSl .nilSl)/\H1.get (H.next+2)=some (.cells (bkC (s.b x.id)) 100 16384 false false) /\
  gT T 1= .ptr b 0/\gT T 2= .ptr H.next 0/\gT T 4= .ptr (H.next+1) 0/\gT T 5= .ptr (H.next+2) 0/\gT T 6= .int .i64 o.n/\gT T 7= .int .i64 o.m) ?_ ?_
 ·exact ⟨hxt,rfl,by have F:=@e01;exact vT,vT0,zfa _ _,vT0,vT0,vT0,vT0,vT0,vT0⟩
 rintro T H1 ⟨hx1,hn1,g0,g1,g2,t1,t2,t4,t5,t6,t7⟩;haveI:=hx1.hn;have hlo1:H1.lo=H.lo:=hx1.lo;clear e0 e1 e01 hlk;have hln:=fun H'=>hb.len.1 u30 H'
 have hq:((o.b.length:Int)).tdiv 256=((o.b.length / 256:Nat):Int):=rfl;refine join2 (x:=decide (o.op=13)) (C:= ∀T,gT T 1= .ptr b 0->gT T 2= .ptr H.next 0->gT T 4= .ptr (H.next+1) 0->gT T 5= .ptr (H.next+2) 0->gT T 6= .int .i64 o.n->gT T 7= .int .i64 (toW o)->bR (.bool (decide (x.kd=2))) lookM ?a ?b ?s T H1 ?Q)
  (fun hx hC=> ?_) (fun hx hC=> ?_) ?_
 case refine_1 =>
  have hto:toW o=o.m:=by unfold toW;rw [qg (qf hx)]
  have F:=J9 @hx @t1 @t2 @t4 @t5 @t6 @t7 @g0 @or_9;refine uT ?_;clear F;refine hC _ ?_ ?_ ?_ ?_ ?_ ?_<;>(have F:=J7 @t1 @t2 @t4 @t5 @t6 @t7 @hto;exact vT)
 case refine_2 =>
  have hto:toW o=o.n+((o.b.length / 256:Nat):Int):=by unfold toW;rw [qj (qe hx)]
  have F:=J12 @hx @t1 @t2 @t4 @t5 @t6 @t7 @g0 @or_9 @or_6 @hln @hq;refine uT ?_;clear F;refine hC _ ?_ ?_ ?_ ?_ ?_ ?_<;>(have F:=J7 @t1 @t2 @t4 @t5 @t6 @t7 @hto;exact vT)
 clear t1 t2 t4 t5 t6 t7 T;intro T t1 t2 t4 t5 t6 t7;have e1:=hEq_f (oM:H.next+1≠H1.next)
 have hW:zuf s o x=if x.kd=2 then (er 18,s) else if o.n>toW o\/toW o>x.sz then (er 5,s) else
  if o.op=13/\usedB (putB (cutK (s.b x.id) o.n.toNat ((toW o).toNat - o.n.toNat)) (256*o.n.toNat) o.b)>usedB (s.b x.id)/\x.qu>0/\(usedB (putB (cutK (s.b x.id) o.n.toNat ((toW o).toNat - o.n.toNat)) (256*o.n.toNat) o.b):Int)>x.qu then (er 16,s) else (er 0,⟨s.t,setK s.b x.id (putB (cutK (s.b x.id) o.n.toNat ((toW o).toNat - o.n.toNat)) (256*o.n.toNat) o.b)⟩):=rfl
 rw [hW];clear hW;cases a1:decide (x.kd=2) with
 |true =>
  rw [qj (qe a1)];have F:=J12 @t1 @t2 @t4 @t5 @t6 @t7 @rp_bu @zgb @g1 @rp_w0 @znb @ld3;refine uT ?_;clear F;exact DoR.err h (by have K:=hx1;exact hxk)
 |false =>
 rw [qg (qf a1)];cases a2:decide (toW o<o.n) with
 |true =>
  rw [qj (.inl (qe a2))];have F:=J13 @t1 @t2 @t4 @t5 @t6 @t7 @a2 @rp_bu @zgb @g1 @rp_w0 @znb @ld3;refine uT ?_;clear F;exact DoR.err h (by have K:=hx1;exact hxk)
 |false =>
 have y2:=qf a2;cases a3:decide (x.sz<toW o) with
 |true =>
  rw [qj (.inr (qe a3))];have F:=J16 @t1 @t2 @t4 @t5 @t6 @t7 @a2 @a3 @g0 @or_10 @rp_bu @zgb @g1 @rp_w0 @znb @ld3;refine uT ?_;clear F;exact DoR.err h (by have K:=hx1;exact hxk)
 |false =>
 have y3:=qf a3;rw [qg (by rintro (k|k)<;>omega)]
 obtain ⟨n,hn0⟩:∃n:Nat,o.n=(n:Int):=⟨o.n.toNat,oM⟩
 obtain ⟨t,ht0⟩:∃t:Nat,toW o=(t:Int):=⟨(toW o).toNat,oM⟩
 have hrest:t - n=o.b.length / 256\/o.b= []:=by
  by_cases ho:o.op=13
  ·left;unfold toW at ht0;rw [qj ho] at ht0;omega
  ·exact .inr (hd ho)
 rw [hn0] at t6 y2;rw [ht0] at t7 y2 y3;rw [hn0,ht0,qg2,qg2];have a2':decide ((t:Int)<(n:Int))=false:=qp y2;have a3':decide (x.sz<(t:Int))=false:=qp y3;have hba:=fun e z op ro=>znl hB e z op ro
 have F:=J12 @t1 @t2 @t4 @t5 @t6 @t7 @a2' @a3' @g0 @or_10 @g2 @hba;refine uT ?_;clear F;refine cR_f (zij1 hB (f:=n) (t:=t) oM oM) ?_
 rintro r2 H2 ⟨rfl,hx2⟩;have hx02:=hx1.trans hx2;haveI:=hx02.hn;have hlo2:H2.lo=H.lo:=hx02.lo;have hn2:=hx2.next;have g0:=(hx2.get (i:=H.next) oM).trans g0
 have g1:=(hx2.get (i:=H.next+1) oM).trans g1
 have g2:=(hx2.get (i:=H.next+2) oM).trans g2
 have hC:=zaj hB (f:=n) (t:=t) oM
 have hwc:=fun i e op H=>wbk0 i e op H hC
 have e00:=hEq_f (oM:H.next≠H2.next)
 have e01:=hEq_f (oM:H.next≠H2.next+1)
 have e001:=hEq_f (oM:H2.next≠H2.next+1)
 have hst:∀(i o:Nat) (n:Int) (H:AH),H.lo<=i->st1 lookM 3 (.ptr i o) (.int .i64 n) H=wr1 (H.get i) i o (.int .i64 n) H:=fun i o n H h=>st1_w sz3i rfl rfl h
 have F:=J13 @t1 @t2 @t4 @t5 @t6 @t7 @g0 @or_6 @zfd @hwc @e00 @e01 @hst;refine uT ?_;clear F;refine cR_at (fun H3=>HX H2 H3/\H3.next=H2.next+2/\H3.get H2.next=some (.cells (bkC (cutK (s.b x.id) n (t - n))) 100 16384 false false)/\H3.get (H2.next+1)=some (.cells (.lst [.int .i64 (n:Nat)]) 3 1 false false)) ?_ ?_
 ·exact ⟨hxt,rfl,by have F:=@e001;exact vT,zfa _ _⟩
 rintro H3 ⟨hx3,hn3,g3,g4⟩;have hx03:=hx02.trans hx3;haveI:=hx03.hn;refine cR_f (zgg1 hb.one.1 hb.one.2) ?_;rintro r4 H4 ⟨rfl,hx4,hn4,g5,g6⟩;have hx04:=hx03.trans hx4;have hx24:=hx3.trans hx4;haveI:=hx04.hn;have hlo4:H4.lo=H.lo:=hx04.lo;have g0:=(hx24.get (i:=H.next) oM).trans g0
 have g1:=(hx24.get (i:=H.next+1) oM).trans g1
 have g2:=(hx24.get (i:=H.next+2) oM).trans g2
 have g3:=(hx4.get (i:=H2.next) oM).trans g3
 have g4:=(hx4.get (i:=H2.next+1) oM).trans g4
 refine uT0 ?_;refine rcT_at (fun T H5=>H5=H4/\gT T 1= .ptr b 0/\gT T 2= .ptr H.next 0/\gT T 4= .ptr (H.next+1) 0/\gT T 5= .ptr (H.next+2) 0/\gT T 8= .ptr H2.next 0/\gT T 9= .ptr (H2.next+1) 0/\gT T 63= .fn (.func 89) [] [.ptr H3.next 0,.ptr (H3.next+1) 0]) ?_ ?_
 ·refine ⟨rfl,?_,?_,?_,?_,?_,?_,?_⟩<;>(have F:=J4 @t1 @t2 @t4 @t5;exact vT)
 clear t1 t2 t4 t5 t6 t7 T;rintro T H5 ⟨rfl,t1,t2,t4,t5,t8,t9,t63⟩;have hxL:=HX.new H5 (.loop .ready none T 0 [64] f58b0 f58b1);have gL:(H5.new (.loop .ready none T 0 [64] f58b0 f58b1)).get H5.next=some (.loop .ready none T 0 [64] f58b0 f58b1):=zaa _;have nL:(H5.new (.loop .ready none T 0 [64] f58b0 f58b1)).next=H5.next+1:=rfl;refine rc_rng (g:=.fn (.func 89) [] [.ptr H3.next 0,.ptr (H3.next+1) 0]) (fid:=89) (args:= [.yld H5.next,.ptr H3.next 0,.ptr (H3.next+1) 0])
  (R:=fun r H'=>WrS H' H5.next H2.next (H2.next+1) T (putB (cutK (s.b x.id) n (t - n)) (256*n) o.b) (n+o.b.length / 256)/\HP (fun i=>i≠H2.next/\i≠H2.next+1/\i≠H5.next) (H5.new (.loop .ready none T 0 [64] f58b0 f58b1)) H'/\H'.next=(H5.new (.loop .ready none T 0 [64] f58b0 f58b1)).next) ?_ rfl kR ?_ ?_
 ·have F:=@t63;exact vT
 ·generalize H5.new (.loop .ready none T 0 [64] f58b0 f58b1)=HL at *
  haveI:=hxL.hn;have hloL:HL.lo=H.lo:=hxL.lo.trans hlo4;have hx0L:=hx04.trans hxL;refine zoo1 ⟨t8,t9,gL,(hxL.get oM).trans g3,(hxL.get oM).trans g4⟩ hC (hb.hx hx0L) hm ?_ ((hxL.get oM).trans g5) ((hxL.get oM).trans g6) ?_ ?_ ?_ ?_ ?_ ?_ ?_ ?_ ?_ ?_ ?_
  ·rcases hrest with h1|h1
   ·omega
   ·rw [h1];simp;omega
  all_goals first|omega|exact ⟨oM,oM,oM⟩|exact ⟨hb.ne oM,hb.ne oM⟩
 rintro v6 H6 ⟨hw6,hp6,hn6⟩;rw [nL] at hn6;have hpA:HP (fun i=>i≠H2.next/\i≠H2.next+1/\i≠H5.next) H5 (H6.put H5.next .defd):=((hxL.hp (fun _=>True)).trans hp6 (r:=fun i=>i≠H2.next/\i≠H2.next+1/\i≠H5.next) fun i _ hi=>⟨trivial,hi⟩).trans (HP.put _ _ _) fun i _ hi=>⟨hi,hi.2.2⟩
 have hxA:HX H (H6.put H5.next .defd):=HX.hp2 hx04 hpA fun q hq=>⟨oM,oM,oM⟩
 refine ⟨by have:=hp6.lo;have h2:=hxL.lo;omega,⟨_,_,_,_,_,hw6.lp⟩,?_⟩
 haveI:=hxL.hn;haveI:HN H6:=hp6.hn;have g3:(H6.put H5.next .defd).get H2.next=some (.cells (bkC (putB (cutK (s.b x.id) n (t - n)) (256*n) o.b)) 100 16384 false false):=(zgc _ oM).trans hw6.nb
 have g0:=(hpA.get (i:=H.next) oM ⟨oM,oM,oM⟩).trans g0
 have g1:=(hpA.get (i:=H.next+1) oM ⟨oM,oM,oM⟩).trans g1
 have g2:=(hpA.get (i:=H.next+2) oM ⟨oM,oM,oM⟩).trans g2
 have hnA:(H6.put H5.next .defd).next=H5.next+1:=hn6;clear hpA hp6 hw6;generalize H6.put H5.next .defd=H7 at *
 haveI:=hxA.hn;have hloA:H7.lo=H.lo:=hxA.lo;have hD:BkOk (putB (cutK (s.b x.id) n (t - n)) (256*n) o.b):=zpu hC hb.byt (by
  rcases hrest with h1|h1
  ·omega
  ·rw [h1];simp;omega)
 generalize putB (cutK (s.b x.id) n (t - n)) (256*n) o.b=D at *
 have hda:=fun e z op ro=>znl hD e z op ro
 have F:=J3 @t8 @g3 @hda;refine uT ?_;clear F;refine cR_f (zou hD) ?_;rintro r8 H8 ⟨rfl,hx8⟩;have hx08:=hxA.trans hx8;haveI:=hx08.hn;have hlo8:H8.lo=H.lo:=hx08.lo;have hn8:=hx8.next;have g0:=(hx8.get (i:=H.next) oM).trans g0
 have g1:=(hx8.get (i:=H.next+1) oM).trans g1
 have g2:=(hx8.get (i:=H.next+2) oM).trans g2
 have g3:=(hx8.get (i:=H2.next) oM).trans g3
 have F:=J8 @t1 @t2 @t4 @t5 @t8 @t9 @g0 @or_0;refine uT ?_;clear F;refine gR_at (fun T=>gT T 1= .ptr b 0/\gT T 2= .ptr H.next 0/\gT T 4= .ptr (H.next+1) 0/\gT T 5= .ptr (H.next+2) 0/\gT T 8= .ptr H2.next 0/\gT T 11= .int .i64 (usedB D:Nat)/\gT T 78= .bool (decide (o.op=13))) ?_ ?_
 ·refine ⟨?_,?_,?_,?_,?_,?_,?_⟩<;>(have F:=J5 @t1 @t2 @t4 @t5 @t8;exact vT)
 clear t1 t2 t4 t5 t8 t9 t63;rintro T9 ⟨t1,t2,t4,t5,t8,t11,t78⟩;refine join2 (x:=decide (o.op=13)) (C:= ∀T H9,HX H8 H9->gT T 2= .ptr H.next 0->gT T 4= .ptr (H.next+1) 0->gT T 8= .ptr H2.next 0-> ¬(o.op=13/\usedB D>usedB (s.b x.id)/\x.qu>0/\(usedB D:Int)>x.qu)->oR (rdB (H9.get b) 7) lookM 101 ?ka ?sa T H9 ?Qa)
  (fun a5 hC=> ?_) (fun a5 hC=> ?_) ?_
 case refine_1 =>
  have F:=J8 @a5 @t1 @t2 @t4 @t5 @t8 @t11 @t78;refine uT ?_;clear F;refine hC _ _ (HX.refl _) ?_ ?_ ?_ (fun k=>qf a5 k.1)<;>(have F:=J3 @t2 @t4 @t8;exact vT)
 case refine_2 =>
  have F:=J10 @a5 @t1 @t2 @t4 @t5 @t8 @t11 @t78 @g2 @hba;refine uT ?_;clear F;refine cR_f (zou hB) ?_;rintro r9 H9 ⟨rfl,hx9⟩;have hx09:=hx08.trans hx9;haveI:=hx09.hn;have hlo9:H9.lo=H.lo:=hx09.lo;have hn9:=hx9.next;have g0:=(hx9.get (i:=H.next) oM).trans g0
  have g1:=(hx9.get (i:=H.next+1) oM).trans g1
  cases a6:decide ((usedB (s.b x.id):Int)<(usedB D:Int)) with
  |false =>
   have y6:=qf a6;have F:=J9 @a5 @t1 @t2 @t4 @t5 @t8 @t11 @t78 @a6;refine uT ?_;clear F;refine hC _ _ hx9 ?_ ?_ ?_ (fun k=>by have:=k.2.1;omega)<;>(have F:=J3 @t2 @t4 @t8;exact vT)
  |true =>
  have y6:=qe a6;cases a7:decide (0<x.qu) with
  |false =>
   have y7:=qf a7;have F:=J12 @a5 @t1 @t2 @t4 @t5 @t8 @t11 @t78 @a6 @g0 @or_49 @a7;refine uT ?_;clear F;refine hC _ _ hx9 ?_ ?_ ?_ (fun k=>by have:=k.2.2.1;omega)<;>(have F:=J3 @t2 @t4 @t8;exact vT)
  |true =>
  have y7:=qe a7;cases a8:decide (x.qu<(usedB D:Int)) with
  |false =>
   have y8:=qf a8;have F:=J13 @a5 @t1 @t2 @t4 @t5 @t8 @t11 @t78 @a6 @g0 @or_49 @a7 @a8;refine uT ?_;clear F;refine hC _ _ hx9 ?_ ?_ ?_ (fun k=>by have:=k.2.2.2;omega)<;>(have F:=J3 @t2 @t4 @t8;exact vT)
  |true =>
  have y8:=qe a8;rw [qj ⟨qe a5,oM,oM,oM⟩]
  have F:=J16 @a5 @t1 @t2 @t4 @t5 @t8 @t11 @t78 @a6 @g0 @g1 @or_49 @a7 @a8 @rp_bu (J4 @zgb @rp_w0 @znb @ld3);refine uT ?_;clear F;exact DoR.err h (by have K:=hx09;exact hxk)
 have g1'8:=g1;intro T H9 hx9 t2 t4 t8 hno;rw [qg hno];have hx09:=hx08.trans hx9;haveI:=hx09.hn;have hlo9:H9.lo=H.lo:=hx09.lo;have hn9:=hx9.next;have g0:=(hx9.get (i:=H.next) oM).trans g0
 have g1:=(hx9.get (i:=H.next+1) oM).trans g1
 have g3:=(hx9.get (i:=H2.next) oM).trans g3
 have h9:=h.hx hx09;have hb9:=h9.box;obtain ⟨H10,w10,m10,hp10,hn10⟩:=h9.mp.up x.id hD oM
 have hbm:=h.ne;haveI:HN H10:=hp10.hn;have hlo10:H10.lo=H.lo:=hp10.lo.trans hlo9;obtain ⟨es,c,kv,gm,_⟩:=h9.mp.2;have g1m:H.next+1≠mb:=oM
 have g1:=(hp10.get (i:=H.next+1) oM g1m).trans g1
 have F:=J16 @t2 @t4 @t8 @hb9 @md_7 @g0 @or_7 @g3 @hda @w10 @zlj @zgb @g1 @rp_w0 @znb @ld3;refine uT ?_;clear F;have g19:=(hx9.get (i:=H.next+1) oM).trans g1'8
 have k2:HP (·≠ H.next+1) H10 (H10.put (H.next+1) (rpx 0 .nilSl .nilSl)):=HP.put _ _ _;have kk:HP (fun i=>i≠mb/\i≠H.next+1) H9 (H10.put (H.next+1) (rpx 0 .nilSl .nilSl)):=hp10.trans k2 fun i _ hi=>hi
 have k0:HP (fun i=>i≠b/\i≠mb) H (H10.put (H.next+1) (rpx 0 .nilSl .nilSl)):=(hx09.hp (fun _=>True)).trans kk fun i hi hh=>⟨trivial,hh.2,oM⟩
 have sep:∀(z:Nat),z≠3-> ∀j cc e op ro,H9.get j=some (.cells cc e z op ro)->(j≠mb/\j≠H.next+1):=fun z z3 j cc e op ro hg=>by
  refine ⟨fun e=> ?_,fun e=> ?_⟩
  ·subst e;rw [hg] at gm;cases gm
  ·subst e;rw [hg] at g19;cases g19;exact z3 rfl
 refine ⟨RpR.err,⟨v,lv,?_⟩,k0⟩;refine ⟨qa1 hlt k0.next,?_,h9.rd.sep kk (sep 44 dC),h9.lv.sep kk (sep 1 dC),m10.hp k2 oM⟩
 exact (k2.get oM oM).trans ((hp10.get oM hbm).trans hb9)
theorem join5 {x u v:Bool}{G C:Prop}(h0:x=false->C->G) (h1:x=true->u=true->G) (h2:x=true->u=false->v=true->G) (h3:x=true->u=false->v=false->C->G) (hc:(x=true->u=false/\v=false)->C):G:=by
 cases x with
 |false=>exact h0 rfl (hc fun h=>by cases h)
 |true =>
  cases u with
  |true=>exact h1 rfl rfl
  |false =>
   cases v with
   |true=>exact h2 rfl rfl rfl
   |false=>exact h3 rfl rfl rfl (hc fun _=>⟨rfl,rfl⟩)
theorem zpo1 {x:AV}{w:Bool}{L:Lk}{d:Nat}{a b:K2}{s:List Kf}{T:Tr AV}{H:AH}{Q:PostC}(P:Tr AV->AH->Prop) (hp:P T H) (hk:∀T H,P T H->gR x w L d a b s T H Q):gR x w L d a b s T H Q:=hk T H hp
theorem zic {H:AH}{v:AV}{n:Nat}(h:IsSl H v n):v.oneCell=true:=by
 rcases h with ⟨rfl,_⟩|⟨i,o,c,op,rfl,_⟩<;>rfl
theorem od_one {o:Od}{ov bv:AV}(h1:ov.oneCell=true) (h2:bv.oneCell=true):(odL o ov bv).all AV.oneCell=true:=by
 show (true && (true && (true && (true && (true && (ov.oneCell && (bv.oneCell && true)))))))=true
 rw [h1,h2];rfl
set_option maxHeartbeats 32000000 in
theorem asks_ok {H:AH}[hn:HN H]{b mb:Nat}{s:Ms}{v lv:AV}{o:Od}{ov bv:AV}(h:MdR H b mb s v lv) (hd:Bd s.t) (hblo:H.lo<=b) (hmlo:H.lo<=mb) (hb:ByS H bv o.b) (ho:LenV ov o.l.length) (hsz:∀i,i<s.t.rs.length->1<=(get s.t.rs i).sz/\(get s.t.rs i).sz<=64) (hok:ordOk o=true) (hop:12<=o.op/\o.op<=15) :
  FnE lookM 30 [odA o ov bv,.ptr b 0] H fun r H'=>DoR H H' b mb r (asksM s o):=by
 refine fI Tryz.f30 ?_;have hlo:=hn.lo;have hlt:=h.lt;have hOp:=(zcl o).1 hok;have hnm:=longB_f.1 hOp.nm;have hvol:= @FnX.p _ _ _ _ (zzn o.nm);have hsn:= @FnX.p _ _ _ _ (zzt o.nm oM)
 have hl:=fun H'=>hb.len.1 u30 H'
 have e01:=hEq_f (oM:H.next≠H.next+1)
 have e02:=hEq_f (oM:H.next≠H.next+2)
 have e12:=hEq_f (oM:H.next+1≠H.next+2)
 have hone:=od_one (o:=o) ho.2.1 hb.one.1;have F:=J4 @zvf @zgb @zgh @od_0;refine uT ?_;clear F;refine zpo1 (fun T H1=>HX H H1/\H1.next=H.next+3/\H1.get (H.next+1)=some (rpx 0 .nilSl .nilSl)/\H1.get (H.next+2)=some (odx o ov bv) /\
  gT T 1= .ptr b 0/\gT T 4= .ptr (H.next+1) 0/\gT T 5= .ptr (H.next+2) 0/\gT T 14= .bool (decide (o.op=13))) ?_ ?_
 ·refine ⟨hxt,rfl,?_,zfa _ _,?_,?_,?_,?_⟩<;>(exact vT0)
 clear e01 e02 e12;rintro T H1 ⟨hx1,hn1,g1,g2,t1,t4,t5,t14⟩;haveI:=hx1.hn;have hlo1:H1.lo=H.lo:=hx1.lo;have hA:asksM s o=if (o.op=13/\(o.b.length=0\/o.b.length%256≠0))\/(partB o.nm || snapB o.nm)=false then (er 2,s)
   else if hasB o.nm s.t.rs=false then (er 6,s)
   else if o.op=12 then (readM s o (recO s.t o.nm),s) else if o.op=15 then (⟨0, [(usedB (s.b (recO s.t o.nm).id):Int)], []⟩,s) else zuf s o (recO s.t o.nm):=rfl
 generalize asksM s o=res at *
 refine join5 (x:=decide (o.op=13)) (u:=decide ((o.b.length:Int)=0)) (v:=decide (¬((o.b.length:Int)).tmod 256=0)) (C:= ∀T,gT T 1= .ptr b 0->gT T 4= .ptr (H.next+1) 0->gT T 5= .ptr (H.next+2) 0->gT T 28= .bool false->gT T 33= .bool (!partB o.nm)->gR (.bool (!partB o.nm)) true lookM ?d1 ?b1 ?k1 ?s1 T H1 ?Q1)
  (fun hx hC=> ?_) (fun hx hu=> ?_) (fun hx hu hv=> ?_) (fun hx hu hv hC=> ?_) ?_
 case refine_1 =>
  have F:=J8 @hx @t1 @t4 @t5 @t14 @g2 @od_1 @hvol;refine uT ?_;clear F;refine hC _ ?_ ?_ ?_ ?_ ?_<;>(have F:=J3 @t1 @t4 @t5;exact vT)
 case refine_2 =>
  rw [hA,qj (.inl ⟨qe hx,.inl (by have:=qe hu;omega)⟩)]
  have F:=J15 @hx @hu @t1 @t4 @t5 @t14 @g1 @g2 @od_6 @hl @rp_bu @zgb @rp_w0 @znb @ld3;refine uT ?_;clear F;exact DoR.err h (by have K:=hx1;exact hxk)
 case refine_3 =>
  rw [hA,qj (.inl ⟨qe hx,.inr fun e=>qe hv (by show ((o.b.length%256:Nat):Int)=0;rw [e];rfl)⟩)]
  have F:=J16 @hx @hu @hv @t1 @t4 @t5 @t14 @g1 @g2 @od_6 @hl @rp_bu @zgb @rp_w0 @znb @ld3;refine uT ?_;clear F;exact DoR.err h (by have K:=hx1;exact hxk)
 case refine_4 =>
  have F:=J13 @hx @hu @hv @t1 @t4 @t5 @t14 @g1 @g2 @od_6 @od_1 @hl @hvol;refine uT ?_;clear F;refine hC _ ?_ ?_ ?_ ?_ ?_<;>(have F:=J3 @t1 @t4 @t5;exact vT)
 clear t1 t4 t5 t14;intro hodd T t1 t4 t5 t28 t33;have nodd:¬(o.op=13/\(o.b.length=0\/o.b.length%256≠0)):=fun ⟨k1,k2⟩=>by
  obtain ⟨h1,h2⟩:=hodd (qo k1);have h1:=qf h1;have h2:=qf h2;rcases k2 with k|k
  ·exact h1 oM
  ·refine h2 fun e=>k ?_
   have e:((o.b.length%256:Nat):Int)=0:=e;omega
 have g1'1:=g1;refine join4 (x:= !snapB o.nm) (u:=partB o.nm) (C:= ∀T,gT T 1= .ptr b 0->gT T 4= .ptr (H.next+1) 0->gT T 5= .ptr (H.next+2) 0->cR false lookM 46 [.ptr b 0,.str o.nm] H1 45 ?k2 ?s2 T ?Q2) (fun hp hC=> ?_) (fun hp hs hC=> ?_) (fun hp hs=> ?_) ?_
 case refine_1 =>
  rw [hp];have F:=J8 @t1 @t4 @t5 @t28 @t33 @hp @g2 @od_1;refine uT ?_;clear F;refine hC _ ?_ ?_ ?_<;>(have F:=J3 @t1 @t4 @t5;exact vT)
 case refine_2 =>
  have hs':snapB o.nm=true:=by simpa using hs
  rw [hp];have F:=J10 @t1 @t4 @t5 @t28 @t33 @hp @g2 @od_1 @hsn @hs';refine uT ?_;clear F;refine hC _ ?_ ?_ ?_<;>(have F:=J3 @t1 @t4 @t5;exact vT)
 case refine_3 =>
  have hs':snapB o.nm=false:=by simpa using hs
  rw [hA,qj (.inr (by rw [hp,hs'];rfl))]
  have F:=J16 @t1 @t4 @t5 @t28 @t33 @hp @g1 @g2 @od_1 @hsn @hs' @rp_bu @zgb @rp_w0 @znb @ld3;refine uT ?_;clear F;exact DoR.err h (by have K:=hx1;exact hxk)
 clear t1 t4 t5 t28 t33;intro hps T t1 t4 t5;have hps':¬(partB o.nm || snapB o.nm)=false:=by
  rcases hps with k|k
  ·have:snapB o.nm=true:=by simpa using k
   rw [this];simp
  ·rw [k];simp
 rw [qg (by rintro (k|k);exact nodd k;exact hps' k)] at hA
 refine cR_f (zpr (nm:=o.nm) (h.hx hx1) hd.len) ?_;rintro r2 H2 ⟨rfl,hx2⟩;have hx02:=hx1.trans hx2;haveI:=hx02.hn;have hlo2:H2.lo=H.lo:=hx02.lo;have hn2:=hx2.next;have g1:=(hx2.get (i:=H.next+1) oM).trans g1
 have g2:=(hx2.get (i:=H.next+2) oM).trans g2
 have hone2:=zbc (AV.nilSl,recO s.t o.nm) rfl;have e1:=hEq_f (oM:H.next+1≠H2.next)
 have e2:=hEq_f (oM:H.next+2≠H2.next)
 cases a3:hasB o.nm s.t.rs with
 |false =>
  rw [a3,qj rfl] at hA;rw [hA];have F:=J13 @t1 @t4 @t5 @zra @g1 @g2 @e1 @e2 @rp_bu @zgb @rp_w0 @znb @ld3;refine uT ?_;clear F;exact DoR.err h (by have K:=hx02;exact hxk)
 |true =>
 rw [a3,qg (by simp)] at hA
 rw [hA];have hx44:1<=(recO s.t o.nm).sz/\(recO s.t o.nm).sz<=64:=by rw [znf a3];exact hsz _ (zeb a3).1
 have hon:0<=o.n/\o.n<=maxN:=qe hOp.n;have hom:0<=o.m/\o.m<=maxN:=qe hOp.m;clear hA;generalize recO s.t o.nm=x at *
 have fin:∀(H3 H4:AH) (nv bv':AV) (p:Rp×Ms),HX H2 H3->DoR H3 H4 b mb (rpA p.1.err nv bv') p->DoR H (H4.put (H.next+1) (rpx p.1.err nv bv')) b mb (rpA p.1.err nv bv') p:=by
  rintro H3 H4 nv bv' p hx3 ⟨hr,⟨v',lv',hm⟩,hp4⟩;have hx03:=hx02.trans hx3;haveI:=hx03.hn;haveI:HN H4:=hp4.hn;have hn3:=hx3.next;have hn4:=hp4.next;have g14:=(hp4.get (i:=H.next+1) oM ⟨oM,by have:=h.mp.1;omega⟩).trans ((hx3.get oM).trans g1)
  have k2:HP (·≠ H.next+1) H4 (H4.put (H.next+1) (rpx p.1.err nv bv')):=HP.put _ _ _;have sep:∀(z:Nat),z≠3-> ∀j cc e op ro,H4.get j=some (.cells cc e z op ro)->j≠H.next+1:=fun z z3 j cc e op ro hg e=>by
   subst e;rw [hg] at g14;cases g14;exact z3 rfl
  refine ⟨(hr.put oM _).le oM,⟨v',lv',?_⟩,((hx03.hp (fun _=>True)).trans hp4 (r:=fun i=>i≠b/\i≠mb) fun i _ hi=>⟨trivial,hi⟩).trans k2 fun i hi hh=>⟨hh,oM⟩⟩
  exact ⟨hm.lt,(k2.get hm.lt oM).trans hm.box,hm.rd.sep k2 (sep 44 dC),hm.lv.sep k2 (sep 1 dC),hm.mp.hp k2 (by have:=h.mp.1;omega)⟩
 have hblt:∀H3 H4,HX H2 H3->HP (fun i=>i≠b/\i≠mb) H3 H4->H4.get (H.next+1)=some (rpx 0 .nilSl .nilSl)/\H4.lo=H.lo/\HN H4:=fun H3 H4 hx3 hp4 =>
  ⟨(hp4.get (i:=H.next+1) (by have:=hx3.next;omega) ⟨oM,by have:=h.mp.1;omega⟩).trans ((hx3.get oM).trans g1),(hp4.lo.trans hx3.lo).trans hlo2,by haveI:=hx3.hn;exact hp4.hn⟩
 cases a4:decide (o.op=12) with
 |true =>
  rw [qj (qe a4)];have F:=J13 @t1 @t4 @t5 @zra @g1 @g2 @e1 @e2 @od_0 @a4 @zgh @zzd @or_bu;refine uT ?_;clear F;refine cR_at (fun H3=>HX H2 H3) ?_ ?_
  ·exact hxt
  rintro H3 hx3;have hx03:=hx02.trans hx3;haveI:=hx03.hn;refine cR_f (zno1 (h.hx hx03) hx44 hon hom) ?_;rintro r4 H4 hr;have hD:=DoR.of (h.hx hx03) hr;obtain ⟨nv,bv4,rfl,z1,z2,z3⟩:=hD.1;obtain ⟨g14,hlo4,hn4⟩:=hblt H3 H4 hx3 hD.2.2;have o1:=zic z1.is;have o2:=zic z2.is;have F:=J6 @t4 @zgb @g14 @rp_w @znb @ld3;refine uT ?_;clear F;exact fin H3 H4 nv bv4 (readM s o x,s) hx3 hD
 |false =>
 rw [qg (qf a4)];cases a5:decide (o.op=15) with
 |true =>
  rw [qj (qe a5)];have hbu:zua lookM 112 (zipF [0] [.agg (rcL (.nilSl,x))])=some (.agg (rcL (.nilSl,x))):=kR
  have F:=J13 @t1 @t4 @t5 @zra @g1 @g2 @e1 @e2 @od_0 @a4 @a5 @zzd @hbu;refine uT ?_;clear F;refine cR_at (fun H3=>HX H2 H3) ?_ ?_
  ·exact hxt
  rintro H3 hx3;have hx03:=hx02.trans hx3;haveI:=hx03.hn;refine cR_f (zdg1 (x:=x) (h.hx hx03)) ?_;rintro r4 H4 hr;have hD:=DoR.of (h.hx hx03) hr;obtain ⟨nv,bv4,rfl,z1,z2,z3⟩:=hD.1;obtain ⟨g14,hlo4,hn4⟩:=hblt H3 H4 hx3 hD.2.2;have o1:=zic z1.is;have o2:=zic z2.is;have F:=J6 @t4 @zgb @g14 @rp_w @znb @ld3;refine uT ?_;clear F;exact fin H3 H4 nv bv4 (_,s) hx3 hD
 |false =>
 have n4:=qf a4;have n5:=qf a5;rw [qg n5];have F:=J14 @t1 @t4 @t5 @zra @g1 @g2 @e1 @e2 @od_0 @a4 @a5 @zgh @zzd @or_buW;refine uT ?_;clear F;refine cR_at (fun H3=>HX H2 H3) ?_ ?_
 ·exact hxt
 rintro H3 hx3;have hx03:=hx02.trans hx3;haveI:=hx03.hn;have hlo3:H3.lo=H.lo:=hx03.lo;refine cR_f (zhg1 (h.hx hx03) oM oM (hb.hx hx03) hx44 hon hom ?_ ?_ ?_) ?_
 ·have:=hOp.b;omega
 ·by_cases e:o.op=13
  ·by_cases e2:o.b.length%256=0
   ·exact e2
   ·exact absurd ⟨e,.inr e2⟩ nodd
  ·have e14:o.op=14:=oM
   have:=hOp.u6;rw [e14] at this;rcases this with k|k
   ·omega
   ·exact absurd k dC
 ·intro e
  have e14:o.op=14:=oM
  have:=hOp.u6;rw [e14] at this;rcases this with k|k
  ·exact ql1 oM
  ·exact absurd k dC
 rintro r4 H4 hD;obtain ⟨nv,bv4,rfl,z1,z2,z3⟩:=hD.1;obtain ⟨g14,hlo4,hn4⟩:=hblt H3 H4 hx3 hD.2.2;have o1:=zic z1.is;have o2:=zic z2.is;have F:=J6 @t4 @zgb @g14 @rp_w @znb @ld3;refine uT ?_;clear F;exact fin H3 H4 nv bv4 _ hx3 hD
theorem RK_inv {L:Lk}{nm:String}{xs:List O2}{d:Nat}{k:K2}{s:List Kf}{T:Tr AV}{H:AH}{Q:PostC}:RK L (.cn false (fun xs H=>zjd L (hd xs) nm (tl xs) H) xs (some (sOf d)) k) s T H Q=cF false (zjd L (hd (evs xs T)) nm (tl (evs xs T)) H) L H d k s T Q:=zqi qg7
theorem rI_nil:binF .eql (evBin lookM .eql 71 (.tmp 20) (.const .nilIface)) .nilIfc .nilIfc=some (.bool true):=kR
theorem rI_1 (xo yo:Operand) (v:AV):binF .eql (evBin lookM .eql 71 xo yo) (.ifc 107 v) .nilIfc=some (.bool false):=kR
theorem rI_2 (xo yo:Operand) (v:AV):binF .eql (evBin lookM .eql 71 xo yo) (.ifc 108 v) .nilIfc=some (.bool false):=kR
theorem rI_3 (xo yo:Operand) (v:AV):binF .eql (evBin lookM .eql 71 xo yo) (.ifc 74 v) .nilIfc=some (.bool false):=kR
theorem rA_1 (v:AV):ztd lookM (.ifc 107 v) 74 true=some (.tup [.agg [.int .i64 0,.str ⟨#[]⟩,.str ⟨#[]⟩,.int .i64 0,.int .i64 0,.nilSl,.nilSl],.bool false]):=kR
theorem rA_2 (v:AV):ztd lookM (.ifc 108 v) 74 true=some (.tup [.agg [.int .i64 0,.str ⟨#[]⟩,.str ⟨#[]⟩,.int .i64 0,.int .i64 0,.nilSl,.nilSl],.bool false]):=kR
theorem rA_3 (v:AV):ztd lookM (.ifc 74 v) 74 true=some (.tup [v,.bool true]):=kR
theorem rV_1 (v p : AV) (H : AH) : zjd lookM (.ifc 107 v) "caulker/model.does" [p] H = some (.enter 132 [v, p]) := kR
theorem rV_2 (v p : AV) (H : AH) : zjd lookM (.ifc 108 v) "caulker/model.does" [p] H = some (.enter 201 [v, p]) := kR
set_option maxHeartbeats 32000000 in
theorem zqo1 {H:AH}[hn:HN H]{b mb:Nat}{s:Ms}{v lv:AV}{o:Od}{ov bv:AV}(h:MdR H b mb s v lv) (hd:Bd s.t) (hblo:H.lo<=b) (hmlo:H.lo<=mb) (ho:OdIn H o ov bv) (hb:ByS H bv o.b) (hsz:∀i,i<s.t.rs.length->1<=(get s.t.rs i).sz/\(get s.t.rs i).sz<=64)
  (hrs:∀r,r∈s.t.rs-> -1000000<=r.rs/\r.rs<=1000000) :
  FnE lookM 10 [.ptr b 0,odA o ov bv] H fun r H'=> ∃rp,r= .tup [rp,.bool (zyd true s o).2.1]/\DoR H H' b mb rp ((zyd true s o).1,(zyd true s o).2.2):=by
 refine fI Tryz.f10 ?_;have hlo:=hn.lo;have hlt:=h.lt;have e01:=hEq_f (oM:H.next≠H.next+1)
 have hone:=od_one (o:=o) ho.l.1.2.1 hb.one.1;have F:=J2 @zvf @zgb;refine uT ?_;refine cR_at (fun H1=>HX H H1/\H1.next=H.next+2/\H1.get H.next=some (odx o ov bv)/\H1.get (H.next+1)=some (rpx 0 .nilSl .nilSl)) ?_ ?_
 ·refine ⟨hxt,rfl,?_,zaa _⟩
  have F:=@e01;exact vT
 rintro H1 ⟨hx1,hn1,g0,g1⟩;haveI:=hx1.hn;refine cR_f (zqu (h.hx hx1)) ?_;rintro r2 H2 ⟨rfl,hx2⟩;have hx02:=hx1.trans hx2;haveI:=hx02.hn;have hlo2:H2.lo=H.lo:=hx02.lo;have hn2:=hx2.next;have g0:=(hx2.get (i:=H.next) oM).trans g0
 have g1:=(hx2.get (i:=H.next+1) oM).trans g1
 have F:=J2 @g0 @zgh;refine uT ?_;refine cR_f (zzf1 (ho.hx hx02)) ?_;rintro r3 H3 ⟨rfl,hx3⟩;have hx03:=hx02.trans hx3;haveI:=hx03.hn;have hlo3:H3.lo=H.lo:=hx03.lo;have hn3:=hx3.next;have g0:=(hx3.get (i:=H.next) oM).trans g0
 have g1:=(hx3.get (i:=H.next+1) oM).trans g1
 unfold zyd ordI;cases a1:ordOk o with
 |false =>
  have d1:decide (¬(2:Int)=0)=true:=dC
  have F:=J7 @d1 @rp_bu @zgb @g1 @rp_w0 @znb @ld3;refine uI ?_;exact ⟨_,rfl,DoR.err h (by have K:=hx03;exact hxk)⟩
 |true =>
 have hOp:=(zcl o).1 a1;have hnm:=longB_f.1 hOp.nm;have hto:=longB_f.1 hOp.to;have hop1:=hOp.op1;have d1:decide (¬(0:Int)=0)=false:=dC
 have F:=J3 @d1 @g0 @zgh;refine uI ?_;refine cR_f kind_ok ?_;rintro r4 H4 ⟨rfl,hx4⟩;have hx04:=hx03.trans hx4;haveI:=hx04.hn;have hlo4:H4.lo=H.lo:=hx04.lo;have hn4:=hx4.next;have g0:=(hx4.get (i:=H.next) oM).trans g0
 have g1:=(hx4.get (i:=H.next+1) oM).trans g1
 unfold kindA;have fin:∀(H5 H6:AH) (nv bv':AV) (p:Rp×Ms),HX H4 H5->DoR H5 H6 b mb (rpA p.1.err nv bv') p->DoR H (H6.put (H.next+1) (rpx p.1.err nv bv')) b mb (rpA p.1.err nv bv') p:=by
  rintro H5 H6 nv bv' p hx5 ⟨hr,⟨v',lv',hm⟩,hp6⟩;have hx05:=hx04.trans hx5;haveI:=hx05.hn;haveI:HN H6:=hp6.hn;have hn5:=hx5.next;have hn6:=hp6.next;have g16:=(hp6.get (i:=H.next+1) oM ⟨oM,by have:=h.mp.1;omega⟩).trans ((hx5.get oM).trans g1)
  have k2:HP (·≠ H.next+1) H6 (H6.put (H.next+1) (rpx p.1.err nv bv')):=HP.put _ _ _;have sep:∀(z:Nat),z≠3-> ∀j cc e op ro,H6.get j=some (.cells cc e z op ro)->j≠H.next+1:=fun z z3 j cc e op ro hg e=>by
   subst e;rw [hg] at g16;cases g16;exact z3 rfl
  refine ⟨(hr.put oM _).le oM,⟨v',lv',?_⟩,((hx05.hp (fun _=>True)).trans hp6 (r:=fun i=>i≠b/\i≠mb) fun i _ hi=>⟨trivial,hi⟩).trans k2 fun i hi hh=>⟨hh,oM⟩⟩
  exact ⟨hm.lt,(k2.get hm.lt oM).trans hm.box,hm.rd.sep k2 (sep 44 dC),hm.lv.sep k2 (sep 1 dC),hm.mp.hp k2 (by have:=h.mp.1;omega)⟩
 have hbt:∀H5 H6,HX H4 H5->HP (fun i=>i≠b/\i≠mb) H5 H6->H6.get (H.next+1)=some (rpx 0 .nilSl .nilSl)/\H6.lo=H.lo/\HN H6:=fun H5 H6 hx5 hp6 =>
  ⟨(hp6.get (i:=H.next+1) (by have:=hx5.next;omega) ⟨oM,by have:=h.mp.1;omega⟩).trans ((hx5.get oM).trans g1),(hp6.lo.trans hx5.lo).trans hlo4,by haveI:=hx5.hn;exact hp6.hn⟩
 by_cases c1:o.op<=8
 ·rw [qj c1,qj c1]
  have F:=J4 @rI_1 @rA_1 @RK_inv @rV_1;refine uT ?_;refine cR_f (zbg1 (h.hx hx04) hd oM oM oM oM oM c1) ?_
  rintro r6 H6 ⟨rfl,hm6,hp6⟩;obtain ⟨g16,hlo6,hn6⟩:=hbt H4 H6 (HX.refl _) hp6;have F:=J5 @zgb @g16 @rp_w0 @znb @ld3;refine uT ?_;refine ⟨_,rfl,fin H4 H6 .nilSl .nilSl (zie true s o) (HX.refl _) ⟨?_,hm6,hp6⟩⟩;unfold zie;split<;>exact RpR.err
 rw [qg c1,qg c1];by_cases c2:o.op=16
 ·rw [qj c2,qj c2]
  have F:=J4 @rI_2 @rA_2 @RK_inv @rV_2;refine uT ?_;refine cR_f (zeg1 (h.hx hx04) hd hrs) ?_;rintro r6 H6 hr;have hD:=DoR.of (h.hx hx04) hr;obtain ⟨nv,bv6,rfl,z1,z2,z3⟩:=hD.1;obtain ⟨g16,hlo6,hn6⟩:=hbt H4 H6 (HX.refl _) hD.2.2;have o1:=zic z1.is;have o2:=zic z2.is;have F:=J5 @zgb @g16 @rp_w @znb @ld3;refine uT ?_;exact ⟨_,rfl,fin H4 H6 nv bv6 (_,s) (HX.refl _) hD⟩
 rw [qg c2,qg c2];by_cases c3:12<=o.op/\o.op<=15
 ·rw [qj c3,qj c3]
  have F:=J4 @rI_3 @rA_3 @zvf @zgh;refine uT ?_;refine cR_at (fun H5=>HX H4 H5) ?_ ?_
  ·exact hxt
  rintro H5 hx5;have hx05:=hx04.trans hx5;haveI:=hx05.hn;have hlo5:H5.lo=H.lo:=hx05.lo;refine cR_f (asks_ok (h.hx hx05) hd oM oM (hb.hx hx05) ho.l.1 hsz a1 c3) ?_
  rintro r6 H6 hD;obtain ⟨nv,bv6,rfl,z1,z2,z3⟩:=hD.1;obtain ⟨g16,hlo6,hn6⟩:=hbt H5 H6 hx5 hD.2.2;have o1:=zic z1.is;have o2:=zic z2.is;have F:=J5 @zgb @g16 @rp_w @znb @ld3;refine uT ?_;exact ⟨_,rfl,fin H5 H6 nv bv6 _ hx5 hD⟩
 rw [qg c3,qg c3];have F:=J7 @rI_nil @zlj @zgb @g1 @rp_w0 @znb @ld3;refine uT ?_;exact ⟨_,rfl,DoR.err h (by have K:=hx04;exact hxk)⟩
abbrev Kv:=List (Int×Bk)
def ixB (k:Int):Kv->Option Nat
 | []=>none
 |p::l=>if p.1=k then some 0 else (ixB k l).map (·+ 1)
def lkB (k:Int):Kv->Bk
 | []=>zeroB
 |p::l=>if p.1=k then p.2 else lkB k l
def upB (k:Int) (x:Bk):Kv->Kv
 | []=> [(k,x)]
 |p::l=>if p.1=k then (k,x)::l else p::upB k x l
theorem lkB_up (k:Int) (x:Bk):∀(l:Kv) (j:Int),lkB j (upB k x l)=if j=k then x else lkB j l
 | [],j=>by
  show (if k=j then x else zeroB)=_
  by_cases h:j=k
  ·rw [qj h.symm,qj h]
  ·rw [qg fun e=>h e.symm,qg h];rfl
 |p::l,j=>by
  unfold upB;by_cases hp:p.1=k
  ·rw [qj hp]
   show (if k=j then x else lkB j l)=if j=k then x else if p.1=j then p.2 else lkB j l
   by_cases h:j=k
   ·rw [qj h.symm,qj h]
   ·rw [qg fun e=>h e.symm,qg h,hp,qg fun e=>h e.symm]
  ·rw [qg hp]
   show (if p.1=j then p.2 else lkB j (upB k x l))=if j=k then x else if p.1=j then p.2 else lkB j l
   rw [lkB_up k x l j];by_cases h:p.1=j
   ·rw [qj h,qj h,qg (by rw [← h];exact hp)]
   ·rw [qg h,qg h]
theorem zlb1 {k:Int}(x:Bk):∀{l:Kv},ixB k l=none->upB k x l=l ++ [(k,x)]
 | [],_=>rfl
 |p::l,h=>by
  unfold ixB at h;unfold upB;by_cases hp:p.1=k
  ·rw [qj hp] at h;cases h
  ·rw [qg hp] at h ⊢
   rw [zlb1 x (qk7.1 h)];rfl
theorem zmb1 {k:Int}(x:Bk):∀{l:Kv}{i:Nat},ixB k l=some i->upB k x l=l.set i (k,x)
 | [],i,h=>by cases h
 |p::l,i,h=>by
  unfold ixB at h;unfold upB;by_cases hp:p.1=k
  ·rw [qj hp] at h ⊢;cases h;rfl
  ·rw [qg hp] at h ⊢
   obtain ⟨j,hj,rfl⟩:=Option.map_eq_some_iff.1 h;rw [zmb1 x hj];rfl
theorem zbj {k:Int}:∀{l:Kv}{i:Nat},ixB k l=some i->l[i]? =some (k,lkB k l)
 | [],i,h=>by cases h
 |p::l,i,h=>by
  unfold ixB at h;unfold lkB;by_cases hp:p.1=k
  ·rw [qj hp] at h ⊢;cases h
   show some p=_
   rw [← hp]
  ·rw [qg hp] at h ⊢
   obtain ⟨j,hj,rfl⟩:=Option.map_eq_some_iff.1 h;exact zbj hj
theorem zgo {k:Int}:∀{l:Kv},ixB k l=none->lkB k l=zeroB
 | [],_=>rfl
 |p::l,h=>by
  unfold ixB at h;unfold lkB;by_cases hp:p.1=k
  ·rw [qj hp] at h;cases h
  ·rw [qg hp] at h ⊢
   exact zgo (qk7.1 h)
theorem zlj1 {k:Int}{x:Bk}{p:Int×Bk}:∀{l:Kv},p∈upB k x l->p.2=x\/p∈l
 | [],h=>by
  simp only [upB,qn1] at h;exact .inl (by rw [h])
 |q::l,h=>by
  unfold upB at h;split at h
  ·rcases qe1.1 h with h|h
   ·exact .inl (by rw [h])
   ·exact .inr (qh1 _ h)
  ·rcases qe1.1 h with h|h
   ·exact .inr (h▸qt1)
   ·rcases zlj1 h with h|h
    ·exact .inl h
    ·exact .inr (qh1 _ h)
theorem znb1 {k:Int}{x:Bk}{j:Int}:∀{l:Kv},j∈(upB k x l).map (·.1)->j=k\/j∈l.map (·.1)
 | [],h=>by simpa [upB] using h
 |p::l,h=>by
  unfold upB at h;split at h
  ·next hp=>simp only [qp1,qe1] at h ⊢;rcases h with h|h<;>simp [h]
  ·simp only [qp1,qe1] at h ⊢
   rcases h with h|h
   ·exact .inr (.inl h)
   ·rcases znb1 h with h|h
    ·exact .inl h
    ·exact .inr (.inr h)
def NdB (l:Kv):Prop:=(l.map (·.1)).Nodup
theorem NdB.up {k:Int}{x:Bk}:∀{l:Kv},NdB l->NdB (upB k x l)
 | [],_=>by simp [NdB,upB]
 |p::l,h=>by
  unfold NdB at h ⊢
  rw [qp1,qe4] at h;unfold upB;split
  ·next hp=>rw [qp1,qe4];exact ⟨by rw [← hp];exact h.1,h.2⟩
  ·next hp =>
   rw [qp1,qe4];refine ⟨fun hm=> ?_,NdB.up h.2⟩
   rcases znb1 hm with e|e
   ·exact hp e
   ·exact h.1 e
theorem zjm {k:Int}{x:Bk}:∀{l:Kv},(upB k x l).length<=l.length+1
 | []=>by simp [upB]
 |p::l=>by
  unfold upB;split
  ·simp
  ·have:=zjm (k:=k) (x:=x) (l:=l)
   simp only [qi2];omega
theorem ixB_lt {k:Int}{l:Kv}{i:Nat}(h:ixB k l=some i):i<l.length:=(qq.1 (zbj h)).1
def flB:Kv->List Nat
 | []=> []
 |p::l=>p.2 ++ flB l
theorem zmj1:∀(a b:Kv),flB (a ++ b)=flB a ++ flB b
 | [],b=>rfl
 |p::a,b=>by show p.2 ++ flB (a ++ b)=p.2 ++ flB a ++ flB b;rw [zmj1 a b,qg1]
def KvOk (l:Kv):Prop:= ∀p,p∈l->BkOk p.2
theorem zkm:∀{l:Kv},KvOk l->(flB l).length=l.length*16384
 | [],_=>rfl
 |p::l,h=>by
  show (p.2 ++ flB l).length=_
  rw [qy,(h p qt1).len,zkm fun q hq=>h q (qh1 _ hq),qi2];omega
theorem zlm:∀{l:Kv},KvOk l->Byt (flB l)
 | [],_=>fun x hx=>by cases hx
 |p::l,h=>(h p qt1).byt.app (zlm fun q hq=>h q (qh1 _ hq))
theorem flB_at:∀{l:Kv}{i:Nat}{p:Int×Bk},KvOk l->l[i]? =some p->((flB l).drop (i*16384)).take 16384=p.2
 |q::l,0,p,h,hp=>by
  have:q=p:=by simpa using hp
  subst this;show (List.drop (0*16384) (q.2 ++ flB l)).take 16384=q.2
  rw [ql4,qt2];exact qp7 (h q qt1).len
 |q::l,i+1,p,h,hp=>by
  have hp':l[i]? =some p:=by simpa using hp
  show (List.drop ((i+1)*16384) (q.2 ++ flB l)).take 16384=p.2
  rw [show (i+1)*16384=16384+i*16384 from oM,← qk3,qe6 (h q qt1).len]
  exact flB_at (fun q hq=>h q (qh1 _ hq)) hp'
theorem znj1:∀{l:Kv}{i:Nat}(p:Int×Bk),KvOk l->i<l.length->(flB l).take (i*16384) ++ p.2 ++ (flB l).drop (i*16384+16384)=flB (l.set i p)
 |q::l,0,p,h,hp=>by
  show List.take (0*16384) (q.2 ++ flB l) ++ p.2 ++ List.drop (0*16384+16384) (q.2 ++ flB l)=p.2 ++ flB l
  rw [ql4,qp5,qk1,qu1,qe6 (h q qt1).len]
 |q::l,i+1,p,h,hp=>by
  have hl:=(h q qt1).len;show List.take ((i+1)*16384) (q.2 ++ flB l) ++ p.2 ++ List.drop ((i+1)*16384+16384) (q.2 ++ flB l)=q.2 ++ flB (l.set i p)
  rw [← znj1 p (fun q hq=>h q (qh1 _ hq)) (by simpa using hp),show (i+1)*16384=16384+i*16384 from oM,List.take_append,qx oM,hl,
   show 16384+i*16384 - 16384=i*16384 from oM,show 16384+i*16384+16384=16384+(i*16384+16384) from oM,← qk3,qe6 hl,qg1,qg1,qg1]
def BsS (H:AH) (v:AV) (kv:Kv) (N:Nat):Prop:=(v= .nilSl/\kv= [])\/ ∃j op,v= .sl j 0 kv.length kv.length op/\N<=j/\j<H.next /\
 ((kv≠ []/\op=true/\H.get j=some (.cells (byC (flB kv)) 91 16384 true false))\/(kv= []/\ ∃c op',H.get j=some (.cells c 91 16384 op' false)/\c.l= []))
theorem BsS.hq {H H':AH}{v:AV}{kv:Kv}{N:Nat}(h:BsS H v kv N){p:Nat->Prop}(hx:HP p H H') (hb:∀j o n c op,v= .sl j o n c op->p j):BsS H' v kv N:=by
 rcases h with h|⟨j,op,rfl,hN,hj,h⟩
 ·exact .inl h
 ·have hg:=hx.get hj (hb _ _ _ _ _ rfl)
  refine .inr ⟨j,op,rfl,hN,qa1 hj hx.next,?_⟩;rcases h with ⟨h1,h2,h3⟩|⟨h1,c,op',h3,h4⟩
  ·exact .inl ⟨h1,h2,hg.trans h3⟩
  ·exact .inr ⟨h1,c,op',hg.trans h3,h4⟩
theorem BsS.hx {H H':AH}{v:AV}{kv:Kv}{N:Nat}(h:BsS H v kv N) (hx:HX H H'):BsS H' v kv N:=h.hq (hx.hp fun _=>True) fun _ _ _ _ _ _=>trivial
theorem BsS.is {H:AH}{v:AV}{kv:Kv}{N:Nat}(h:BsS H v kv N):IsSl H v kv.length:=by
 rcases h with ⟨rfl,rfl⟩|⟨j,op,rfl,hN,hj,h⟩
 ·exact .inl ⟨rfl,rfl⟩
 ·rcases h with ⟨h1,h2,h3⟩|⟨h1,c,op',h3,h4⟩
  ·have hr:Row H j false true _ _ (byC (flB kv)).l:=⟨_,h3,rfl⟩
   exact hr.isSl hj (qh2 _)
  ·have hr:Row H j false op' _ _ c.l:=⟨_,h3,rfl⟩
   exact hr.isSl hj (qh2 _)
theorem BsS.le {H:AH}{v:AV}{kv:Kv}{N M:Nat}(h:BsS H v kv N) (hm:M<=N):BsS H v kv M:=by
 rcases h with h|⟨j,op,rfl,hN,h⟩
 ·exact .inl h
 ·exact .inr ⟨j,op,rfl,oM,h⟩
theorem BsS.at {H:AH}{v:AV}{kv:Kv}{N:Nat}(h:BsS H v kv N) (hk:KvOk kv){i:Nat}{p:Int×Bk}(hp:kv[i]? =some p):ldN 16384 (elA 16384 v i) H=some (bkA p.2):=by
 have hi:=(qq.1 hp).1;rcases h with ⟨rfl,rfl⟩|⟨j,op,rfl,hN,hj,h⟩
 ·simp at hi
 ·rcases h with ⟨h1,rfl,h3⟩|⟨rfl,_⟩
  ·rw [zdr,ldN_q,h3,qu1,sbB_b (zlm hk) (by rw [zkm hk];omega),flB_at hk hp]
  ·simp at hi
def zA16:AV:=.agg (List.replicate 16384 (.int .u8 0))
def zob1:Code:=bodyN lookM 20
def f20l0:C2:=(.seq (.seq (.reg (m_ (tO 5) 21<|m_ (tO 0) 22<|nl_ (tO 22) 23<|fa_ 0 (tO 23) 24<|fa_ 1 (tO 24) 25<|l_ (tO 25) 26<|le_ lookM 49 (tO 26) 27<|b_ lookM .lss 3 (.tmp 21) (.tmp 27) 28<| .done))
 (.cond (tO 28) .skip (.exit 0)))
 (.seq (.block 1 (.seq (.reg (m_ (tO 0) 31<|nl_ (tO 31) 32<|fa_ 0 (tO 32) 33<|fa_ 1 (tO 33) 34<|l_ (tO 34) 35<|m_ (tO 5) 36<|ix_ 44 (tO 35) (tO 36) 37<|lN_ 44 (tO 37) 38<|m_ (tO 1) 39<|nl_ (tO 39) 40<|fa_ 0 (tO 40) 41<|fa_ 1 (tO 41) 42<|l_ (tO 42) 43<|m_ (tO 5) 44<|ix_ 44 (tO 43) (tO 44) 45<|lN_ 44 (tO 45) 46<|al_ true (AV.toC (.agg [(.int .i64 (0)),(.str ⟨#[]⟩),(.int .i64 (0)),(.int .i64 (0)),.nilSl,(.int .i64 (0)),(.int .i64 (0)),(.int .u8 (0)),(.int .u8 (0)),(.int .u8 (0)),(.int .u8 (0)),(.int .u8 (0)),(.int .u8 (0)),(.int .u8 (0)),(.int .u8 (0)),(.int .u8 (0)),(.int .u8 (0)),(.int .u8 (0)),(.int .u8 (0)),(.int .u8 (0)),(.int .u8 (0)),(.int .u8 (0)),(.int .u8 (0)),(.int .u8 (0)),(.int .u8 (0)),(.int .u8 (0)),(.int .u8 (0)),(.int .u8 (0)),(.int .u8 (0)),(.int .u8 (0)),(.int .u8 (0)),(.int .u8 (0)),(.int .u8 (0)),(.int .u8 (0)),(.int .u8 (0)),(.int .u8 (0)),(.int .u8 (0)),(.int .u8 (0)),(.int .u8 (0)),(.int .i64 (0)),(.int .i64 (0)),(.int .i64 (0)),(.int .i64 (0)),(.int .i64 (0))])) 84 44 6<|al_ true (AV.toC (.agg [(.int .i64 (0)),(.str ⟨#[]⟩),(.int .i64 (0)),(.int .i64 (0)),.nilSl,(.int .i64 (0)),(.int .i64 (0)),(.int .u8 (0)),(.int .u8 (0)),(.int .u8 (0)),(.int .u8 (0)),(.int .u8 (0)),(.int .u8 (0)),(.int .u8 (0)),(.int .u8 (0)),(.int .u8 (0)),(.int .u8 (0)),(.int .u8 (0)),(.int .u8 (0)),(.int .u8 (0)),(.int .u8 (0)),(.int .u8 (0)),(.int .u8 (0)),(.int .u8 (0)),(.int .u8 (0)),(.int .u8 (0)),(.int .u8 (0)),(.int .u8 (0)),(.int .u8 (0)),(.int .u8 (0)),(.int .u8 (0)),(.int .u8 (0)),(.int .u8 (0)),(.int .u8 (0)),(.int .u8 (0)),(.int .u8 (0)),(.int .u8 (0)),(.int .u8 (0)),(.int .u8 (0)),(.int .i64 (0)),(.int .i64 (0)),(.int .i64 (0)),(.int .i64 (0)),(.int .i64 (0))])) 84 44 7<|K2.gw (gwX lookM zob1 5 18) (gwP lookM zob1 5 18) none<|sN_ false 44 (tO 7) (tO 46)<| .done))
 (.seq (.reg (fa_ 1 (tO 6) 47<|l_ (tO 47) 48<|fa_ 1 (tO 7) 49<|l_ (tO 49) 50<|b_ lookM .neq 9 (.tmp 48) (.tmp 50) 51<|m_ (tO 51) 52<|o_ 52 false 53 (fa_ 2 (tO 6) 53)<|o_ 52 false 54 (l_ (tO 53) 54)<|o_ 52 false 55 (fa_ 2 (tO 7) 55)<|o_ 52 false 56 (l_ (tO 55) 56)<|o_ 52 false 57 (b_ lookM .neq 3 (.tmp 54) (.tmp 56) 57)<|pk_ (tO 52) (.con (.bool true)) (tO 57) 58<|m_ (tO 58) 59<|o_ 59 false 60 (fa_ 3 (tO 6) 60)<|o_ 59 false 61 (l_ (tO 60) 61)<|o_ 59 false 62 (fa_ 3 (tO 7) 62)<|o_ 59 false 63 (l_ (tO 62) 63)<|o_ 59 false 64 (b_ lookM .neq 3 (.tmp 61) (.tmp 63) 64)<|pk_ (tO 59) (.con (.bool true)) (tO 64) 65<|m_ (tO 65) 66<|o_ 66 false 67 (fa_ 42 (tO 6) 67)<|o_ 66 false 68 (l_ (tO 67) 68)<|o_ 66 false 69 (fa_ 42 (tO 7) 69)<|o_ 66 false 70 (l_ (tO 69) 70)<|o_ 66 false 71 (b_ lookM .neq 3 (.tmp 68) (.tmp 70) 71)<|pk_ (tO 66) (.con (.bool true)) (tO 71) 72<|m_ (tO 72) 73<|o_ 73 false 74 (fa_ 43 (tO 6) 74)<|o_ 73 false 75 (l_ (tO 74) 75)<|o_ 73 false 76 (fa_ 43 (tO 7) 76)<|o_ 73 false 77 (l_ (tO 76) 77)<|o_ 73 false 78 (b_ lookM .neq 3 (.tmp 75) (.tmp 77) 78)<|pk_ (tO 73) (.con (.bool true)) (tO 78) 79<|m_ (tO 79) 80<|o_ 80 false 81 (m_ (tO 0) 81)<|o_ 80 false 82 (fa_ 0 (tO 6) 82)<|o_ 80 false 83 (l_ (tO 82) 83)<|o_ 80 false 85 (m_ (tO 1) 85)<|o_ 80 false 86 (fa_ 0 (tO 7) 86)<|o_ 80 false 87 (l_ (tO 86) 87)<|o_ 80 false 84 (K2.cw (some [sOf 86]) 39 [(tO 81),(tO 83)] (some (sOf 84)))<|o_ 80 false 88 (cl_ false 39 [(tO 85),(tO 87)] 88)<|o_ 80 false 89 (b_ lookM .neq 91 (.tmp 84) (.tmp 88) 89)<|pk_ (tO 80) (.con (.bool true)) (tO 89) 90<| .done))
 (.cond (tO 90) (.seq (.reg (m_ (.con (.bool false)) 4<| .done))
 .ret) .skip))))
 (.reg (m_ (tO 5) 29<|b_ lookM .add 3 (.tmp 29) (.const (.int .i64 (1))) 30<|m_ (tO 30) 5<| .done))))
def f20b0:Code:=lpN zob1 0
theorem zro1:comp lookM f20b0=f20l0:=kR
def f20c:C2:=(.seq (.reg (m_ (.con (.bool false)) 4<| .done))
 (.seq (.seq (.reg (m_ (tO 0) 8<|nl_ (tO 8) 9<|fa_ 0 (tO 9) 10<|fa_ 1 (tO 10) 11<|l_ (tO 11) 12<|le_ lookM 49 (tO 12) 13<|m_ (tO 1) 14<|nl_ (tO 14) 15<|fa_ 0 (tO 15) 16<|fa_ 1 (tO 16) 17<|l_ (tO 17) 18<|le_ lookM 49 (tO 18) 19<|b_ lookM .neq 3 (.tmp 13) (.tmp 19) 20<| .done))
 (.cond (tO 20) (.seq (.reg (m_ (.con (.bool false)) 4<| .done))
 .ret) .skip))
 (.seq (.seq (.reg (m_ (.con (.int .i64 (0))) 5<| .done))
 (.block 0 (.loop f20b0)))
 (.seq (.reg (m_ (.con (.bool true)) 4<| .done))
 .ret))))
theorem f20_eq:fnF lookM 20=some ⟨91,f20c, [.tmp 4]⟩:=kR
def f63c:C2:=(.seq (.reg (bx_ false 91 16384 (tO 2) 5<| .done))
 (.seq (.reg (m_ (tO 0) 7<|m_ (tO 1) 8<|cl_ false 67 [(tO 7),(tO 8)] 9<|m_ (tO 9) 6<| .done))
 (.seq (.seq (.reg (m_ (tO 6) 10<|b_ lookM .lss 3 (.tmp 10) (.const (.int .i64 (0))) 11<| .done))
 (.cond (tO 11) (.seq (.reg (m_ (tO 0) 12<|m_ (tO 0) 13<|nl_ (tO 13) 14<|fa_ 7 (tO 14) 15<|l_ (tO 15) 16<|m_ (tO 1) 17<|hn_ false (fun xs H=>bsF 1 1 (.int .i64 (0)) 3 (zipF [0] xs) H) [(tO 17)] 18<|hn_ false (appX 3 1 8) [(tO 16),(tO 18)] 19<|nl_ (tO 12) 20<|fa_ 7 (tO 20) 21<|s1_ false lookM 35 (tO 21) (tO 19)<| .done))
 (.seq (.reg (m_ (tO 0) 22<|m_ (tO 0) 23<|nl_ (tO 23) 24<|fa_ 8 (tO 24) 25<|l_ (tO 25) 26<|lN_ 16384 (tO 5) 27<|hn_ true (fun xs H=>bsF 16384 1 zA16 91 (zipF [0] xs) H) [(tO 27)] 28<|hn_ false (appX 91 16384 16384) [(tO 26),(tO 28)] 29<|nl_ (tO 22) 30<|fa_ 8 (tO 30) 31<|s1_ false lookM 54 (tO 31) (tO 29)<| .done))
 .ret)) .skip))
 (.reg (m_ (tO 0) 32<|nl_ (tO 32) 33<|fa_ 8 (tO 33) 34<|l_ (tO 34) 35<|m_ (tO 6) 36<|lN_ 16384 (tO 5) 37<|ix_ 16384 (tO 35) (tO 36) 38<|sN_ false 16384 (tO 38) (tO 37)<| .done)))))
theorem f63_eq:fnF lookM 63=some ⟨39,f63c, []⟩:=kR
theorem zoj1 {a b:List Nat}(ha:Byt a):Ce.app (byC a) (byC b)=byC (a ++ b):=by
 show Ce.join a.length (Nb a) b.length (Nb b)=_
 unfold Ce.join;show Ce.byt (a.length+b.length) (Nb a%Ce.pw a.length+Nb b*Ce.pw a.length)=_
 rw [pw_eq,qs4 (Nb_lt ha)];unfold byC;rw [zqw,qy,qo3]
theorem bkC_sub {H:AH}{j e z:Nat}{op ro:Bool}{x:Bk}(hx:BkOk x) (hg:H.get j=some (.cells (bkC x) e z op ro)):H.subC j 0 (1*16384)=some (bkC x):=by
 unfold AH.subC;rw [hg];have:=sub_b hx.byt (o:=0) (n:=16384) (by rw [hx.len];decide)
 unfold byC at this;rw [hx.len,qt2,qx (by rw [hx.len];exact qn _)] at this
 exact this
theorem bs_app1 {H:AH}[hn:HN H]{v:AV}{kv:Kv}{N:Nat}(h:BsS H v kv N) (hq:v= .nilSl\/kv≠ []) (hk:KvOk kv){x:Bk}(hx:BkOk x){j:Nat}{e' z':Nat}{op' ro:Bool}(hg:H.get j=some (.cells (bkC x) e' z' op' ro)){op2:Bool}(k:Int)
  (hlen:kv.length<=100000) (hlo:H.lo<=N) (hN:N<=H.next) :
  ∃v' H',appX 91 16384 16384 [v,.sl j 0 1 1 op2] H=some (v',H')/\BsS H' v' (kv ++ [(k,x)]) N/\HP (blkNe v) H H'/\H'.next=H.next+1/\(∀i,i<H.next->blkNe v' i):=by
 have hsrc:zhb 16384 (.sl j 0 1 1 op2) 1 H=some (bkC x):=bkC_sub hx hg;have hxx:bkC x=byC x:=by unfold byC;rw [hx.len]
 rcases h with ⟨rfl,rfl⟩|⟨i,op,rfl,hNi,hi,h⟩
 ·refine ⟨.sl H.next 0 1 1 true,H.new (.cells (bkC x) 91 16384 true false),?_,.inr ⟨H.next,true,rfl,hN,qc1 _,.inl ⟨by simp,rfl,?_⟩⟩,(HX.new _ _).hp _,rfl,fun i hi=>zla oM⟩
  ·rw [zbo (n:=1) rfl hsrc rfl]
   show slNew 1 (.cells (bkC x) 91 16384 true false) H=_
   exact zkf _ _ _
  ·rw [zaa,hxx]
   show _=some (ABlk.cells (byC (x ++ [])) _ _ _ _)
   rw [qy1]
 ·have hne:kv≠ []:=by
   rcases hq with e|e
   ·cases e
   ·exact e
  obtain ⟨rfl,hgi⟩:op=true/\H.get i=some (.cells (byC (flB kv)) 91 16384 true false):=by
   rcases h with ⟨_,h1,h2⟩|⟨e,_⟩
   ·exact ⟨h1,h2⟩
   ·exact absurd e hne
  have hfl:=zkm hk;have hold:H.subC i 0 (kv.length*16384)=some (byC (flB kv)):=by
   unfold AH.subC;rw [hgi];have:=sub_b (zlm hk) (o:=0) (n:=kv.length*16384) (by rw [hfl];omega)
   rw [qt2,qx (by rw [hfl];exact qn _)] at this
   show (byC (flB kv)).sub 0 (kv.length*16384)=_
   rw [this];unfold byC;rw [hfl]
  refine ⟨.sl H.next 0 (kv.length+1) (kv.length+1) true,(H.put i .defd).new (.cells (Ce.app (byC (flB kv)) (bkC x)) 91 16384 true false),?_,.inr ⟨H.next,true,by rw [qy];rfl,hN,qc1 _,.inl ⟨by simp,rfl,?_⟩⟩,?_,rfl,fun i hi=>zla oM⟩
  ·rw [zbo (n:=1) rfl hsrc rfl]
   show brec (appG _ 16384 16384 i 0 kv.length kv.length true 1 (bkC x) H) _ (Nat.ble (kv.length+1) kv.length)=_
   rw [show Nat.ble (kv.length+1) kv.length=false from by cases h:Nat.ble (kv.length+1) kv.length with|false=>rfl|true=>have:=qf1 h;omega]
   show (match Nat.ble (Nat.mul (Nat.add kv.length 1) 16384) 140737488355328 && Nat.ble (Nat.add kv.length 1) 9223372036854775807 with
    |false=>none
    |true=>orec none (fun old=>brec (slNew (Nat.add kv.length 1) (.cells (Ce.app old (bkC x)) _ 16384 true false) H) (appO _ 16384 i 0 kv.length kv.length 1 old (bkC x) H) true) (subCF H i 0 (Nat.mul kv.length 16384)))=_
   rw [show Nat.ble (Nat.mul (Nat.add kv.length 1) 16384) 140737488355328=true from qh (by show (kv.length+1)*16384<=_;omega),show Nat.ble (Nat.add kv.length 1) 9223372036854775807=true from qh (by show kv.length+1<=_;omega),zjf]
   rw [show H.subC i 0 (Nat.mul kv.length 16384)=some (byC (flB kv)) from hold]
   show appO _ 16384 i 0 kv.length kv.length 1 (byC (flB kv)) (bkC x) H=_
   unfold appO;rw [show Nat.ble H.lo i=true from qh oM,zsk,hgi]
   show appD _ 16384 i 0 kv.length kv.length 1 (byC (flB kv)) (bkC x) H (byC (flB kv)) _ 16384 true false=_
   unfold appD;rw [show (Nat.beq 91 91 && Nat.beq 16384 16384 && true && !false && Nat.beq (byC (flB kv)).len (Nat.add 0 (Nat.mul kv.length 16384)))=true from by
    rw [show (byC (flB kv)).len=(flB kv).length from rfl,hfl,show Nat.add 0 (Nat.mul kv.length 16384)=kv.length*16384 from qu1 _,show Nat.beq (kv.length*16384) (kv.length*16384)=true from qr2 _];rfl]
   simp only [zkf,zgp];rfl
  ·haveI:HN (H.put i .defd):=(HP.put H i .defd).hn
   show ((H.put i .defd).new _).get (H.put i .defd).next=_
   rw [zaa,hxx,zoj1 (zlm hk),zmj1];show _=some (ABlk.cells (byC (flB kv ++ (x ++ []))) _ _ _ _)
   rw [qy1]
  ·refine (HP.put H i .defd).trans ((HX.new (H.put i .defd) _).hp fun _=>True) fun j hj hb=>⟨fun h=> ?_,trivial⟩
   subst h;exact hb _ _ _ _ rfl
theorem bs_copy {H:AH}[hn:HN H]{i:Nat}(hi:i<H.next) (hgi:H.get i=some (.cells (.byt 0 0) 91 16384 false false)){v:AV}{kv:Kv}{N:Nat}(h:BsS H v kv N) (hk:KvOk kv) (hlen:kv.length<=100000) (hlo:H.lo<=i) :
  ∃v' H',appX 91 16384 16384 [.sl i 0 0 0 false,v] H=some (v',H')/\BsS H' v' kv i/\HP (·≠ i) H H'/\H'.next<=H.next+1:=by
 have hlenof:=h.is.lenOf;have empty:∀new:Ce,zhb 16384 v kv.length H=some new->new.l= []->kv= []-> ∃v' H',appX 91 16384 16384 [.sl i 0 0 0 false,v] H=some (v',H')/\BsS H' v' kv i/\HP (·≠ i) H H'/\H'.next<=H.next+1:=by
  intro new hsrc hnl hkv;obtain ⟨c',h3,h4⟩:=Ce.over_ex (x:=new) (c:=.byt 0 0) (o:=0) (by rw [hnl];exact qh2 _)
  have hone:new.one=true:=zhg (by rw [hnl];rfl)
  refine ⟨.sl i 0 0 0 false,H.put i (.cells c' 91 16384 false false),?_,.inr ⟨i,false,by rw [hkv];rfl,qn _,hi,.inr ⟨hkv,c',false,zfa _ _,by rw [h4,hnl];rfl⟩⟩,HP.put _ _ _,qv3 _⟩
  rw [zbo hlenof hsrc hone,show kv.length=0 from by rw [hkv];rfl]
  show orec none (fun H'=>some (AV.sl i 0 0 0 false,H')) (zne H i 0 new)=_
  rw [zcd];unfold AH.writeC;rw [show Nat.ble H.lo i=true from qh hlo,hgi]
  simp only [hone,h3];rfl
 rcases h with ⟨rfl,rfl⟩|⟨j,op,rfl,hNj,hj,h⟩
 ·exact empty (.lst []) rfl rfl rfl
 ·rcases h with ⟨hne,rfl,hgj⟩|⟨rfl,c,op',hgj,hc⟩
  ·have hfl:=zkm hk
   have hsrc:zhb 16384 (.sl j 0 kv.length kv.length true) kv.length H=some (byC (flB kv)):=by
    show H.subC j 0 (kv.length*16384)=_
    unfold AH.subC;rw [hgj];have:=sub_b (zlm hk) (o:=0) (n:=kv.length*16384) (by rw [hfl];omega)
    rw [qt2,qx (by rw [hfl];exact qn _)] at this
    show (byC (flB kv)).sub 0 (kv.length*16384)=_
    rw [this];unfold byC;rw [hfl]
   have hpos:0<kv.length:=List.length_pos_iff.2 hne;have hbl:Nat.ble (0+kv.length) 0=false:=by cases h:Nat.ble (0+kv.length) 0 with|false=>rfl|true=>have:=qf1 h;omega
   refine ⟨.sl H.next 0 (0+kv.length) (0+kv.length) true,H.new (.cells (Ce.app (.byt 0 0) (byC (flB kv))) 91 16384 true false),?_,.inr ⟨H.next,true,by rw [qu1],oM,qc1 _,.inl ⟨hne,rfl,?_⟩⟩,(HX.new _ _).hp _,qn _⟩
   ·rw [zbo hlenof hsrc rfl]
    show brec (appG _ 16384 16384 i 0 0 0 false kv.length (byC (flB kv)) H) _ (Nat.ble (0+kv.length) 0)=_
    rw [hbl];show (match Nat.ble (Nat.mul (Nat.add 0 kv.length) 16384) 140737488355328 && Nat.ble (Nat.add 0 kv.length) 9223372036854775807 with
     |false=>none
     |true=>orec none (fun old=>brec (slNew (Nat.add 0 kv.length) (.cells (Ce.app old (byC (flB kv))) _ 16384 true false) H) (appO _ 16384 i 0 0 0 kv.length old (byC (flB kv)) H) false) (subCF H i 0 (Nat.mul 0 16384)))=_
    rw [show Nat.ble (Nat.mul (Nat.add 0 kv.length) 16384) 140737488355328=true from qh (by show (0+kv.length)*16384<=_;omega),show Nat.ble (Nat.add 0 kv.length) 9223372036854775807=true from qh (by show 0+kv.length<=_;omega),zjf]
    have:H.subC i 0 (Nat.mul 0 16384)=some (.byt 0 0):=by
     unfold AH.subC;rw [hgi];rfl
    rw [this];exact zkf _ _ _
   ·rw [zaa]
    have:=zoj1 (a:= []) (b:=flB kv) (fun x hx=>by cases hx)
    rw [qk1] at this;rw [show (Ce.byt 0 0)=byC [] from rfl,this]
  ·obtain ⟨c',h3,h4⟩:=Ce.sub_ex (c:=c) (o:=0) (n:=0*16384) (by rw [hc];exact qh2 _)
   refine empty c' ?_ (by rw [h4,hc];rfl) rfl
   show H.subC j 0 (0*16384)=_
   unfold AH.subC;rw [hgj];exact h3
theorem z91:zC lookM 91= .byt 16384 0:=kR
theorem bu91:zua lookM 91 (zipF [] [])=some (.bag 16384 0):=kR
theorem ld91 (i o:Nat) (H:AH):zvb lookM 91 (.ptr i o) H=ldN 16384 (.ptr i o) H:=zdh kR kR
theorem bk_at {b:Bk}(h:BkOk b){k:Nat}(hk:k<64) (e z:Nat) (op ro:Bool):sbB (some (.cells (bkC b) e z op ro)) (k*256) 256=some (.bag 256 (Nb (atB b k))):=by
 have:=sbB_b h.byt (e:=e) (z:=z) (o:=k*256) (n:=256) (op:=op) (ro:=ro) (by rw [h.len];omega)
 unfold byC at this;rw [h.len] at this;rw [this,qo3 k 256];rfl
theorem zel {H:AH}[hn:HN H]{b:Bk}(h:BkOk b):FnE lookM 38 [bkA b] H fun r H'=>r= .int .i64 (usedB b:Nat)/\HX H H':=by
 refine fI Tryz.f38 ?_;have hlo:=hn.lo;have F:=@zfd;refine uT ?_;refine rc_l (fun n T H'=> ∃q c,n+q=64/\HX H H'/\H'.get H.next=some (.cells (bkC b) 91 16384 false false)/\c+zig b q n=usedB b/\gT T 1= .ptr H.next 0/\gT T 3= .int .i64 (c:Nat)/\gT T 4= .int .i64 q) 64 ?_ ?_
 ·exact ⟨0,0,rfl,hxt,zaa _,by unfold usedB;omega,vT0,by refine uT0 ?_;rfl,by refine uT0 ?_;rfl⟩
 rintro n T H1 ⟨q,c,hnq,hx1,g0,hc,t1,t3,t4⟩;haveI:=hx1.hn;have hlo1:H1.lo<=H1.next:=HN.lo;have hn1:=hx1.next;cases n with
 |zero =>
  have hc:c=usedB b:=hc;have d1:decide ((q:Int)<64)=false:=qp oM
  have F:=J4 @t1 @t3 @t4 @d1;refine uT ?_;exact ⟨by rw [hc],hx1⟩
 |succ n =>
  have d1:decide ((q:Int)<64)=true:=qo oM
  have hix:=ixA_n (n:=64) (z:=256) (i:=H.next) (o:=0) (k:=q) oM
  have hat:=fun e z op ro=>bk_at h (k:=q) oM e z op ro
  have hl:=zvp h.len (k:=q) oM
  have hb:=znu h.byt q;have hnz:=nz hb hl;have hc2:c+((if atB b q=noB then 0 else 1)+zig b (q+1) n)=usedB b:=hc
  have hle:=zmd b n (q+1);have hle2:usedB b<=64:=zmd b 64 0;by_cases e:atB b q=noB
  ·rw [qj e] at hc2
   rw [qo e] at hnz;have F:=J10 @t1 @t3 @t4 @d1 @hix @g0 @hat @bu89 @eq89 @hnz;refine uT ?_;exact ⟨n,oM,q+1,c,oM,hx1,oM,rfl,by push_cast;rfl⟩
  ·rw [qg e] at hc2
   rw [qp e] at hnz;have F:=J10 @t1 @t3 @t4 @d1 @hix @g0 @hat @bu89 @eq89 @hnz;refine uT ?_;exact ⟨n,oM,q+1,c+1,oM,hx1,oM,by push_cast;rfl,by push_cast;rfl⟩
theorem zpb1 {H:AH}[hn:HN H]{b:Bk}(h:BkOk b){f t:Nat}(ht:t<=64) (hf:f<=1000000):FnE lookM 64 [bkA b,.int .i64 f,.int .i64 t] H fun r H'=>r=bkA (cutK b f (t - f))/\HX H H':=by
 refine fI Tryz.f64 ?_;have hlo:=hn.lo;have F:=J2 @zfd @z91;refine uT ?_;refine rc_l (fun n T H'=> ∃j,n+j=t - f/\HX H H'/\H.next+2<=H'.next/\H'.get H.next=some (.cells (bkC (cutK b f j)) 91 16384 false false)/\H'.get (H.next+1)=some (.cells (.byt 16384 0) 91 16384 false false) /\
  gT T 2= .int .i64 t/\gT T 3= .ptr H.next 0/\gT T 6= .ptr (H.next+1) 0/\gT T 7= .int .i64 (f+j:Nat)) (t - f) ?_ ?_
 ·exact ⟨0,oM,hxt,qn _,by rw [zlo1];simp (maxSteps:=1000000) (disch:=first|assumption|omega|rfl|(simp only [nx];omega)|(simp only [lens]<;>omega)) only [rq,rq2,zsi,lsE_s,qz3,qu3,Nat.reduceEqDiff,Nat.reduceAdd,reduceIte,reduceCtorEq,ne_eq,qb3,qu2,qh5,qb5],zaa _,vT0,vT0,vT0,wT0⟩
 rintro n T H1 ⟨j,hnj,hx1,hn1,g0,g1,t2,t3,t6,t7⟩;haveI:=hx1.hn;have hlo1:H1.lo=H.lo:=hx1.lo;have e01:=hEq_f (oM:H.next≠H.next+1)
 cases n with
 |zero =>
  have d1:decide (((f+j:Nat):Int)<t)=false:=qp oM
  have hj:j=t - f:=oM
  rw [hj] at g0;have hok:=zaj h (f:=f) ht;have ha:=fun e z op ro=>znl hok e z op ro
  have hw:=fun i e op H=>wbk0 i e op H hok
  have F:=J11 @t2 @t3 @t6 @t7 @d1 @g0 @g1 @ha @zfd @hw @ld91;refine uT ?_;have K:=hx1;exact hxk
 |succ n =>
  have d1:decide (((f+j:Nat):Int)<t)=true:=qo oM
  have hok:=zgb1 h (f:=f) (j:=j) oM
  have hw:=wbk hok (Byt.zero 256) qh3 (k:=f+j) oM
  rw [zdl,cutK_s h.len oM] at hw
  have hix:=ixA_n (n:=64) (z:=256) (i:=H.next) (o:=0) (k:=f+j) oM
  have F:=J10 @t2 @t3 @t6 @t7 @d1 @bu89 @zfd @hix @g0 @hw;refine uT ?_;exact ⟨n,oM,j+1,oM,HX.put hx1 (qn _) _,hn1,rfl,g1,by push_cast;rw [Int.add_assoc]⟩
def wdL (nn:Int) (v lv iv qv:AV):List AV:= [.int .i64 nn,v,.int .i64 0,.int .i64 0,.int .i64 0,.int .i64 0,lv,iv,qv]
abbrev wdx (nn:Int) (v lv iv qv:AV):ABlk:=.cells (.lst (wdL nn v lv iv qv)) 56 9 false false
theorem wd_1 (nn:Int) (v lv iv qv:AV):nth (wdL nn v lv iv qv) 1=some v:=rfl
theorem wd_7 (nn:Int) (v lv iv qv:AV):nth (wdL nn v lv iv qv) 7=some iv:=rfl
theorem wd_8 (nn:Int) (v lv iv qv:AV):nth (wdL nn v lv iv qv) 8=some qv:=rfl
theorem wd_t (nn:Int) (v lv iv qv:AV) (e z:Nat) (op ro:Bool):sbB (some (.cells (.lst (wdL nn v lv iv qv)) e z op ro)) 0 7=some (tbA nn v lv):=by
 rw [sbB_l];rfl
abbrev idL (kv:Kv):List AV:=kv.map fun p=>AV.int .i64 p.1
structure WdR (H:AH) (b:Nat) (s:Ms) (v lv iv qv:AV) (l:List (AV×Rc)) (kv:Kv) (N:Nat):Prop where
 lt:b<H.next
 nb:N<=b
 box:H.get b=some (wdx s.t.nx v lv iv qv)
 tb:TbD H s.t v lv l
 ids:OwnS H iv kv.length 3 1 (idL kv) N
 bs:BsS H qv kv N
 f:∀k,s.b k=lkB k kv
 ok:KvOk kv
 nd:NdB kv
theorem WdR.hx {H H':AH}{b:Nat}{s:Ms}{v lv iv qv:AV}{l:List (AV×Rc)}{kv:Kv}{N:Nat}(h:WdR H b s v lv iv qv l kv N) (hx:HX H H'):WdR H' b s v lv iv qv l kv N :=
 ⟨qa1 h.lt hx.next,h.nb,(hx.get h.lt).trans h.box,h.tb.hx hx,OwnS.hx h.ids hx,h.bs.hx hx,h.f,h.ok,h.nd⟩
theorem ids_at {H:AH}{iv:AV}{n e N:Nat}{cs:List AV}(h:OwnS H iv n e 1 cs N){k:Nat}{x:AV}(hx:cs[k]? =some x):ld1 (elA 1 iv k) H=some x:=by
 have hk:=(qq.1 hx).1;rcases h.2 with ⟨rfl,h0⟩|⟨j,op,rfl,hr,_⟩
 ·rw [h.1,h0] at hk;omega
 ·rw [zdr,qu1,qx4]
  exact hr.rd hx
def plI (k:Int) (kv:Kv):Int:=match ixB k kv with|some i=>(i:Int)|none=> -1
theorem zqb1 {H:AH}[hn:HN H]{b:Nat}{s:Ms}{v lv iv qv:AV}{l:List (AV×Rc)}{kv:Kv}{N:Nat}(h:WdR H b s v lv iv qv l kv N) (k:Int) (hlen:kv.length<=100000) :
  FnE lookM 67 [.ptr b 0,.int .i64 k] H fun r H'=>r= .int .i64 (plI k kv)/\HX H H':=by
 refine fI Tryz.f67 ?_;have hlo:=hn.lo;have hb:=h.box;have his:=(OwnS.slZ h.ids).is;have hl:∀H',fstO (zea .len lookM [35] [iv] H')=some (.int .i64 kv.length):=fun H'=>zwc (H':=H') uIs his
 refine uT0 ?_;refine rc_l (fun n T H'=> ∃q,n+q=kv.length/\H'=H/\ixB k kv=(ixB k (kv.drop q)).map (·+ q)/\gT T 0= .ptr b 0/\gT T 1= .int .i64 k/\gT T 5= .int .i64 q) kv.length ?_ ?_
 ·exact ⟨0,rfl,rfl,by simp,vT0,vT0,by refine uT0 ?_;rfl⟩
 rintro n T H1 ⟨q,hnq,rfl,hq,t0,t1,t5⟩;unfold plI;cases n with
 |zero =>
  have d1:decide ((q:Int)<(kv.length:Int))=false:=qp oM
  rw [qw3 oM] at hq
  have F:=J7 @t0 @t1 @t5 @hb @wd_7 @hl @d1;refine uT ?_;rw [hq];exact ⟨rfl,HX.refl _⟩
 |succ n =>
  have hlt:q<kv.length:=oM
  have d1:decide ((q:Int)<(kv.length:Int))=true:=qo oM
  have hp:kv[q]? =some kv[q]:=qr hlt;have hix:=ix44 (z:=1) (q:=q) his hlt;have hld:=ids_at h.ids (k:=q) (x:=.int .i64 (kv[q]).1) (by rw [qi1,hp];rfl)
  rw [qu6 hlt] at hq;generalize kv[q]=p at *
  cases a1:decide (p.1=k) with
  |true =>
   have e:ixB k kv=some q:=by
    rw [hq];unfold ixB;rw [qj (qe a1)];simp
   have F:=J10 @t0 @t1 @t5 @hb @wd_7 @hl @d1 @hix @hld @a1;refine uT ?_;rw [e];exact ⟨rfl,HX.refl _⟩
  |false =>
   have F:=J10 @t0 @t1 @t5 @hb @wd_7 @hl @d1 @hix @hld @a1;refine uT ?_;refine ⟨n,oM,q+1,oM,?_,by push_cast;rfl⟩
   rw [hq];show (if p.1=k then some 0 else (ixB k (kv.drop (q+1))).map (·+ 1)).map (·+ q)=_
   rw [qg (qf a1),Option.map_map];congr 1;funext i;show i+1+q=i+(q+1)
   omega
theorem wz_c:bkC zeroB= .byt 16384 0:=by show Ce.byt 16384 (Nb zeroB)=_;rw [zim]
theorem wz_a:bkA zeroB= .bag 16384 0:=by show AV.bag 16384 (Nb zeroB)=_;rw [zim]
theorem of_ok {H:AH}[hn:HN H]{b:Nat}{s:Ms}{v lv iv qv:AV}{l:List (AV×Rc)}{kv:Kv}{N:Nat}(h:WdR H b s v lv iv qv l kv N) (k:Int) (hlen:kv.length<=100000) :
  FnE lookM 39 [.ptr b 0,.int .i64 k] H fun r H'=>r=bkA (s.b k)/\HX H H':=by
 refine fI Tryz.f39 ?_;have hlo:=hn.lo;have F:=@z91;refine uT ?_;refine cR_at (fun H1=>HX H H1/\H1.next=H.next+1/\H1.get H.next=some (.cells (.byt 16384 0) 91 16384 false false)) ?_ ?_
 ·exact ⟨HX.new _ _,rfl,zaa _⟩
 rintro H1 ⟨hx1,hn1,g1⟩;haveI:=hx1.hn;refine cR_f (zqb1 (h.hx hx1) k hlen) ?_;rintro r2 H2 ⟨rfl,hx2⟩;have hx02:=hx1.trans hx2;haveI:=hx02.hn;have hlo2:H2.lo=H.lo:=hx02.lo;have g1:=(hx2.get (i:=H.next) oM).trans g1
 have h2:=h.hx hx02;have hb:=h2.box;unfold plI;cases a1:ixB k kv with
 |none =>
  have hd:decide ((-1:Int)<0)=true:=dC
  have hw:=wbk0 H.next 91 false H2 zeroB_ok;have hba:=znl zeroB_ok;rw [wz_c] at hw hba;rw [wz_a] at hba;have F:=J7 @hd @bu91 @zfd @g1 @hw @ld91 @hba;refine uT ?_;exact ⟨by rw [h.f,zgo a1,wz_a],HX.put hx02 (qn _) _⟩
 |some i =>
  have hd:decide ((i:Int)<0)=false:=qp oM
  have hp:=zbj a1;have hix:=ix44 (z:=16384) (q:=i) h2.bs.is (ixB_lt a1);have hld:=h2.bs.at h.ok hp;have hok:BkOk (lkB k kv):=h.ok _ (qz.2 ⟨i,hp⟩);have hw:=wbk0 H.next 91 false H2 hok;have hba:=znl hok;rw [h.f];have F:=J10 @hd @hb @wd_8 @hix @hld @zfd @g1 @hw @ld91 @hba;refine uT ?_;exact HX.put hx02 (qn _) _
theorem zpj1:∀{l:List Nat},Byt l->Ce.pack (u8L l)=some (Nb l)
 | [],_=>rfl
 |x::l,h=>by
  have h1:=h x qt1;have h2:=zpj1 (l:=l) fun y hy=>h y (qh1 _ hy)
  show obind (Ce.byteOf (.int .u8 (.ofNat x))) (fun m=>obind (Ce.pack (u8L l)) fun N=>some (Nat.add m (Nat.mul 256 N)))=_
  rw [h2];show obind (brec none (some x) (Nat.blt x 256)) _=_
  rw [show Nat.blt x 256=true from qh h1]
  rfl
theorem zrb1 {x:Bk}(hx:BkOk x):(bkA x).cells=u8L x:=by
 have:=zfo hx.byt;rw [hx.len] at this;exact this
theorem bk_of {x:Bk}(hx:BkOk x):Ce.of (bkA x).cells=bkC x:=by
 rw [zrb1 hx];unfold Ce.of;rw [zpj1 hx.byt,zse];simp only [qt3,hx.len]
theorem bs_one {x:Bk}(hx:BkOk x) (H:AH):bsF 16384 1 zA16 91 (zipF [0] [bkA x]) H=some (.sl H.next 0 1 1 false,H.new (.cells (bkC x) 91 16384 false false)) :=
 bs1_q (by show (List.replicate 16384 (AV.int .u8 0)).length=16384;exact qh3) (by rw [zrb1 hx,qt3,hx.len]) (bk_of hx)
theorem BsS.blk {H:AH}{v:AV}{kv:Kv}{N:Nat}(h:BsS H v kv N){j o n c:Nat}{op:Bool}(e:v= .sl j o n c op):∃cc e op' ro,H.get j=some (.cells cc e 16384 op' ro):=by
 rcases h with ⟨rfl,_⟩|⟨i,op2,rfl,_,_,g⟩
 ·cases e
 ·cases e
  rcases g with ⟨_,_,g⟩|⟨_,c,op',g,_⟩
  ·exact ⟨_,_,_,_,g⟩
  ·exact ⟨_,_,_,_,g⟩
theorem BsS.ne {H:AH}{v:AV}{kv:Kv}{N:Nat}(h:BsS H v kv N){j:Nat}{c:Ce}{e' z':Nat}{op ro:Bool}(hb:H.get j=some (.cells c e' z' op ro)) (hz:16384≠z'):blkNe v j:=fun o n c op e=>by
 obtain ⟨_,_,_,_,g⟩:=h.blk e;rw [hb] at g;cases g;exact hz rfl
structure KpR (H H':AH) (b:Nat) (iv qv iv2 qv2:AV):Prop where
 hp:HP (fun i=>i≠b/\blkNe iv i/\blkNe qv i) H H'
 i:∀j,j<H.next->blkNe iv j->blkNe iv2 j
 q:∀j,j<H.next->blkNe qv j->blkNe qv2 j
theorem KpR.hx {H H':AH}{b:Nat}{iv qv:AV}(h:HX H H'):KpR H H' b iv qv iv qv:=⟨h.hp _,fun _ _ h=>h,fun _ _ h=>h⟩
theorem KpR.trans {H H1 H2:AH}{b:Nat}{iv qv iv1 qv1 iv2 qv2:AV}(h:KpR H H1 b iv qv iv1 qv1) (k:KpR H1 H2 b iv1 qv1 iv2 qv2):KpR H H2 b iv qv iv2 qv2 :=
 ⟨h.hp.trans k.hp fun i hi hh=>⟨hh,hh.1,h.i i hi hh.2.1,h.q i hi hh.2.2⟩,fun j hj hh=>k.i j (qa1 hj h.hp.next) (h.i j hj hh),fun j hj hh=>k.q j (qa1 hj h.hp.next) (h.q j hj hh)⟩
theorem TbD.hq {H H':AH}{t:Tb}{v lv:AV}{l:List (AV×Rc)}(h:TbD H t v lv l){q:Nat->Prop}(hp:HP q H H') (h44:∀j cc e op ro,H.get j=some (.cells cc e 44 op ro)->q j) (h2:∀j cc e op ro,H.get j=some (.cells cc e 2 op ro)->q j)
  (h1:∀j op,Row H j false op 3 1 lvL->q j):TbD H' t v lv l:=by
 refine ⟨⟨?_,fun p hp'=> ?_⟩,h.eq,?_⟩
 ·rcases h.rd.rd with h|⟨j,c,op,op',cs,rfl,hj,hr,hc⟩
  ·exact .inl h
  ·have hq:q j:=by obtain ⟨cc,hg,_⟩:=hr;exact h44 _ _ _ _ _ hg
   exact .inr ⟨j,c,op,op',cs,rfl,qa1 hj hp.next,hr.hp hp hj hq,hc⟩
 ·rcases h.rd.ho p hp' with e|⟨j,op,cc,op',e,hj,hg⟩
  ·exact .inl e
  ·exact .inr ⟨j,op,cc,op',e,qa1 hj hp.next,(hp.get hj (h2 _ _ _ _ _ hg)).trans hg⟩
 ·obtain ⟨j,op,rfl,hr,hj⟩:=h.lv
  exact ⟨j,op,rfl,hr.hp hp hj (h1 _ _ hr),qa1 hj hp.next⟩
theorem ids_lv {H:AH}{iv:AV}{kv:Kv}{N:Nat}(h:OwnS H iv kv.length 3 1 (idL kv) N) (hd:NdB kv){j:Nat}{op:Bool}(hr:Row H j false op 3 1 lvL):blkNe iv j:=by
 rcases h.2 with ⟨rfl,_⟩|⟨i,op2,rfl,hr2,_⟩
 ·exact zka _
 ·refine zla fun e=> ?_
  subst e;obtain ⟨c1,g1,e1⟩:=hr;obtain ⟨c2,g2,e2⟩:=hr2;rw [g1] at g2;cases g2;have e3:idL kv=lvL:=e2.symm.trans e1
  match kv,e3,hd with
  | [],e3,_=>exact absurd (qj4 List.length e3) (by show ¬0=2;decide)
  | [p],e3,_=>exact absurd (qj4 List.length e3) (by show ¬1=2;decide)
  |p::q::r,e3,hd =>
   have e4:p.1=0/\q.1=0:=by
    simp only [idL,qp1,lvL] at e3
    injection e3 with a1 a2
    injection a2 with a2 a3
    injection a1 with _ a1
    injection a2 with _ a2
    exact ⟨a1,a2⟩
   unfold NdB at hd;simp only [qp1,qe4,qe1,not_or] at hd;exact hd.1.1 (by rw [e4.1,e4.2])
theorem WdR.keep {H H':AH}{b:Nat}{s:Ms}{v lv iv qv iv2 qv2:AV}{l:List (AV×Rc)}{kv kv2:Kv}{N:Nat}(h:WdR H b s v lv iv qv l kv N){f:Int->Bk}(hk:KpR H H' b iv qv iv2 qv2) (hb:H'.get b=some (wdx s.t.nx v lv iv2 qv2))
  (h1:OwnS H' iv2 kv2.length 3 1 (idL kv2) N) (h2:BsS H' qv2 kv2 N) (hf:∀k,f k=lkB k kv2) (ho:KvOk kv2) (hd:NdB kv2):WdR H' b ⟨s.t,f⟩ v lv iv2 qv2 l kv2 N:=by
 have hbx:=h.box;have sep:∀z,z≠9->z≠1->z≠16384-> ∀j cc e op ro,H.get j=some (.cells cc e z op ro)->j≠b/\blkNe iv j/\blkNe qv j:=by
  intro z z9 z1 z16 j cc e op ro hg;refine ⟨fun e=> ?_,?_,?_⟩
  ·subst e;rw [hbx] at hg;cases hg;exact z9 rfl
  ·rcases h.ids.2 with ⟨rfl,_⟩|⟨i,op2,rfl,hr2,_⟩
   ·exact zka _
   ·refine zla fun e=> ?_
    subst e;obtain ⟨c2,g2,_⟩:=hr2;rw [hg] at g2;cases g2;exact z1 rfl
  ·rcases h.bs with ⟨rfl,_⟩|⟨i,op2,rfl,_,_,g⟩
   ·exact zka _
   ·refine zla fun e=> ?_
    subst e;rcases g with ⟨_,_,g⟩|⟨_,c,op',g,_⟩
    ·rw [hg] at g;cases g;exact z16 rfl
    ·rw [hg] at g;cases g;exact z16 rfl
 refine ⟨qa1 h.lt hk.hp.next,h.nb,hb,h.tb.hq hk.hp (sep 44 dC dC dC) (sep 2 dC dC dC) (fun j op hr=> ?_),h1,h2,hf,ho,hd⟩
 refine ⟨fun e=> ?_,ids_lv h.ids h.nd hr,?_⟩
 ·subst e;obtain ⟨c,g,_⟩:=hr;rw [hbx] at g;cases g
 ·rcases h.bs with ⟨rfl,_⟩|⟨i,op2,rfl,_,_,g⟩
  ·exact zka _
  ·refine zla fun e=> ?_
   subst e;obtain ⟨c1,g1,_⟩:=hr;rcases g with ⟨_,_,g⟩|⟨_,c,op',g,_⟩
   ·rw [g1] at g;cases g
   ·rw [g1] at g;cases g
set_option maxHeartbeats 16000000 in
theorem zci {H:AH}[hn:HN H]{b:Nat}{s:Ms}{v lv iv qv:AV}{l:List (AV×Rc)}{kv:Kv}{N:Nat}(h:WdR H b s v lv iv qv l kv N) (hq:qv= .nilSl\/kv≠ []) (k:Int){x:Bk}(hx:BkOk x) (hlen:kv.length<=99999) (hlN:H.lo<=N) :
  FnE lookM 63 [.ptr b 0,.int .i64 k,bkA x] H fun r H'=> ∃iv2 qv2,WdR H' b ⟨s.t,setK s.b k x⟩ v lv iv2 qv2 l (upB k x kv) N/\(qv2= .nilSl\/upB k x kv≠ [])/\KpR H H' b iv qv iv2 qv2:=by
 refine zud f63_eq rfl rfl ?_;have hlo:=hn.lo;have hlt:=h.lt;have hnb:=h.nb;have F:=J2 f63c.eq_1 @zfd;refine uT ?_;refine cR_at (fun H1=>HX H H1/\H1.next=H.next+1/\H1.get H.next=some (.cells (bkC x) 91 16384 false false)) ?_ ?_
 ·exact ⟨HX.new _ _,rfl,zaa _⟩
 rintro H1 ⟨hx1,hn1,g1⟩;haveI:=hx1.hn;refine cR_f (zqb1 (h.hx hx1) k oM) ?_
 rintro r2 H2 ⟨rfl,hx2⟩;have hx02:=hx1.trans hx2;haveI:=hx02.hn;have hn2:=hx2.next;have hlo2:H2.lo=H.lo:=hx02.lo;have g1:=(hx2.get (i:=H.next) oM).trans g1
 have h2:=h.hx hx02;have hb:=h2.box;have hba:=znl hx;have hne:upB k x kv≠ []:=by
  cases kv with
  |nil=>simp [upB]
  |cons p l=>unfold upB;split<;>simp
 have hf:∀j,setK s.b k x j=lkB j (upB k x kv):=fun j=>by
  rw [lkB_up,← h.f];rfl
 have hok:KvOk (upB k x kv):=fun p hp=>by
  rcases zlj1 hp with e|e
  ·rw [e];exact hx
  ·exact h.ok _ e
 unfold plI;cases a1:ixB k kv with
 |some i =>
  have hd:decide ((i:Int)<0)=false:=qp oM
  have hp:=zbj a1;have hi:=ixB_lt a1;have hup:=zmb1 x a1;have hix:=ix44 (z:=16384) (q:=i) h2.bs.is hi;rcases h2.bs with ⟨_,rfl⟩|⟨j,op,rfl,hNj,hj,⟨hne0,rfl,hgj⟩|⟨rfl,_⟩⟩
  ·simp at hi
  ·have hfl:=zkm h.ok
   have hw:=wrN_b (zlm h.ok) hx.byt (e:=91) (z:=16384) (i:=j) (o:=i*16384) (n:=16384) (op:=true) (H:=H2) hx.len (by rw [hfl];omega)
   rw [znj1 (k,x) h.ok hi] at hw;unfold byC at hw;rw [hx.len] at hw;have F:=J9 @hd @hb @wd_8 @hix @g1 @hba @zfd @hgj @hw;refine uT ?_;have hset:(kv.set i (k,x)).length=kv.length:=qm2;have hids:idL (kv.set i (k,x))=idL kv:=by
    unfold idL;rw [List.map_set];refine qm3 fun n=> ?_
    rw [List.getElem?_set];split
    ·next e=>subst e;rw [qt3,qj hi,qi1,hp];rfl
    ·rfl
   have hk2:KvOk (kv.set i (k,x)):=by rw [← hup];exact hok
   have hbl:Ce.byt (flB kv).length (Nb (flB (kv.set i (k,x))))=byC (flB (kv.set i (k,x))):=by
    unfold byC;rw [zkm hk2,hset,hfl]
   rw [hbl];have hp2:HP (·≠ j) H2 (H2.put j (.cells (byC (flB (kv.set i (k,x)))) 91 16384 true false)):=HP.put _ _ _;have hnei:blkNe iv j:=OwnS.ne h2.ids hgj dC
   have hbj:b≠j:=fun e=>by subst e;rw [hb] at hgj;cases hgj
   have kp:KpR H (H2.put j (.cells (byC (flB (kv.set i (k,x)))) 91 16384 true false)) b iv (.sl j 0 kv.length kv.length true) iv (.sl j 0 kv.length kv.length true) :=
    (KpR.hx hx02).trans ⟨hp2.mono fun i hi hh e=>by subst e;exact hh.2.2 _ _ _ _ rfl,fun _ _ h=>h,fun _ _ h=>h⟩
   refine ⟨iv,.sl j 0 kv.length kv.length true,h.keep kp ((hp2.get h2.lt hbj).trans hb) ?_ ?_ hf hok h.nd.up,.inr hne,kp⟩
   ·rw [hup,hset,hids]
    exact OwnS.hq h2.ids hp2 fun j2 o n c op e=>fun e2=>by subst e2;exact hnei _ _ _ _ e
   ·rw [hup]
    refine .inr ⟨j,true,by rw [hset],hNj,hj,.inl ⟨by rw [← hup];exact hne,rfl,zfa _ _⟩⟩
  ·simp at hi
 |none =>
  have hd:decide ((-1:Int)<0)=true:=dC
  have hup:=zlb1 x a1;have hx3:HX H2 (H2.new (.cells (.lst [.int .i64 k]) 3 1 false false)):=HX.new _ _;have hr3:Row (H2.new (.cells (.lst [.int .i64 k]) 3 1 false false)) H2.next false false 3 1 [.int .i64 k]:=⟨.lst [.int .i64 k],zaa _,rfl⟩;have hn3:(H2.new (.cells (.lst [.int .i64 k]) 3 1 false false)).next=H2.next+1:=rfl;have F:=J5 @hd @hb @wd_7 @wd_8 @one_q;refine uT ?_;generalize H2.new (.cells (.lst [.int .i64 k]) 3 1 false false)=H3 at *
  haveI:=hx3.hn;have hlo3:H3.lo=H.lo:=hx3.lo.trans hlo2;have h3:=h2.hx hx3;obtain ⟨iv2,H4,a4,ho4,hp4,hn4,hne4⟩:=OwnS.app (b:=8) h3.ids (hr3.slZ (n:=1) (c:=1) (op':=false) oM rfl) rfl oM oM oM oM
  haveI:=hp4.hn;have hlo4:H4.lo=H.lo:=hp4.lo.trans hlo3;have hn4':=hp4.next;have hivb:blkNe iv b:=OwnS.ne h2.ids hb dC
  have hivn:blkNe iv H.next:=OwnS.ne h2.ids g1 dC
  have hb4:=(hp4.get (i:=b) oM hivb).trans h3.box
  have g4:=(hp4.get (i:=H.next) oM hivn).trans ((hx3.get (i:=H.next) oM).trans g1)
  have hiv2:=(OwnS.one ho4);have hst:=st1_w (L:=lookM) (t:=35) (i:=b) (o:=7) (H:=H4) kR hiv2.1 hiv2.2 oM
  have hs7:∀iv2,(wdL s.t.nx v lv iv qv).set 7 iv2=wdL s.t.nx v lv iv2 qv:=fun _=>rfl
  have hl9:7<(wdL s.t.nx v lv iv qv).length:=by show 7<9;decide
  have e1:=hEq_f (oM:H.next≠b)
  simp (maxSteps:=1000000) (disch:=first|assumption|omega|rfl|(simp only [nx];omega)|(simp only [lens]<;>omega)) only [rq,rq2,zsi,lsE_s,qz3,qu3,Nat.reduceEqDiff,Nat.reduceAdd,reduceIte,reduceCtorEq,ne_eq,qb3,qu2,qh5,qb5,a4,hst,hb4,hs7,hl9,wd_8,g4,hba,e1,zyi,zzi,bs_one hx]
  have hxn:HX (H4.put b (wdx s.t.nx v lv iv2 qv)) ((H4.put b (wdx s.t.nx v lv iv2 qv)).new (.cells (bkC x) 91 16384 false false)):=HX.new _ _;have hpb:HP (·≠ b) H4 (H4.put b (wdx s.t.nx v lv iv2 qv)):=HP.put _ _ _;have hp5:HP (·≠ b) H4 ((H4.put b (wdx s.t.nx v lv iv2 qv)).new (.cells (bkC x) 91 16384 false false)):=hpb.trans (hxn.hp fun _=>True) fun i _ hi=>⟨hi,trivial⟩
  haveI:=hpb.hn;have g5:((H4.put b (wdx s.t.nx v lv iv2 qv)).new (.cells (bkC x) 91 16384 false false)).get H4.next=some (.cells (bkC x) 91 16384 false false):=zaa _;have hb5:((H4.put b (wdx s.t.nx v lv iv2 qv)).new (.cells (bkC x) 91 16384 false false)).get b=some (wdx s.t.nx v lv iv2 qv):=(hxn.get (oM:b<H4.next)).trans (zfa _ _)
  have hn5:((H4.put b (wdx s.t.nx v lv iv2 qv)).new (.cells (bkC x) 91 16384 false false)).next=H4.next+1:=rfl;generalize (H4.put b (wdx s.t.nx v lv iv2 qv)).new (.cells (bkC x) 91 16384 false false)=H5 at *
  haveI:=hp5.hn;have hlo5:H5.lo=H.lo:=hp5.lo.trans hlo4;have hqi:∀j o n c op,qv= .sl j o n c op->blkNe iv j:=fun j o n c op e=>by
   obtain ⟨_,_,_,_,g⟩:=h3.bs.blk e;exact OwnS.ne h3.ids g dC
  have hqb:∀j o n c op,qv= .sl j o n c op->j≠b:=fun j o n c op e e2=>by
   subst e2;obtain ⟨_,_,_,_,g⟩:=h3.bs.blk e;rw [h3.box] at g;cases g
  have hbs5:BsS H5 qv kv N:=(h3.bs.hq hp4 hqi).hq hp5 hqb;obtain ⟨qv2,H6,a6,hq6,hp6,hn6,hne6⟩:=bs_app1 hbs5 hq h.ok hx g5 (op2:=false) k oM oM oM
  haveI:=hp6.hn;have hlo6:H6.lo=H.lo:=hp6.lo.trans hlo5;have hqvb:blkNe qv b:=fun o n c op e=>hqb _ _ _ _ _ e rfl
  have hb6:=(hp6.get (i:=b) oM hqvb).trans hb5
  have hqv2:qv2.oneCell=true/\qv2.toC= .lst [qv2]:=by
   rcases hq6 with ⟨rfl,_⟩|⟨i,op2,rfl,_⟩<;>exact ⟨rfl,rfl⟩
  have hst:=st1_w (L:=lookM) (t:=54) (i:=b) (o:=8) (H:=H6) kR hqv2.1 hqv2.2 oM
  have hs8:∀qv2,(wdL s.t.nx v lv iv2 qv).set 8 qv2=wdL s.t.nx v lv iv2 qv2:=fun _=>rfl
  have hl9:8<(wdL s.t.nx v lv iv2 qv).length:=by show 8<9;decide
  have F:=J5 @a6 @hst @hb6 @hs8 @hl9;refine uT ?_;have hpc:HP (·≠ b) H6 (H6.put b (wdx s.t.nx v lv iv2 qv2)):=HP.put _ _ _;have kp:KpR H (H6.put b (wdx s.t.nx v lv iv2 qv2)) b iv qv iv2 qv2:=by
   refine ⟨?_,fun j hj hh=>hne4 j (by have:=hx02.next;have:=hx3.next;omega) hh,fun j hj _=>hne6 j (by have:=hx02.next;have:=hx3.next;omega)⟩
   have p1:=(hx02.trans hx3).hp fun _=>True
   have p2:=p1.trans hp4 (r:=fun i=>blkNe iv i) fun i _ hi=>⟨trivial,hi⟩
   have p3:=p2.trans hp5 (r:=fun i=>i≠b/\blkNe iv i) fun i _ hi=>⟨hi.2,hi.1⟩
   have p4:=p3.trans hp6 (r:=fun i=>i≠b/\blkNe iv i/\blkNe qv i) fun i _ hi=>⟨⟨hi.1,hi.2.1⟩,hi.2.2⟩
   exact p4.trans hpc fun i _ hi=>⟨hi,hi.1⟩
  refine ⟨iv2,qv2,h.keep kp (zfa _ _) ?_ ?_ hf hok h.nd.up,.inr hne,kp⟩
  ·rw [hup]
   have he:idL (kv ++ [(k,x)])=idL kv ++ [AV.int .i64 k]:=by unfold idL;rw [qe3];rfl
   rw [he,qy];have h4b:∀j o n c op,iv2= .sl j o n c op->j≠b:=fun j o n c op e e2=>by
    subst e2;have:=OwnS.ne ho4 hb4 dC
    exact this _ _ _ _ e
   have h46:∀j o n c op,iv2= .sl j o n c op->blkNe qv j:=fun j o n c op e=>by
    have hh5:=OwnS.hq ho4 hp5 h4b;rcases hh5.2 with ⟨e2,_⟩|⟨i,op2,e2,hr,_⟩
    ·rw [e2] at e;cases e
    ·rw [e2] at e;cases e
     obtain ⟨cc,g,_⟩:=hr;exact hbs5.ne g dC
   exact OwnS.hq (OwnS.hq (OwnS.hq ho4 hp5 h4b) hp6 h46) hpc h4b
  ·rw [hup]
   refine hq6.hq hpc fun j o n c op e e2=> ?_
   subst e2;obtain ⟨_,_,_,_,g⟩:=hq6.blk e;rw [hb6] at g;cases g
theorem WdR.db {H:AH}{b:Nat}{s:Ms}{v lv iv qv:AV}{l:List (AV×Rc)}{kv:Kv}{N:Nat}(h:WdR H b s v lv iv qv l kv N) (hd:Bd s.t):DbIn H s.t v lv l:=⟨h.tb,hd.len,hd.nm,hd.nx⟩
theorem zrr {H:AH}[hn:HN H]{b:Nat}{s:Ms}{v lv iv qv:AV}{l:List (AV×Rc)}{kv:Kv}{N:Nat}{nm:ByteArray}(h:WdR H b s v lv iv qv l kv N) (hd:Bd s.t) :
  FnE lookM 36 [.ptr b 0,.str nm] H fun r H'=>(∃a,a.oneCell=true/\r= .tup [.agg (rcL (a,recO s.t nm)),.bool (hasB nm s.t.rs)])/\HX H H':=by
 refine fI Tryz.f36 ?_;have hlo:=hn.lo;have hb:=h.box;have hlt:=h.lt;have e1:=hEq_f (oM:b≠H.next)
 have F:=J3 @hb @wd_t @e1;refine uT ?_;refine cR_at (fun H1=>HX H H1/\H1.next=H.next+1/\ ∃l,l.length=44/\H1.get H.next=some (.cells (.lst l) 84 44 false false)) ?_ ?_
 ·exact ⟨hxt,rfl,_,rfl,zaa _⟩
 rintro H1 ⟨hx1,hn1,zl,hzl,g1⟩;haveI:=hx1.hn;refine cR_f (dfnd ((h.hx hx1).db hd) nm) ?_;rintro r2 H2 ⟨rfl,hx2⟩;have hx02:=hx1.trans hx2;have hn2:=hx2.next;have g1:=(hx2.get (i:=H.next) oM).trans g1
 have hb2:=(h.hx hx02).box;haveI:=hx02.hn;have hlo2:H2.lo=H.lo:=hx02.lo;unfold recO;cases a2:hasB nm s.t.rs with
 |false =>
  have hw:=fun i op H=>wrN_l (l:=zl) (lv:=rcL (.nilSl,Rc0)) (e:=84) (z:=44) (i:=i) (n:=44) (op:=op) (H:=H) hzl rfl rfl
  have F:=J6 @rcz_bu @zra @g1 @hw @zzd @ld44;refine uX ?_;exact ⟨⟨.nilSl,rfl,rfl⟩,HX.put hx02 oM _⟩
 |true =>
  obtain ⟨q1,q2⟩:=zeb a2;have h2:=h.hx hx02;obtain ⟨p,hp,hpe,hho⟩:=(h2.db hd).at q1;have hix:=ix44 (z:=44) (q:=fndI nm s.t.rs) h2.tb.rd.sl.is (by rw [h2.tb.len];exact q1)
  have hld:=h2.tb.rd.sl.agg hp;obtain ⟨a,x⟩:=p;simp only at hpe hho;subst hpe;have hone:a.oneCell=true:=zic hho.is;have hw:=fun i op H=>wrN_l (l:=zl) (lv:=rcL (a,get s.t.rs (fndI nm s.t.rs))) (e:=84) (z:=44) (i:=i) (n:=44) (op:=op) (H:=H) hzl rfl (zbc _ hone)
  have F:=J9 @hb2 @wd_1 @hix @hld @zra @g1 @hw @zzd @ld44;refine uT ?_;exact ⟨⟨a,hone,rfl⟩,HX.put hx02 oM _⟩
set_option maxHeartbeats 16000000 in
theorem zso1 {H:AH}[hn:HN H]{b:Nat}{s:Ms}{v lv iv qv:AV}{l:List (AV×Rc)}{kv:Kv}{N:Nat}{o:Od}{ov bv:AV}(h:WdR H b s v lv iv qv l kv N) (hd:Bd s.t) (hs:o.nm.size<=100000) (hto:o.to.size<=100000) :
  FnE lookM 61 [.ptr b 0,odA o ov bv] H fun r H'=>DbR H' r (chgT s.t o)/\HX H H':=by
 refine fI Tryz.f61 ?_;have hlo:=hn.lo;have hb:=h.box;have hlt:=h.lt;have e0:=hEq_f (oM:b≠H.next)
 have e1:=hEq_f (oM:b≠H.next+1)
 have e01:=hEq_f (oM:H.next≠H.next+1)
 have o1:=o0;have F:=J4 @zvf @zdb @od_0 @e01;refine uT ?_;cases a1:decide (o.op=1) with
 |true =>
  have e:=qe a1;have ec:chgT s.t o=makeT s.t o.nm o.n:=by unfold chgT;simp only [e];rfl
  rw [ec];have F:=J10 @od_0 @od_1 @od_2 @od_3 @od_4 @hb @wd_t @e0 @e1 @e01;refine uT ?_;refine cR_at (fun H1=>HX H H1/\H1.next=H.next+2/\H1.get (H.next+1)=some (tbx 0 .nilSl .nilSl)) ?_ ?_
  ·exact ⟨hxt,rfl,zaa _⟩
  rintro H1 ⟨hx1,hn1,g1⟩;haveI:=hx1.hn;refine cR_f (zxn1 ((h.hx hx1).db hd) hs) ?_;rintro r2 H2 ⟨ht2,hx2⟩;have hx02:=hx1.trans hx2;have g1:=(hx2.get (i:=H.next+1) oM).trans g1
  haveI:=hx02.hn;have hlo2:H2.lo=H.lo:=hx02.lo;rcases ht2 with ⟨e,he,h1,rfl⟩|⟨t2,v2,l2,ll,h1,rfl,h3⟩
  ·have F:=J5 @g1 @zda @zba @zha @ld7;refine uT ?_
   exact ⟨.inl ⟨e,he,h1,rfl⟩,HX.put hx02 oM _⟩
  ·have o2:=zbb (nn:=t2.nx) (v:=v2) (lv:=l2) (RdD.one h3.rd) (LvD.one h3.lv).1
   have F:=J5 @g1 @zda @zba @zha @ld7;refine uT ?_;exact ⟨.inr ⟨t2,v2,l2,ll,h1,rfl,h3.put (HP.put _ _ _) g1 dC dC dC⟩,HX.put hx02 oM _⟩
 |false =>
 have n1:¬o.op=1:=qf a1;refine uT0 ?_;cases a2:decide (o.op=2) with
 |true =>
  have e:=qe a2;have ec:chgT s.t o=snapT s.t o.nm:=by unfold chgT;simp only [e];rfl
  rw [ec];have F:=J10 @od_0 @od_1 @od_2 @od_3 @od_4 @hb @wd_t @e0 @e1 @e01;refine uT ?_;refine cR_at (fun H1=>HX H H1/\H1.next=H.next+2/\H1.get (H.next+1)=some (tbx 0 .nilSl .nilSl)) ?_ ?_
  ·exact ⟨hxt,rfl,zaa _⟩
  rintro H1 ⟨hx1,hn1,g1⟩;haveI:=hx1.hn;refine cR_f (zsf1 ((h.hx hx1).db hd) hs) ?_;rintro r2 H2 ⟨ht2,hx2⟩;have hx02:=hx1.trans hx2;have g1:=(hx2.get (i:=H.next+1) oM).trans g1
  haveI:=hx02.hn;have hlo2:H2.lo=H.lo:=hx02.lo;rcases ht2 with ⟨e,he,h1,rfl⟩|⟨t2,v2,l2,ll,h1,rfl,h3⟩
  ·have F:=J5 @g1 @zda @zba @zha @ld7;refine uT ?_
   exact ⟨.inl ⟨e,he,h1,rfl⟩,HX.put hx02 oM _⟩
  ·have o2:=zbb (nn:=t2.nx) (v:=v2) (lv:=l2) (RdD.one h3.rd) (LvD.one h3.lv).1
   have F:=J5 @g1 @zda @zba @zha @ld7;refine uT ?_;exact ⟨.inr ⟨t2,v2,l2,ll,h1,rfl,h3.put (HP.put _ _ _) g1 dC dC dC⟩,HX.put hx02 oM _⟩
 |false =>
 have n2:¬o.op=2:=qf a2;refine uT0 ?_;cases a3:decide (o.op=3) with
 |true =>
  have e:=qe a3;have ec:chgT s.t o=zxn s.t o.nm o.to:=by unfold chgT;simp only [e];rfl
  rw [ec];have F:=J10 @od_0 @od_1 @od_2 @od_3 @od_4 @hb @wd_t @e0 @e1 @e01;refine uT ?_;refine cR_at (fun H1=>HX H H1/\H1.next=H.next+2/\H1.get (H.next+1)=some (tbx 0 .nilSl .nilSl)) ?_ ?_
  ·exact ⟨hxt,rfl,zaa _⟩
  rintro H1 ⟨hx1,hn1,g1⟩;haveI:=hx1.hn;refine cR_f (zya1 ((h.hx hx1).db hd) hs hto) ?_;rintro r2 H2 ⟨ht2,hx2⟩;have hx02:=hx1.trans hx2;have g1:=(hx2.get (i:=H.next+1) oM).trans g1
  haveI:=hx02.hn;have hlo2:H2.lo=H.lo:=hx02.lo;rcases ht2 with ⟨e,he,h1,rfl⟩|⟨t2,v2,l2,ll,h1,rfl,h3⟩
  ·have F:=J5 @g1 @zda @zba @zha @ld7;refine uT ?_
   exact ⟨.inl ⟨e,he,h1,rfl⟩,HX.put hx02 oM _⟩
  ·have o2:=zbb (nn:=t2.nx) (v:=v2) (lv:=l2) (RdD.one h3.rd) (LvD.one h3.lv).1
   have F:=J5 @g1 @zda @zba @zha @ld7;refine uT ?_;exact ⟨.inr ⟨t2,v2,l2,ll,h1,rfl,h3.put (HP.put _ _ _) g1 dC dC dC⟩,HX.put hx02 oM _⟩
 |false =>
 have n3:¬o.op=3:=qf a3;refine uT0 ?_;cases a4:decide (o.op=4) with
 |true =>
  have e:=qe a4;have ec:chgT s.t o=rollT s.t o.nm:=by unfold chgT;simp only [e];rfl
  rw [ec];have F:=J10 @od_0 @od_1 @od_2 @od_3 @od_4 @hb @wd_t @e0 @e1 @e01;refine uT ?_;refine cR_at (fun H1=>HX H H1/\H1.next=H.next+2/\H1.get (H.next+1)=some (tbx 0 .nilSl .nilSl)) ?_ ?_
  ·exact ⟨hxt,rfl,zaa _⟩
  rintro H1 ⟨hx1,hn1,g1⟩;haveI:=hx1.hn;refine cR_f (zvf1 ((h.hx hx1).db hd) hs) ?_;rintro r2 H2 ⟨ht2,hx2⟩;have hx02:=hx1.trans hx2;have g1:=(hx2.get (i:=H.next+1) oM).trans g1
  haveI:=hx02.hn;have hlo2:H2.lo=H.lo:=hx02.lo;rcases ht2 with ⟨e,he,h1,rfl⟩|⟨t2,v2,l2,ll,h1,rfl,h3⟩
  ·have F:=J5 @g1 @zda @zba @zha @ld7;refine uT ?_
   exact ⟨.inl ⟨e,he,h1,rfl⟩,HX.put hx02 oM _⟩
  ·have o2:=zbb (nn:=t2.nx) (v:=v2) (lv:=l2) (RdD.one h3.rd) (LvD.one h3.lv).1
   have F:=J5 @g1 @zda @zba @zha @ld7;refine uT ?_;exact ⟨.inr ⟨t2,v2,l2,ll,h1,rfl,h3.put (HP.put _ _ _) g1 dC dC dC⟩,HX.put hx02 oM _⟩
 |false =>
 have n4:¬o.op=4:=qf a4;refine uT0 ?_;cases a5:decide (o.op=5) with
 |true =>
  have e:=qe a5;have ec:chgT s.t o=dropT s.t o.nm:=by unfold chgT;simp only [e];rfl
  rw [ec];have F:=J10 @od_0 @od_1 @od_2 @od_3 @od_4 @hb @wd_t @e0 @e1 @e01;refine uT ?_;refine cR_at (fun H1=>HX H H1/\H1.next=H.next+2/\H1.get (H.next+1)=some (tbx 0 .nilSl .nilSl)) ?_ ?_
  ·exact ⟨hxt,rfl,zaa _⟩
  rintro H1 ⟨hx1,hn1,g1⟩;haveI:=hx1.hn;refine cR_f (zwf1 ((h.hx hx1).db hd) hs) ?_;rintro r2 H2 ⟨ht2,hx2⟩;have hx02:=hx1.trans hx2;have g1:=(hx2.get (i:=H.next+1) oM).trans g1
  haveI:=hx02.hn;have hlo2:H2.lo=H.lo:=hx02.lo;rcases ht2 with ⟨e,he,h1,rfl⟩|⟨t2,v2,l2,ll,h1,rfl,h3⟩
  ·have F:=J5 @g1 @zda @zba @zha @ld7;refine uT ?_
   exact ⟨.inl ⟨e,he,h1,rfl⟩,HX.put hx02 oM _⟩
  ·have o2:=zbb (nn:=t2.nx) (v:=v2) (lv:=l2) (RdD.one h3.rd) (LvD.one h3.lv).1
   have F:=J5 @g1 @zda @zba @zha @ld7;refine uT ?_;exact ⟨.inr ⟨t2,v2,l2,ll,h1,rfl,h3.put (HP.put _ _ _) g1 dC dC dC⟩,HX.put hx02 oM _⟩
 |false =>
 have n5:¬o.op=5:=qf a5;refine uT0 ?_;cases a6:decide (o.op=6) with
 |true =>
  have e:=qe a6;have ec:chgT s.t o=renT s.t o.nm o.to:=by unfold chgT;simp only [e];rfl
  rw [ec];have F:=J10 @od_0 @od_1 @od_2 @od_3 @od_4 @hb @wd_t @e0 @e1 @e01;refine uT ?_;refine cR_at (fun H1=>HX H H1/\H1.next=H.next+2/\H1.get (H.next+1)=some (tbx 0 .nilSl .nilSl)) ?_ ?_
  ·exact ⟨hxt,rfl,zaa _⟩
  rintro H1 ⟨hx1,hn1,g1⟩;haveI:=hx1.hn;refine cR_f (zbo1 ((h.hx hx1).db hd) hs hto) ?_;rintro r2 H2 ⟨ht2,hx2⟩;have hx02:=hx1.trans hx2;have g1:=(hx2.get (i:=H.next+1) oM).trans g1
  haveI:=hx02.hn;have hlo2:H2.lo=H.lo:=hx02.lo;rcases ht2 with ⟨e,he,h1,rfl⟩|⟨t2,v2,l2,ll,h1,rfl,h3⟩
  ·have F:=J5 @g1 @zda @zba @zha @ld7;refine uT ?_
   exact ⟨.inl ⟨e,he,h1,rfl⟩,HX.put hx02 oM _⟩
  ·have o2:=zbb (nn:=t2.nx) (v:=v2) (lv:=l2) (RdD.one h3.rd) (LvD.one h3.lv).1
   have F:=J5 @g1 @zda @zba @zha @ld7;refine uT ?_;exact ⟨.inr ⟨t2,v2,l2,ll,h1,rfl,h3.put (HP.put _ _ _) g1 dC dC dC⟩,HX.put hx02 oM _⟩
 |false =>
 have n6:¬o.op=6:=qf a6;refine uT0 ?_;cases a7:decide (o.op=7) with
 |true =>
  have e:=qe a7;have ec:chgT s.t o=sizeT s.t o.nm o.n:=by unfold chgT;simp only [e];rfl
  rw [ec];have F:=J10 @od_0 @od_1 @od_2 @od_3 @od_4 @hb @wd_t @e0 @e1 @e01;refine uT ?_;refine cR_at (fun H1=>HX H H1/\H1.next=H.next+2/\H1.get (H.next+1)=some (tbx 0 .nilSl .nilSl)) ?_ ?_
  ·exact ⟨hxt,rfl,zaa _⟩
  rintro H1 ⟨hx1,hn1,g1⟩;haveI:=hx1.hn;refine cR_f (zco1 ((h.hx hx1).db hd) hs) ?_;rintro r2 H2 ⟨ht2,hx2⟩;have hx02:=hx1.trans hx2;have g1:=(hx2.get (i:=H.next+1) oM).trans g1
  haveI:=hx02.hn;have hlo2:H2.lo=H.lo:=hx02.lo;rcases ht2 with ⟨e,he,h1,rfl⟩|⟨t2,v2,l2,ll,h1,rfl,h3⟩
  ·have F:=J5 @g1 @zda @zba @zha @ld7;refine uT ?_
   exact ⟨.inl ⟨e,he,h1,rfl⟩,HX.put hx02 oM _⟩
  ·have o2:=zbb (nn:=t2.nx) (v:=v2) (lv:=l2) (RdD.one h3.rd) (LvD.one h3.lv).1
   have F:=J5 @g1 @zda @zba @zha @ld7;refine uT ?_;exact ⟨.inr ⟨t2,v2,l2,ll,h1,rfl,h3.put (HP.put _ _ _) g1 dC dC dC⟩,HX.put hx02 oM _⟩
 |false =>
 have n7:¬o.op=7:=qf a7;refine uT0 ?_;have ec:chgT s.t o=limT s.t o.nm o.n o.m:=by unfold chgT;rw [qg n1,qg n2,qg n3,qg n4,qg n5,qg n6,qg n7]
 rw [ec];have F:=J10 @od_0 @od_1 @od_2 @od_3 @od_4 @hb @wd_t @e0 @e1 @e01;refine uT ?_;refine cR_at (fun H1=>HX H H1/\H1.next=H.next+2/\H1.get (H.next+1)=some (tbx 0 .nilSl .nilSl)) ?_ ?_
 ·exact ⟨hxt,rfl,zaa _⟩
 rintro H1 ⟨hx1,hn1,g1⟩;haveI:=hx1.hn;refine cR_f (dlim_ok ((h.hx hx1).db hd) hs) ?_;rintro r2 H2 ⟨ht2,hx2⟩;have hx02:=hx1.trans hx2;have g1:=(hx2.get (i:=H.next+1) oM).trans g1
 haveI:=hx02.hn;have hlo2:H2.lo=H.lo:=hx02.lo;rcases ht2 with ⟨e,he,h1,rfl⟩|⟨t2,v2,l2,ll,h1,rfl,h3⟩
 ·have F:=J5 @g1 @zda @zba @zha @ld7;refine uT ?_
  exact ⟨.inl ⟨e,he,h1,rfl⟩,HX.put hx02 oM _⟩
 ·have o2:=zbb (nn:=t2.nx) (v:=v2) (lv:=l2) (RdD.one h3.rd) (LvD.one h3.lv).1
  have F:=J5 @g1 @zda @zba @zha @ld7;refine uT ?_;exact ⟨.inr ⟨t2,v2,l2,ll,h1,rfl,h3.put (HP.put _ _ _) g1 dC dC dC⟩,HX.put hx02 oM _⟩
set_option maxHeartbeats 16000000 in
theorem zig1 {H:AH}[hn:HN H]{b:Nat}{s:Ms}{v lv iv qv:AV}{l:List (AV×Rc)}{kv:Kv}{N:Nat}{but:ByteArray}(h:WdR H b s v lv iv qv l kv N) (hd:Bd s.t) (hrs:∀r,r∈s.t.rs-> -1000000<=r.rs/\r.rs<=1000000) (hkl:kv.length<=100000) :
  FnE lookM 33 [.ptr b 0,.str but] H fun r H'=>r= .int .i64 (zyk s but)/\HX H H':=by
 refine fJ Tryz.f33 o33 ?_;have hlo:=hn.lo;have hlt:=h.lt;have hl:∀H',fstO (zea .len lookM [49] [v] H')=some (.int .i64 s.t.rs.length):=fun H'=>by have:=zwc (H':=H') uRs h.tb.rd.sl.is;rwa [h.tb.len] at this
 have hlen:=hd.len;refine uT0 ?_;refine rc_j o33 (fun n T H'=> ∃q c,n+q=s.t.rs.length/\HX H H'/\c=(s.t.rs.take q).foldl (shS s but) 0/\0<=c/\c<=1000000*(q:Int) /\
  gT T 0= .ptr b 0/\gT T 1= .str but/\gT T 5= .int .i64 c/\gT T 6= .int .i64 q) s.t.rs.length ?_ ?_
 ·exact ⟨0,0,rfl,HX.refl _,by simp,oM,by simp,vT0,vT0,vT0,wT0⟩
 rintro n T H1 ⟨q,c,hnq,hx1,hc,hc0,hcq,t0,t1,t5,t6⟩;haveI:=hx1.hn;have hlo1:H1.lo=H.lo:=hx1.lo;have hn1:=hx1.next;have h1:=h.hx hx1;have hb1:=h1.box;cases n with
 |zero =>
  have hq:q=s.t.rs.length:=oM
  rw [hq,qm6,← zru] at hc;have d1:decide ((q:Int)<(s.t.rs.length:Int))=false:=qp oM
  have F:=J8 @t0 @t1 @t5 @t6 @hb1 @wd_1 @hl @d1;refine uT ?_;exact ⟨by rw [hc],hx1⟩
 |succ n =>
  have hq:q<s.t.rs.length:=oM
  have hlo1':H1.lo<=H1.next:=HN.lo;obtain ⟨p,hp,hpe,hho⟩:=(h1.db hd).at hq;have hix:=ix44 (z:=44) (q:=q) h1.tb.rd.sl.is (by rw [h1.tb.len];exact hq)
  have hld:=h1.tb.rd.sl.agg hp;obtain ⟨a,x⟩:=p;simp only at hpe hho;subst hpe;have d1:decide ((q:Int)<(s.t.rs.length:Int))=true:=qo oM
  have hone:=zbc (a,get s.t.rs q) (zic hho.is);have hxr:=hrs _ (zfm hq);have hst:=shS_le s but hxr.2 c;have hu64:usedB (s.b (get s.t.rs q).id)<=64:=zmd _ 64 0;have eb':=hEq_f (oM:b≠H1.next)
  have hc':shS s but c (get s.t.rs q)=(s.t.rs.take (q+1)).foldl (shS s but) 0:=by
   rw [qi4,get_lt hq,qi3,List.foldl_append,← hc];rfl
  unfold shS at hc' hst;cases a1:decide ((get s.t.rs q).kd=1) with
  |false =>
   have n1:=qf a1;rw [qg (fun x=>n1 x.1)] at hc'
   have F:=J13 @t0 @t1 @t5 @t6 @hb1 @wd_1 @hl @d1 @hix @hld @zra @rc_n2 @a1;refine uT ?_;exact ⟨n,oM,q+1,c,oM,by have K:=hx1;exact hxk,hc',hc0,by push_cast;omega,rfl,by push_cast;rfl⟩
  |true =>
  have y1:=qe a1;cases a2:decide ((get s.t.rs q).nm=but) with
  |true =>
   have y2:=qe a2;rw [qg (fun x=>x.2 y2)] at hc'
   have F:=J16 @t0 @t1 @t5 @t6 @hb1 @wd_1 @hl @d1 @hix @hld @zra @rc_n2 @rc_1 @a1 @zsd @a2;refine uT ?_;exact ⟨n,oM,q+1,c,oM,by have K:=hx1;exact hxk,hc',hc0,by push_cast;omega,rfl,by push_cast;rfl⟩
  |false =>
   have y2:=qf a2;rw [qj ⟨y1,y2⟩] at hc' hst;have F:=J16 @t0 @t1 @t5 @t6 @hb1 @wd_1 @hl @d1 @hix @hld @zra @rc_n0 @rc_n2 @zwf @rc_1 (J3 @a1 @zsd @a2);refine uT ?_;refine rk_at (fun H2=>HX H1 H2/\H1.next+1<=H2.next/\H2.get H1.next=some (.cells (.lst (rcL (a,get s.t.rs q))) 84 44 false false)) ?_ ?_
   ·exact ⟨hxt,qn _,zfa _ _⟩
   rintro H2 ⟨hx2,hn2,g2⟩;have hx02:=hx1.trans hx2;haveI:=hx02.hn;refine rk_cw (js:= [H1.next]) (R:=fun r H'=>r=bkA (s.b (get s.t.rs q).id)/\HX H2 H') ?_ ?_ ?_
   ·rw [zsc]
    refine zga (o:=43) ?_ zza<;>(exact vT0)
   ·have F:=@t0;refine uT ?_
    exact of_ok (h.hx hx02) _ hkl
   rintro r3 H3 ⟨rfl,hx3⟩;refine ⟨zcb hx3 _ fun i hi=> ?_,?_⟩
   ·simp only [qn1] at hi
    subst hi;exact ⟨oM,_,_,_,_,_,g2⟩
   have hx03:=hx02.trans hx3;haveI:=hx03.hn;have hn3:=hx3.next;have g3:=(hx3.get (i:=H1.next) oM).trans g2
   refine rk_cw (js:= [H1.next]) (R:=fun r H'=>r= .int .i64 (usedB (s.b (get s.t.rs q).id):Nat)/\HX H3 H') ?_ ?_ ?_
   ·rw [zsc]
    refine zga (o:=43) ?_ zza<;>(have F:=@zhd;exact vT)
   ·have hok:BkOk (s.b (get s.t.rs q).id):=by
     rw [h.f];cases e:ixB (get s.t.rs q).id kv with
     |none=>rw [zgo e];exact zeroB_ok
     |some i=>exact h.ok _ (qz.2 ⟨i,zbj e⟩)
    have F:=@zhd;refine uT ?_;exact zel hok
   rintro r4 H4 ⟨rfl,hx4⟩;refine ⟨zcb hx4 _ fun i hi=> ?_,?_⟩
   ·simp only [qn1] at hi
    subst hi;exact ⟨oM,_,_,_,_,_,g3⟩
   have em:(if (get s.t.rs q).rs - (usedB (s.b (get s.t.rs q).id):Int)<0 then (0:Int) else (get s.t.rs q).rs - (usedB (s.b (get s.t.rs q).id):Int))=max ((get s.t.rs q).rs - (usedB (s.b (get s.t.rs q).id):Int)) 0:=by
    split<;>omega
   have F:=J6 @zhd @t0 @t1 @t5 @t6 @em;refine uT ?_;exact ⟨n,oM,q+1,_,oM,hx03.trans hx4,hc',oM,by push_cast;omega,rfl,by push_cast;rfl⟩
theorem WdR.bk {H:AH}{b:Nat}{s:Ms}{v lv iv qv:AV}{l:List (AV×Rc)}{kv:Kv}{N:Nat}(h:WdR H b s v lv iv qv l kv N) (k:Int):BkOk (s.b k):=by
 rw [h.f];cases e:ixB k kv with
 |none=>rw [zgo e];exact zeroB_ok
 |some i=>exact h.ok _ (qz.2 ⟨i,zbj e⟩)
set_option maxHeartbeats 16000000 in
theorem zto1 {H:AH}[hn:HN H]{b:Nat}{s:Ms}{v lv iv qv:AV}{l:List (AV×Rc)}{kv:Kv}{N:Nat}{o:Od}{ov bv a:AV}{x:Rc}(h:WdR H b s v lv iv qv l kv N) (hkl:kv.length<=100000) (hsz:1<=x.sz/\x.sz<=64) (hon:0<=o.n/\o.n<=maxN) (hom:0<=o.m/\o.m<=maxN) :
  FnE lookM 37 [.ptr b 0,odA o ov bv,.agg (rcL (a,x))] H fun r H'=>RpR H' r (readM s o x) H.next/\HX H H':=by
 refine fI Tryz.f37 ?_;have hlo:=hn.lo;have hlt:=h.lt;have e01:=hEq_f (oM:H.next≠H.next+1)
 have e02:=hEq_f (oM:H.next≠H.next+2)
 have e12:=hEq_f (oM:H.next+1≠H.next+2)
 unfold maxN at hon hom;unfold readM;cases a1:decide (x.sz<o.n) with
 |true =>
  have y1:=qe a1;rw [qj (.inl y1)];have F:=J13 @zvf @zra @zgb @e01 @e02 @e12 @od_3 @rc_n3 @a1 @rp_bu @rp_w0 @znb @ld3;refine uT ?_;exact ⟨RpR.err,hxt⟩
 |false =>
  have y1:=qf a1;cases a2:decide (x.sz - o.n<o.m) with
  |true =>
   have y2:=qe a2;rw [qj (.inr y2)];have F:=J15 @zvf @zra @zgb @e01 @e02 @e12 @od_3 @od_4 @rc_n3 @a1 @a2 @rp_bu @rp_w0 @znb @ld3;refine uT ?_;exact ⟨RpR.err,hxt⟩
  |false =>
   have y2:=qf a2;rw [qg (by rintro (k|k)<;>omega)]
   have F:=J12 @zvf @zra @zgb @e01 @e02 @e12 @od_3 @od_4 @rc_n3 @rc_n0 @a1 @a2;refine uT ?_;refine cR_at (fun H1=>HX H H1/\H1.next=H.next+3/\H1.get H.next=some (odx o ov bv)/\H1.get (H.next+2)=some (rpx 0 .nilSl .nilSl)) ?_ ?_
   ·refine ⟨hxt,rfl,?_,zaa _⟩
    have F:=J2 @e01 @e02;exact vT
   rintro H1 ⟨hx1,hn1,g0,g2⟩;haveI:=hx1.hn;obtain ⟨i,hi⟩:∃i:Nat,o.n=(i:Int):=⟨o.n.toNat,oM⟩
   obtain ⟨m,hm⟩:∃m:Nat,o.m=(m:Int):=⟨o.m.toNat,oM⟩
   refine cR_f (of_ok (h.hx hx1) x.id hkl) ?_;rintro r2 H2 ⟨rfl,hx2⟩;have hx02:=hx1.trans hx2;haveI:=hx02.hn;have hlo2:H2.lo=H.lo:=hx02.lo;have hn2:=hx2.next;have g0:=(hx2.get (i:=H.next) oM).trans g0
   have g2:=(hx2.get (i:=H.next+2) oM).trans g2
   have hB:=h.bk x.id;have hw:=fun i e op H=>wbk0 i e op H hB
   rw [hi,hm,qg2,qg2];have F:=J3 @z91 @zfd @hw;refine uT ?_;generalize s.b x.id=B at *
   refine rc_l (fun n T H'=> ∃j out,n+j=m/\HX H H'/\H2.next+1<=H'.next/\H'.get H.next=some (odx o ov bv)/\H'.get (H.next+2)=some (rpx 0 .nilSl .nilSl)/\H'.get H2.next=some (.cells (bkC B) 91 16384 false false) /\
    OwnS H' out (256*j) 5 1 (u8L (someB B i j)) (H2.next+1)/\gT T 4= .ptr H.next 0/\gT T 6= .ptr (H.next+2) 0/\gT T 7= .ptr H2.next 0/\gT T 8=out/\gT T 9= .int .i64 j) m ?_ ?_
   ·have e0:=hEq_f (oM:H.next≠H2.next)
    have e2:=hEq_f (oM:H.next+2≠H2.next)
    refine ⟨0,.nilSl,rfl,by have K:=hx02;exact hxk,qn _,by have F:=J2 @g0 @e0;exact vT,by have F:=J2 @g2 @e2;exact vT,zfa _ _,?_,vT0,vT0,vT0,vT0,by refine uT0 ?_;rfl⟩
    have:someB B i 0= []:=by unfold someB;rw [Nat.mul_zero,qp5]
    rw [this];exact OwnS.nil _ _ _ _
   rintro n T H3 ⟨j,out,hmj,hx3,hn3,g0,g2,g3,ho,t4,t6,t7,t8,t9⟩;haveI:=hx3.hn;have hlo3:H3.lo=H.lo:=hx3.lo;have od4:nth (odL o ov bv) 4=some (.int .i64 (m:Int)):=by rw [od_4,hm]
   have od3:nth (odL o ov bv) 3=some (.int .i64 (i:Int)):=by rw [od_3,hi]
   cases n with
   |zero =>
    have hj:j=m:=oM
    rw [hj] at ho;have d1:decide ((j:Int)<(m:Int))=false:=qp oM
    have hbu:=rp_buB out (by rcases ho.2 with ⟨h0,_⟩|⟨j,op,h0,_⟩;exact .inl h0;exact .inr ⟨j,_,op,h0⟩)
    have hone:=(OwnS.one ho).1;have hw2:∀e2 H3,wrN (some (.cells (.lst (rpL 0 .nilSl .nilSl)) e2 3 false false)) (H.next+2) 0 3 (.lst (rpL 0 .nilSl out)) H3=some (H3.put (H.next+2) (.cells (.lst (rpL 0 .nilSl out)) e2 3 false false)):=fun e2 H3=>rp_w 0 0 .nilSl .nilSl .nilSl out (H.next+2) e2 false H3 rfl hone
    have F:=J14 @t4 @t6 @t7 @t8 @t9 @g0 @od4 @d1 @hbu @zgb @g2 @hw2 @znb @ld3;refine uT ?_;have hlen:(someB B i m).length=256*m:=zsu hB.len oM
    refine ⟨⟨_,_,rfl,zib1 _ 1,?_,fun j hj=>⟨zka _,by
     rcases ho.2 with ⟨h0,_⟩|⟨j2,op2,h0,_,hj2,_⟩
     ·rw [h0];exact zka _
     ·rw [h0];exact zla oM⟩⟩,HX.put hx3 oM _⟩
    have he:(⟨0, [],someB B i m⟩:Rp).b.length=256*m:=hlen;rw [he];exact (OwnS.le (M:=H.next) ho oM).hq (HP.put H3 (H.next+2) (rpx 0 .nilSl out)) (p:=(·≠ H.next+2)) fun j o n c op hj=>by
     rcases ho.2 with ⟨h0,_⟩|⟨j2,op2,h0,_,hj2,_⟩
     ·rw [h0] at hj;cases hj
     ·rw [h0] at hj;cases hj;omega
   |succ n =>
    have d1:decide ((j:Int)<(m:Int))=true:=qo oM
    have hix:=ixA_n (n:=64) (z:=256) (i:=H2.next) (o:=0) (k:=i+j) oM
    have hcast:((i:Int)+(j:Int))=((i+j:Nat):Int):=by push_cast;rfl
    have hsl:=bk_sl hB oM g3 (k:=i+j) oM
    obtain ⟨out2,H4,a1',ho2,hp2,hn2',hne2⟩:=OwnS.app (b:=1) ho hsl (u8_one _) oM oM oM oM
    have F:=J14 @t4 @t6 @t7 @t8 @t9 @g0 @od4 @od3 @d1 @hcast @hix @zkw @sl89 @a1';refine uT ?_;have hnb:∀q,q<H2.next+1->blkNe out q:=fun q hq=>by
     rcases ho.2 with ⟨h0,_⟩|⟨j2,op2,h0,_,hj2,_⟩
     ·rw [h0];exact zka _
     ·rw [h0];exact zla oM
    have g0:=(hp2.get (i:=H.next) oM (hnb _ oM)).trans g0
    have g2:=(hp2.get (i:=H.next+2) oM (hnb _ oM)).trans g2
    have g3:=(hp2.get (i:=H2.next) oM (hnb _ oM)).trans g3
    refine ⟨n,oM,j+1,out2,oM,HX.hp2 hx3 hp2 fun q hq=>hnb q oM,by have:=hp2.next;omega,g0,g2,g3,?_,rfl,by push_cast;rfl⟩
    rw [zkj1,show u8L (someB B i j ++ atB B (i+j))=u8L (someB B i j) ++ u8L (atB B (i+j)) from qe3,show 256*(j+1)=256*j+256 from oM]
    exact ho2
end HS
end
