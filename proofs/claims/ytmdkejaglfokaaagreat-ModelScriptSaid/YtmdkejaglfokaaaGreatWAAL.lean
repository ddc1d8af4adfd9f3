import Derived.Test.YtmdkejaglfokaaaGreatWAAG
import Derived.Test.YtmdkejaglfokaaaGreatWAAK
import Derived.Test.YtmdkejaglfokaaaGreatWAAE
import Derived.WalkKit
import Derived.ProofKit
import Derived.OpenShut
import Derived.ShutString
import Derived.ChangeOld
import Derived.Below
import Derived.Deep.Slices
import Derived.Deep.Strs
import Derived.Deep.Fields
set_option maxHeartbeats 8000000
set_option linter.unusedSimpArgs false
set_option linter.unusedVariables false
open Go Go.Ev Go.Proofs Go.RowKit
namespace HS
set_option maxRecDepth 100000
open HS.Md
theorem MdR.fr {H H':AH}{b mb:Nat}{s:Ms}{v lv:AV}(h:MdR H b mb s v lv){p:Nat->Prop}(hp:HP p H H') (pb:p b) (pm:p mb) (p44:∀j cc e op ro,H.get j=some (.cells cc e 44 op ro)->p j) (p1:∀j op,Row H j false op 3 1 lvL->p j):MdR H' b mb s v lv:=by
 refine ⟨qz h.lt hp.next,(hp.get h.lt pb).trans h.box,h.rd.sep hp p44,?_,h.mp.hp hp pm⟩;obtain ⟨j,op,rfl,hr,hj⟩:=h.lv;exact ⟨j,op,rfl,hr.hp hp hj (p1 _ _ hr),qz hj hp.next⟩
theorem WdR.fr {H H':AH}{b:Nat}{s:Ms}{v lv iv qv:AV}{l:List (AV×Rc)}{kv:Kv}{N:Nat}(h:WdR H b s v lv iv qv l kv N){p:Nat->Prop}(hp:HP p H H') (pb:p b) (p44:∀j cc e op ro,H.get j=some (.cells cc e 44 op ro)->p j) (p2:∀j cc e op ro,H.get j=some (.cells cc e 2 op ro)->p j)
  (p1:∀j op,Row H j false op 3 1 lvL->p j) (pi:∀j o n c op,iv= .sl j o n c op->p j) (pq:∀j o n c op,qv= .sl j o n c op->p j):WdR H' b s v lv iv qv l kv N :=
 ⟨qz h.lt hp.next,h.nb,(hp.get h.lt pb).trans h.box,h.tb.hq hp p44 p2 p1,OwnS.hq h.ids hp pi,h.bs.hq hp pq,h.f,h.ok,h.nd⟩
def Mx (H:AH) (N b mb:Nat) (s:Ms):Prop:=N<=b/\N<=mb/\ ∃v lv,MdR H b mb s v lv
def Wx (H:AH) (N b:Nat) (s:Ms) (iv qv:AV) (n:Nat):Prop:= ∃v lv l kv,WdR H b s v lv iv qv l kv N/\(n<=999->qv= .nilSl\/kv≠ [])/\kv.length<=n
theorem Mx.hx {H H':AH}{N b mb:Nat}{s:Ms}(h:Mx H N b mb s) (hx:HX H H'):Mx H' N b mb s:=by
 obtain ⟨h1,h2,v,lv,h3⟩:=h;exact ⟨h1,h2,v,lv,h3.hx hx⟩
theorem Wx.hx {H H':AH}{N b:Nat}{s:Ms}{iv qv:AV}{n:Nat}(h:Wx H N b s iv qv n) (hx:HX H H'):Wx H' N b s iv qv n:=by
 obtain ⟨v,lv,l,kv,h1,h2⟩:=h;exact ⟨v,lv,l,kv,h1.hx hx,h2⟩
def Dj (a b:AV):Prop:= ∀j,blkNe a j\/blkNe b j
theorem Dj.symm {a b:AV}(h:Dj a b):Dj b a:=fun j=>(h j).symm
theorem mx_z {H:AH}{N b mb:Nat}{s:Ms}(h:Mx H N b mb s){j z:Nat}{cc:Ce}{e:Nat}{op ro:Bool}(hz:z≠8) (hg:H.get j=some (.cells cc e z op ro)):j≠b/\j≠mb:=by
 obtain ⟨_,_,v,lv,h3⟩:=h;refine ⟨fun e=> ?_,fun e=> ?_⟩
 ·subst e;rw [h3.box] at hg;cases hg;exact hz rfl
 ·subst e
  obtain ⟨_,es,c,kv,gm,_⟩:=h3.mp;rw [gm] at hg;cases hg
theorem wx_z {H:AH}{N b:Nat}{s:Ms}{iv qv:AV}{n:Nat}(h:Wx H N b s iv qv n){j z:Nat}{cc:Ce}{e:Nat}{op ro:Bool}(h9:z≠9) (h1:z≠1) (h16:z≠16384) (hg:H.get j=some (.cells cc e z op ro)):j≠b/\blkNe iv j/\blkNe qv j:=by
 obtain ⟨v,lv,l,kv,h3,_⟩:=h;refine ⟨fun e=> ?_,OwnS.ne h3.ids hg fun e=>h1 e.symm,h3.bs.ne hg fun e=>h16 e.symm⟩
 subst e;rw [h3.box] at hg;cases hg;exact h9 rfl
theorem wx_m {H:AH}{N b:Nat}{s:Ms}{iv qv:AV}{n:Nat}(h:Wx H N b s iv qv n){j:Nat}{es:List (AV×AV×Nat)}{c:Nat}(hg:H.get j=some (.map es c)):j≠b/\blkNe iv j/\blkNe qv j:=by
 obtain ⟨v,lv,l,kv,h3,_⟩:=h;refine ⟨fun e=> ?_,?_,?_⟩
 ·subst e;rw [h3.box] at hg;cases hg
 ·rcases h3.ids.2 with ⟨rfl,_⟩|⟨i,op2,rfl,⟨cc,g,_⟩,_⟩
  ·exact zfa _
  ·exact zga fun e=>by subst e;rw [hg] at g;cases g
 ·intro o n c op e
  obtain ⟨_,_,_,_,g⟩:=h3.bs.blk e;rw [hg] at g;cases g
theorem wx_lv {H:AH}{N b:Nat}{s:Ms}{iv qv:AV}{n:Nat}(h:Wx H N b s iv qv n){j:Nat}{op:Bool}(hr:Row H j false op 3 1 lvL):j≠b/\blkNe iv j/\blkNe qv j:=by
 obtain ⟨v,lv,l,kv,h3,_⟩:=h;refine ⟨fun e=> ?_,ids_lv h3.ids h3.nd hr,?_⟩
 ·subst e;obtain ⟨c,g,_⟩:=hr;rw [h3.box] at g;cases g
 ·obtain ⟨c,g,_⟩:=hr
  exact h3.bs.ne g dC
theorem wx_low {H:AH}{N b:Nat}{s:Ms}{iv qv:AV}{n:Nat}(h:Wx H N b s iv qv n){j:Nat}(hj:j<N):j≠b/\blkNe iv j/\blkNe qv j:=by
 obtain ⟨v,lv,l,kv,h3,_⟩:=h;have:=h3.nb;refine ⟨oM,?_,?_⟩
 ·rcases h3.ids.2 with ⟨rfl,_⟩|⟨i,op2,rfl,_,hN,_⟩
  ·exact zfa _
  ·exact zga oM
 ·rcases h3.bs with ⟨rfl,_⟩|⟨i,op2,rfl,hN,_⟩
  ·exact zfa _
  ·exact zga oM
theorem Wx.byM {H H':AH}{N b b2 mb2:Nat}{s s2:Ms}{iv qv:AV}{n:Nat}(h:Wx H N b s iv qv n) (k:Mx H N b2 mb2 s2) (hp:HP (fun i=>i≠b2/\i≠mb2) H H'):Wx H' N b s iv qv n:=by
 obtain ⟨v,lv,l,kv,h3,h4⟩:=h;refine ⟨v,lv,l,kv,h3.fr hp (mx_z k dC h3.box) (fun j cc e op ro hg=>mx_z k dC hg) (fun j cc e op ro hg=>mx_z k dC hg) (fun j op hr=> ?_) (fun j o n c op e=> ?_) (fun j o n c op e=> ?_),h4⟩
 ·obtain ⟨cc,g,_⟩:=hr
  exact mx_z k dC g
 ·rcases h3.ids.2 with ⟨e3,_⟩|⟨i2,op2,e3,hr,_⟩
  ·rw [e3] at e;cases e
  ·rw [e3] at e;cases e
   obtain ⟨cc,g,_⟩:=hr;exact mx_z k dC g
 ·obtain ⟨_,_,_,_,g⟩:=h3.bs.blk e
  exact mx_z k dC g
theorem Mx.byW {H H':AH}{N b mb b2:Nat}{s s2:Ms}{iv qv:AV}{n:Nat}(h:Mx H N b mb s) (k:Wx H N b2 s2 iv qv n) (hp:HP (fun i=>i≠b2/\blkNe iv i/\blkNe qv i) H H'):Mx H' N b mb s:=by
 obtain ⟨h1,h2,v,lv,h3⟩:=h;obtain ⟨_,es,c,kv,gm,_⟩:=h3.mp;exact ⟨h1,h2,v,lv,h3.fr hp (wx_z k dC dC dC h3.box) (wx_m k gm) (fun j cc e op ro hg=>wx_z k dC dC dC hg) fun j op hr=>wx_lv k hr⟩
theorem zkp1 {H:AH}{N b:Nat}{s:Ms}{iv qv:AV}{n:Nat}(h:Wx H N b s iv qv n){j:Nat}(hj:H.next<=j):j≠b/\blkNe iv j/\blkNe qv j:=by
 obtain ⟨v,lv,l,kv,h3,_⟩:=h;exact h3.fresh hj
theorem gd_bd {t:Tb}(h:Gd t):Bd t:=⟨by have:=h.len;omega,fun r hr=>by have:=(h.all r hr).1;omega,by have:=h.nx;omega⟩
theorem zpr {H:AH}:FnE lookM 8 [] H fun r H'=>r= .bool true/\H'=H:=zaj (show lookM.ext 8=some xTrue from rfl) rfl
structure OdX (H:AH) (v:AV) (l:List Ot):Prop where
 sl:SlOd H v l
 by_:∀p,p∈l->ByS H p.2.2 p.1.b
theorem OdX.hx {H H':AH}{v:AV}{l:List Ot}(h:OdX H v l) (hx:HX H H'):OdX H' v l:=⟨h.sl.hx hx,fun p hp=>(h.by_ p hp).hx hx⟩
theorem zdk1 {s w:Ms}(h:Like s w):(∀i,i<s.t.rs.length->1<=(get s.t.rs i).sz/\(get s.t.rs i).sz<=64)/\(∀i,i<w.t.rs.length->1<=(get w.t.rs i).sz/\(get w.t.rs i).sz<=64):=⟨h.sz,by rw [← h.t];exact h.sz⟩
theorem over_x {H:AH}[hn:HN H]{v:AV}{n e N f:Nat}{cs:List AV}{p:AV->Bool}{d:Bool}(hf:lookM.ext f=some (HS.Ob.xOver e p d)) (h:OwnS H v n e 1 cs N) (hp:cs.all p=true) (hlo:H.lo<=N) (hm:n<=9223372036854775807) (hd:d=true\/ ∀j o c,v≠ .sl j o 0 c false) :
  FnE lookM f [v] H fun r H'=>r= .tup []/\HP (blkNe v) H H'/\H'.next=H.next:=by
 rcases h.2 with ⟨rfl,_⟩|⟨j,op,rfl,⟨ce,hg,hce⟩,hN,hj,ho⟩
 ·refine (zaj hf (v:=.tup []) (H':=H) ?_).mono fun r H' ⟨h1,h2⟩=>⟨h1,by subst h2;exact HP.refl _ _,by rw [h2]⟩
  show (match H.hide with| []=>some (AV.tup [],H)|_::_=>none)=_
  rw [hn.hide]
 ·cases op with
  |false =>
   have h0:n=0:=by
    rcases qh3 n with h|h
    ·exact h
    ·exact absurd (ho oM) dC
   subst h0;have hd:d=true:=hd.elim id fun h=>absurd rfl (h j 0 0)
   subst hd;refine (zaj hf (v:=.tup []) (H':=H) ?_).mono fun r H' ⟨h1,h2⟩=>⟨h1,by subst h2;exact HP.refl _ _,by rw [h2]⟩
   unfold HS.Ob.xOver;simp only [hn.hide];rfl
  |true =>
   refine (zaj hf (v:=.tup []) (H':=H.drop j) ?_).mono fun r H' ⟨h1,h2⟩=>⟨h1,?_,by rw [h2];rfl⟩
   ·unfold HS.Ob.xOver
    simp only [hn.hide,hg];have hl:ce.l.length=n:=by rw [hce,h.1,qs3]
    have c1:(Nat.ble H.lo j && (Nat.beq n n && (Nat.beq e e && (Nat.beq 1 1 && (Nat.beq ce.len n && (Nat.ble n 9223372036854775807 && ce.l.all p))))))=true:=by
     rw [Ce.len_l,hl,hce,hp,qe (by omega:H.lo<=j),qe hm,show Nat.beq n n=true from qt2 n,show Nat.beq e e=true from qt2 e]
     rfl
    rw [c1]
   ·subst h2
    exact (HP.put H j .defd).mono fun i _ hi e=>by subst e;exact hi _ _ _ _ rfl
theorem u8_isB (l:List Nat):(u8L l).all HS.Ob.isB=true:=qb1.2 fun y hy=>by obtain ⟨x,_,rfl⟩:=qy2.1 hy;rfl
theorem zwb1 {H:AH}[hn:HN H]{v:AV}{n N:Nat}{l:List Nat}(h:OwnS H v n 5 1 (u8L l) N) (hlo:H.lo<=N) (hm:n<=9223372036854775807):FnE lookM 14 [v] H fun r H'=>r= .tup []/\HP (blkNe v) H H'/\H'.next=H.next :=
 over_x (show lookM.ext 14=some (HS.Ob.xOver 5 HS.Ob.isB true) from rfl) h (u8_isB l) hlo hm (.inl rfl)
theorem zsu {rs:List Rc}{q:Nat}(hq:q<rs.length):hasB (get rs q).nm rs=true:=by
 refine qk (Nat.lt_of_not_le fun h=> ?_)
 have:=zst (fun r=>decide (r.nm≠(get rs q).nm)) (qz hq h) (get_lt hq)
 simp at this
theorem zsg1 {s w:Ms}(h:Like s w) (nm:ByteArray):blkM s nm=blkM w nm:=by
 unfold blkM recO;rw [← h.t];cases a1:hasB nm s.t.rs with
 |false=>rfl
 |true =>
  rw [qi rfl,qi rfl,qi rfl];rw [h.b _ (zza a1).1]
theorem nm_isT {t:Tb}(h:Bd t):(nmL t.rs).all HS.Ob.isT=true:=qb1.2 fun y hy=>by
 obtain ⟨x,hx,rfl⟩:=qy2.1 hy;exact qe (by have:=h.nm x hx;omega)
set_option maxHeartbeats 32000000 in
theorem ztg1 {H:AH}[hn:HN H]{N b mb bw:Nat}{s w:Ms}{iv qv:AV}{n:Nat}(hm:Mx H N b mb s) (hw:Wx H N bw w iv qv n) (hl:Like s w) (hg:Gd s.t) (hn1:n<=1000) :
  FnE lookM 15 [.ptr b 0,.ptr bw 0] H fun r H'=>r= .bool true/\HX H H':=by
 obtain ⟨_,_,v,lv,hM⟩:=hm;obtain ⟨v2,lv2,l2,kv,hW,_,hkl⟩:=hw;have hd:=gd_bd hg;have hd2:Bd w.t:=by rw [← hl.t];exact hd
 have hsz2:=(zdk1 hl).2;refine fI Tryz.f15 ?_;have hlo:=hn.lo;refine uT0 ?_;refine cR_f (ztb1 hM hd) ?_;rintro r1 H1 ⟨ho1,hx1,hz1⟩;haveI:=hx1.hn;have hn1':=hx1.next;have hlo1:H1.lo=H.lo:=hx1.lo;have hlen:=hd.len;have hlw:l2.length=s.t.rs.length:=by rw [hW.tb.len,← hl.t]
 have hbw:=(hW.hx hx1).box;have hl1:∀H',fstO (zda .len lookM [29] [r1] H')=some (.int .i64 s.t.rs.length):=fun H'=>ztc (H':=H') uTs ho1.slZ.is
 have hl2:∀H',fstO (zda .len lookM [49] [v2] H')=some (.int .i64 s.t.rs.length):=fun H'=>by have:=ztc (H':=H') uRs hW.tb.rd.sl.is;rwa [hlw] at this
 have d0:decide ((s.t.rs.length:Int)=(s.t.rs.length:Int))=true:=qk rfl;have F:=J5 @hbw @wd_1 @hl1 @hl2 @d0;refine uT ?_;refine rc_l (fun m T H'=> ∃q,m+q=s.t.rs.length/\HX H1 H'/\gT T 0= .ptr b 0/\gT T 1= .ptr bw 0/\gT T 5=r1/\gT T 6= .int .i64 q) s.t.rs.length ?_ ?_
 ·exact ⟨0,rfl,HX.refl _,vT0,vT0,vT0,by refine uT0 ?_;rfl⟩
 rintro m T H2 ⟨q,hmq,hx2,t0,t1,t5,t6⟩;have hx02:=hx1.trans hx2;haveI:=hx02.hn;have hlo2:H2.lo=H.lo:=hx02.lo;have hn2:=hx2.next;cases m with
 |zero =>
  have d1:decide ((q:Int)<(s.t.rs.length:Int))=false:=qq oM
  have F:=J6 @t0 @t1 @t5 @t6 @hl1 @d1;refine uT ?_;refine cR_f (over_x (show lookM.ext 45=some (HS.Ob.xOver 9 HS.Ob.isT false) from rfl) (ho1.hx hx2) (nm_isT hd) oM oM (.inr ?_)) ?_
  ·intro j o c e
   rcases ho1.2 with ⟨h0,_⟩|⟨j2,op2,h0,_⟩
   ·rw [h0] at e;cases e
   ·rw [hz1 (by rw [h0] at e;injection e with _ _ e3)] at e;cases e
  rintro r3 H3 ⟨rfl,hp3,hn3⟩;refine uT0 ?_;refine HX.hp2 hx02 hp3 fun i hi=> ?_
  rcases ho1.2 with ⟨h0,_⟩|⟨j2,op2,h0,_,hj2,_⟩
  ·rw [h0];exact zfa _
  ·rw [h0];exact zga oM
 |succ m =>
  have hq:q<s.t.rs.length:=oM
  have d1:decide ((q:Int)<(s.t.rs.length:Int))=true:=qk oM
  have hM2:=hM.hx hx02;have hW2:=hW.hx hx02;have hix:=ix44 (z:=1) (q:=q) ho1.slZ.is hq;have hx:(nmL s.t.rs)[q]? =some (.str (get s.t.rs q).nm):=by rw [qh1,get_lt hq];rfl
  have hld:=zrw (ho1.hx hx2).slZ hq hx;have hbw2:=hW2.box;have hiy:=ix44 (z:=44) (q:=q) hW2.tb.rd.sl.is (by rw [hlw];exact hq)
  have hfa:=fa_el hW2.tb.rd.sl.is (by rw [hlw];exact hq) 44 1
  obtain ⟨p,hp,hpe,_⟩:=(hW2.db hd2).at (k:=q) (by rw [← hl.t];exact hq)
  have hle:ld1 (elB 44 v2 q 1) H2=some (.str (get s.t.rs q).nm):=by
   have:=hW2.tb.rd.sl.fld (j:=1) (x:=.str p.2.nm) hp rfl;rw [hpe,← hl.t] at this;exact this
  have hhas:=zsu hq;generalize (get s.t.rs q).nm=nm at *
  have d2:decide (nm=nm)=true:=qk rfl;have F:=J15 @t0 @t1 @t5 @t6 @hl1 @d1 @hix @hld @hbw2 @wd_1 @hiy @hfa @hle @ztd @d2;refine uT ?_;refine cR_f (zqu (nm:=nm) hM2 hd hl.sz) ?_;rintro r3 H3 ⟨⟨a,rfl,ha⟩,hx3⟩;have hx03:=hx02.trans hx3;haveI:=hx03.hn;have hld3:=zrw ((ho1.hx hx2).hx hx3).slZ hq hx;rw [hhas];have F:=J5 @t1 @t5 @t6 @hix @hld3;refine uT ?_;refine cR_f (zub1 (nm:=nm) (hW.hx hx03) hd2 oM hsz2) ?_
  rintro r4 H4 ⟨⟨a4,rfl,ha4⟩,hx4⟩;have hx04:=hx03.trans hx4;haveI:=hx04.hn;have hlo4:H4.lo=H.lo:=hx04.lo;have hn3:=hx3.next;have hn4:=hx4.next;rw [← zsg1 hl nm] at ha4;refine uT0 ?_;refine cR_f (zor (.inl (ha.hx hx4).slZ) (.inl ha4.slZ)) ?_;rintro r5 H5 ⟨rfl,rfl⟩;refine uT0 ?_;have hbl:(blkM s nm).length<=16384:=by
   have:=(hM.mp.ok (recO s.t nm).id).len;unfold blkM;rw [qi hhas];unfold someB;rw [qa1,qb2];omega
  refine cR_f (zwb1 (ha.hx hx4) (by have:=hx02.next;omega) oM) ?_
  rintro r6 H6 ⟨rfl,hp6,hn6⟩;have F:=J4 @t0 @t1 @t5 @t6;refine uT ?_;refine ⟨m,oM,q+1,oM,HX.hp2 (hx2.trans (hx3.trans hx4)) hp6 fun i hi=> ?_,by push_cast;rfl⟩
  rcases ha.2 with ⟨h0,_⟩|⟨j2,op2,h0,_,hj2,_⟩
  ·rw [h0];exact zfa _
  ·rw [h0];exact zga oM
theorem Mx.byB {H H':AH}{N b mb n M:Nat}{s:Ms}{u:AV}{cs:List AV}(h:Mx H N b mb s) (ho:OwnS H u n 5 1 cs M) (hp:HP (blkNe u) H H'):Mx H' N b mb s:=by
 obtain ⟨h1,h2,v,lv,h3⟩:=h;rcases ho.2 with ⟨rfl,_⟩|⟨j,op,rfl,⟨cc,g,_⟩,_⟩
 ·exact ⟨h1,h2,v,lv,h3.fr hp (zfa _) (zfa _) (fun _ _ _ _ _ _=>zfa _) fun _ _ _=>zfa _⟩
 ·refine ⟨h1,h2,v,lv,h3.fr hp (zga fun e=> ?_) (zga fun e=> ?_) (fun i cc' e' op' ro' hg=>zga fun e=> ?_) fun i op' hr=>zga fun e=> ?_⟩
  ·subst e;rw [h3.box] at g;cases g
  ·subst e
   obtain ⟨_,es,c,kv,gm,_⟩:=h3.mp;rw [gm] at g;cases g
  ·subst e;rw [hg] at g;cases g
  ·subst e
   obtain ⟨c2,g2,_⟩:=hr;rw [g2] at g;cases g
theorem Wx.byB {H H':AH}{N b n m M:Nat}{s:Ms}{iv qv u:AV}{cs:List AV}(h:Wx H N b s iv qv n) (ho:OwnS H u m 5 1 cs M) (hp:HP (blkNe u) H H'):Wx H' N b s iv qv n:=by
 obtain ⟨v,lv,l,kv,h3,h4⟩:=h;refine ⟨v,lv,l,kv,?_,h4⟩;rcases ho.2 with ⟨rfl,_⟩|⟨j,op,rfl,⟨cc,g,_⟩,_⟩
 ·exact h3.fr hp (zfa _) (fun _ _ _ _ _ _=>zfa _) (fun _ _ _ _ _ _=>zfa _) (fun _ _ _=>zfa _) (fun _ _ _ _ _ _=>zfa _) fun _ _ _ _ _ _=>zfa _
 ·refine h3.fr hp (zga fun e=> ?_) (fun i cc' e' op' ro' hg=>zga fun e=> ?_) (fun i cc' e' op' ro' hg=>zga fun e=> ?_) (fun i op' hr=>zga fun e=> ?_) (fun i o n c op' e'=>zga fun e=> ?_) fun i o n c op' e'=>zga fun e=> ?_
  ·subst e;rw [h3.box] at g;cases g
  ·subst e;rw [hg] at g;cases g
  ·subst e;rw [hg] at g;cases g
  ·subst e
   obtain ⟨c2,g2,_⟩:=hr;rw [g2] at g;cases g
  ·subst e
   rcases h3.ids.2 with ⟨e3,_⟩|⟨i2,op2,e3,⟨c2,g2,_⟩,_⟩
   ·rw [e3] at e';cases e'
   ·rw [e3] at e';cases e'
    rw [g2] at g;cases g
  ·subst e
   obtain ⟨_,_,_,_,g2⟩:=h3.bs.blk e';rw [g2] at g;cases g
theorem mnew_y {H:AH}[hn:HN H]{N:Nat}(hN:N<=H.next):FnE lookM 5 [] H fun r H'=>(∃b mb,r= .ptr b 0/\H.next<=b/\H.next<=mb/\Mx H' N b mb M0)/\HX H H' :=
 mnew_ok.mono fun r H' ⟨⟨b,mb,v,lv,h1,h2,h3,h4⟩,h5⟩=>⟨⟨b,mb,h1,h2,h3,oM,oM,v,lv,h4⟩,h5⟩
theorem wnew_y {H:AH}[hn:HN H]{N:Nat}(hN:N<=H.next):FnE lookM 6 [] H fun r H'=>(∃b,r= .ptr b 0/\H.next<=b/\Wx H' N b M0 .nilSl .nilSl 0)/\HX H H' :=
 wnew_ok.mono fun r H' ⟨⟨b,lv,h1,h2,h3⟩,h5⟩=>⟨⟨b,h1,h2,.nilSl,lv, [], [],⟨h3.lt,oM,h3.box,h3.tb,OwnS.le h3.ids hN,h3.bs.le hN,h3.f,h3.ok,h3.nd⟩,fun _=>.inl rfl,qn _⟩,h5⟩
theorem mrep_y {H:AH}[hn:HN H]{N b mb:Nat}{s w:Ms}{o:Od}{ov bv:AV}(h:Mx H N b mb s) (hl:Like s w) (hg:Gd s.t) (hN:H.lo<=N) (ho:OdIn H o ov bv) (hb:ByS H bv o.b) :
  FnE lookM 10 [.ptr b 0,odA o ov bv] H fun r H'=> ∃rp,r= .tup [rp,.bool (zhc true s o).2.1]/\RpR H' rp (zhc true s o).1 H.next/\Mx H' N b mb (zhc true s o).2.2/\HP (fun i=>i≠b/\i≠mb) H H':=by
 obtain ⟨h1,h2,v,lv,h3⟩:=h;exact (zfp1 h3 (gd_bd hg) oM oM ho hb hl.sz fun r hr=>by have:=(hg.all r hr).2;omega).mono fun r H' ⟨rp,e,hr,⟨v',lv',hm⟩,hp⟩=>⟨rp,e,hr,⟨h1,h2,v',lv',hm⟩,hp⟩
theorem wrep_y {H:AH}[hn:HN H]{N b:Nat}{s w:Ms}{iv qv:AV}{n:Nat}{o:Od}{ov bv:AV}(h:Wx H N b w iv qv n) (hl:Like s w) (hg:Gd w.t) (hN:H.lo<=N) (hn1:n<=998) (ho:OdIn H o ov bv) (hb:ByS H bv o.b) :
  FnE lookM 11 [.ptr b 0,odA o ov bv] H fun r H'=> ∃rp iv2 qv2,r= .tup [rp,.bool (zhc false w o).2.1]/\RpR H' rp (zhc false w o).1 H.next/\Wx H' N b (zhc false w o).2.2 iv2 qv2 (n+1)/\KpR H H' b iv qv iv2 qv2:=by
 obtain ⟨v,lv,l,kv,h3,h4,h5⟩:=h;refine (zrg1 h3 (h4 oM) (gd_bd hg) hN oM ho hb (zdk1 hl).2 fun r hr=>by have:=(hg.all r hr).2;omega).mono fun r H' hh=> ?_
 obtain ⟨rp,e,hr,v',lv',iv2,qv2,l',kv',hw,hq,hlen,hk⟩:=hh;exact ⟨rp,iv2,qv2,e,hr,⟨v',lv',l',kv',hw,fun _=>hq,oM⟩,hk⟩
theorem zek1 {H:AH}{v:AV}{l:List ByteArray}{e N:Nat}(h:OwnS H v l.length e 1 (l.map AV.str) N):SlT H v l:=by
 refine ⟨zbm h.slZ.is,fun _=>⟨h.slZ.is,fun k hk=> ?_⟩⟩
 refine zrw h.slZ hk ?_;rw [qh1,qo hk];rfl
theorem OwnS.fr {H H':AH}{u:AV}{n e M:Nat}{cs:List AV}{p:Nat->Prop}(ho:OwnS H u n e 1 cs M) (hp:HP p H H') (h:∀j,M<=j->j<H.next->p j):OwnS H' u n e 1 cs M:=ho.hq hp fun j o n' c op e'=>by
 rcases ho.2 with ⟨h0,_⟩|⟨j2,op2,h0,_,h1,h2,_⟩
 ·rw [h0] at e';cases e'
 ·rw [h0] at e';cases e';exact h _ h1 h2
theorem zqr {H:AH}{N b mb:Nat}{s:Ms}(h:Mx H N b mb s){j:Nat}(hj:H.next<=j):j≠b/\j≠mb:=by
 obtain ⟨_,_,v,lv,h3⟩:=h;have h1:=h3.lt;have h2:=h3.mp.1;exact ⟨oM,oM⟩
theorem zug1 {H:AH}{u:AV}{n e M:Nat}{cs:List AV}(ho:OwnS H u n e 1 cs M){j:Nat}(hj:j<M):blkNe u j:=by
 rcases ho.2 with ⟨rfl,_⟩|⟨j2,op2,rfl,_,h1,_⟩
 ·exact zfa _
 ·exact zga oM
theorem zlp1 (s:ByteArray) (l:List Rc):l.any (fun r=>decide (r.nm=s))=hasB s l:=by
 cases h:hasB s l with
 |true =>
  obtain ⟨h1,h2⟩:=zza h;refine qw3.2 ⟨get l (fndI s l),zuk h1,?_⟩;rw [h2];exact qk rfl
 |false =>
  refine qf3.2 fun h1=> ?_
  obtain ⟨r,hr,he⟩:=qw3.1 h1;obtain ⟨q,hq⟩:=qy.1 hr;have hq1:=(qp.1 hq).1;have:=zsu hq1;have hg:get l q=r:=by
   have:=get_lt hq1;rw [hq] at this;exact (ql3 this).symm
  rw [hg,qg he,h] at this;cases this
theorem rep_len {s:Ms}(o:Od) (hb:∀k,(s.b k).length=16384):(zhc true s o).1.n.length<=1/\(zhc true s o).1.b.length<=16384:=by
 have h0:∀e,(er e).n.length<=1/\(er e).b.length<=16384:=fun e=>⟨qo2 _,qo2 _⟩
 unfold zhc;split
 ·split
  ·unfold zyd;split<;>exact h0 _
  ·split
   ·exact ⟨qn _,qo2 _⟩
   ·split
    ·unfold asksM
     split
     ·exact h0 _
     ·split
      ·exact h0 _
      ·simp only
       split
       ·split
        ·exact h0 _
        ·refine ⟨qo2 _,?_⟩
         show (someB _ _ _).length<=_
         have:=hb (recO s.t o.nm).id;unfold someB;rw [qa1,qb2];omega
       ·split
        ·exact ⟨qn _,qo2 _⟩
        ·unfold zlf
         simp only
         repeat' split
         all_goals exact h0 _
    ·exact h0 _
 ·exact h0 _
theorem mx_len {H:AH}{N b mb:Nat}{s:Ms}(h:Mx H N b mb s) (k:Int):(s.b k).length=16384:=by
 obtain ⟨_,_,v,lv,h3⟩:=h;exact (h3.mp.ok k).len
structure LvS (H0 H:AH) (b mb bw:Nat) (s w:Ms) (iw qw:AV) (q:Nat):Prop where
 hx:HX H0 H
 mo:Mx H H0.next b mb s
 wo:Wx H H0.next bw w iw qw q
 lm:Like s w
 gm:Gd s.t
theorem LvS.to {H0 H H':AH}{b mb bw:Nat}{s w:Ms}{iw qw:AV}{q:Nat}(h:LvS H0 H b mb bw s w iw qw q) (hx:HX H H'):LvS H0 H' b mb bw s w iw qw q:=⟨h.hx.trans hx,h.mo.hx hx,h.wo.hx hx,h.lm,h.gm⟩
theorem cRT_at {w:Bool}{L:Lk}{f:Nat}{args:List AV}{H:AH}{d:Nat}{k:K2}{s:List Kf}{T:Tr AV}{Q:PostC}(P:Tr AV->Prop) (hp:P T) (hk:∀T,P T->cR w L f args H d k s T Q):cR w L f args H d k s T Q:=hk T hp
theorem uOz:lookM.under 22=some (.slice 32):=kR
theorem nbz (xo yo:Operand) (a:Bool):binF .neq (evBin lookM .neq 4 xo yo) (.bool a) (.bool a)=some (.bool false):=by
 rw [zlm1 kR]
 simp
theorem ebz (xo yo:Operand) (a:Bool):binF .eql (evBin lookM .eql 4 xo yo) (.bool a) (.bool a)=some (.bool true):=by
 rw [zmm1 kR]
 simp
abbrev zz:ByteArray:=⟨#[122,122]⟩
set_option maxHeartbeats 64000000 in
theorem lawE_ok {H:AH}[hn:HN H]{v:AV}{l:List Ot}(hl:OdX H v l) (hz:∀p,p∈l->SvZ H p.2.1 p.1.l.length (p.1.l.map AV.str)/\SvZ H p.2.2 p.1.b.length (u8L p.1.b)) (hm:l.length<=9223372036854775807) :
  FnE lookM 3 [v] H fun r H'=>r= .bool true:=by
 refine fI Tryz.f3 ?_;have hlo:=hn.lo;have hlen:=fun H'=>ztc (H':=H') uOz hl.sl.is
 refine uT0 ?_;refine cR_f (mnew_y (N:=H.next) (qn _)) ?_;rintro r1 H1 ⟨⟨b,mb,rfl,hb,hmb,m1⟩,hx1⟩;haveI:=hx1.hn;have hn1:=hx1.next;refine uT0 ?_;refine cR_f (wnew_y (N:=H.next) oM) ?_
 rintro r2 H2 ⟨⟨bw,rfl,hbw,w1⟩,hx2⟩;have hx02:=hx1.trans hx2;haveI:=hx02.hn;have m1:=m1.hx hx2;have F:=@nil23;refine uT ?_;clear F;refine cR_f (zvo1 (hl.hx hx02).sl hm) ?_;rintro r3 H3 ⟨rfl,hx3⟩;have hx03:=hx02.trans hx3;haveI:=hx03.hn;cases a1:longL l with
 |true =>
  refine uT0 ?_;refine cR_f zpr ?_;rintro r6 H6 ⟨rfl,rfl⟩;exact vT0
 |false =>
 obtain ⟨hl30,hlp⟩:=longL_f a1;refine uT0 ?_;have start:LvS H H3 b mb bw M0 M0 .nilSl .nilSl 0:=⟨hx03,m1.hx hx3,w1.hx hx3,like0,gd0⟩;refine rc_l (fun n T H'=> ∃q s w iw qw,n+q=l.length/\LvS H H' b mb bw s w iw qw q/\gT T 0=v/\gT T 3= .ptr b 0/\gT T 4= .ptr bw 0/\gT T 5= .int .i64 q) l.length ?_ ?_
 ·exact ⟨0,M0,M0,.nilSl,.nilSl,rfl,start,vT0,vT0,vT0,by refine uT0 ?_;rfl⟩
 clear start w1 m1 hx1 hx2 hx3 hx02 hx03 hn1 hb hmb hbw;rintro n T H1 ⟨q,s,w,iw,qw,hnq,hL,t0,t3,t4,t5⟩;haveI:=hL.hx.hn;have hlo1:H1.lo=H.lo:=hL.hx.lo;have hn1:=hL.hx.next;cases n with
 |zero =>
  have d1:decide ((q:Int)<(l.length:Int))=false:=qq oM
  obtain ⟨_,_,vv,lv,hM⟩:=hL.mo;have hd:=gd_bd hL.gm;have hle:=hd.len;have F:=J5 @t0 @t3 @t5 @hlen @d1;refine uT ?_;clear F;refine cR_f (zqu (nm:=zz) hM hd hL.lm.sz) ?_;rintro r2 H2 ⟨⟨x,rfl,hx⟩,hx2⟩;have hx02:=hL.hx.trans hx2;haveI:=hx02.hn;have F:=@t3;refine uT ?_;clear F;refine cR_f (ztb1 (hM.hx hx2) hd) ?_;rintro r3 H3 ⟨ho3,hx3,_⟩;have hx03:=hx02.trans hx3;haveI:=hx03.hn;have hl3:∀H',fstO (zda .len lookM [29] [r3] H')=some (.int .i64 s.t.rs.length):=fun H'=>ztc (H':=H') uTs ho3.slZ.is
  have hlx:∀H',fstO (zda .len lookM [30] [x] H')=some (.int .i64 (blkM s zz).length):=fun H'=>ztc (H':=H') u30 hx.slZ.is
  refine uT0 ?_;refine rc_l (fun m T H'=> ∃q,m+q=s.t.rs.length/\H'=H3/\gT T 11=x/\gT T 12= .bool (hasB zz s.t.rs)/\gT T 13=r3/\gT T 14= .bool ((s.t.rs.take q).any fun r=>decide (r.nm=zz))/\gT T 15= .int .i64 q) s.t.rs.length ?_ ?_
  ·exact ⟨0,rfl,rfl,vT0,vT0,vT0,by refine uT0 ?_;rfl,by refine uT0 ?_;rfl⟩
  clear t0 t3 t4 t5;rintro m T H4 ⟨q,hmq,rfl,t11,t12,t13,t14,t15⟩;cases m with
  |zero =>
   have d2:decide ((q:Int)<(s.t.rs.length:Int))=false:=qq oM
   rw [qx oM,zlp1] at t14
   cases a2:hasB zz s.t.rs with
   |true =>
    rw [a2] at t12 t14;have F:=J8 @t11 @t12 @t13 @t14 @t15 @hl3 @d2 @ebz;refine uT ?_;clear F;refine cR_f zpr ?_;rintro r6 H6 ⟨rfl,rfl⟩;exact vT0
   |false =>
    rw [a2] at t12 t14;have hb0:blkM s zz= []:=by unfold blkM;rw [a2];rfl
    rw [hb0] at hlx;have d3:decide (((0:Nat):Int)=0)=true:=dC
    simp (maxSteps:=1000000) (disch:=first|assumption|omega|rfl|(simp only [nx];omega)|(simp only [lens]<;>omega)) only [rq,rq2,zoi,lsE_s,qa2,qr1,Nat.reduceEqDiff,Nat.reduceAdd,reduceIte,reduceCtorEq,ne_eq,qf1,qc1,qs2,qm2,t11,t12,t13,t14,t15,hl3,d2,ebz,hlx,qt5,d3]
    refine cR_f zpr ?_;rintro r6 H6 ⟨rfl,rfl⟩;exact vT0
  |succ m =>
   have hq:q<s.t.rs.length:=oM
   have d2:decide ((q:Int)<(s.t.rs.length:Int))=true:=qk oM
   have hix:=ix44 (z:=1) (q:=q) ho3.slZ.is hq;have hxq:(nmL s.t.rs)[q]? =some (.str (get s.t.rs q).nm):=by rw [qh1,get_lt hq];rfl
   have hld:=zrw ho3.slZ hq hxq;have hta:(s.t.rs.take (q+1)).any (fun r=>decide (r.nm=zz))=((s.t.rs.take q).any (fun r=>decide (r.nm=zz)) || decide ((get s.t.rs q).nm=zz)):=zyh (get_lt hq)
   cases a2:(s.t.rs.take q).any fun r=>decide (r.nm=zz) with
   |true =>
    rw [a2] at t14 hta;have F:=J7 @t11 @t12 @t13 @t14 @t15 @hl3 @d2;refine uT ?_;clear F;exact ⟨m,oM,q+1,oM,by rw [hta];rfl,by push_cast;rfl⟩
   |false =>
    rw [a2] at t14 hta;have F:=J10 @t11 @t12 @t13 @t14 @t15 @hl3 @d2 @hix @hld @zte;refine uT ?_;clear F;exact ⟨m,oM,q+1,oM,by rw [hta];rfl,by push_cast;rfl⟩
 |succ n =>
 have hq:q<l.length:=oM
 have d1:decide ((q:Int)<(l.length:Int))=true:=qk oM
 have hp:l[q]? =some l[q]:=qo hq;have hmem:l[q]∈l:=qy.2 ⟨q,hp⟩;have hpl:=hlp _ hmem;have hz1:=hz _ hmem;generalize l[q]=p at *
 have odin:∀H',HX H H'->OdIn H' p.1 p.2.1 p.2.2/\ByS H' p.2.2 p.1.b:=fun H' hx' =>
  ⟨⟨((hl.hx hx').sl.at hp).l,((hl.hx hx').sl.at hp).b,oM,oM⟩,(hl.hx hx').by_ _ hmem⟩
 have hix:=ix44 (z:=7) (q:=q) hl.sl.is hq;have hld:∀H',HX H H'->ldN 7 (elA 7 v q) H'=some (odA p.1 p.2.1 p.2.2):=fun H' hx'=>(hl.hx hx').sl.agg hp
 have hld1:=hld _ hL.hx;have F:=J6 @t0 @t5 @hlen @d1 @hix @hld1;refine uT ?_;clear F;refine cR_f (zmg1 (hz1.1.hx hL.hx) (hz1.2.hx hL.hx) (odin _ hL.hx).2 oM oM) ?_
 rintro r2 H2 ⟨⟨lw,bv,rfl,oL2,oB2,oY2⟩,hx2⟩;have hL2:=hL.to hx2;haveI:=hL2.hx.hn;have hlo2:H2.lo=H.lo:=hL2.hx.lo;have hn2:=hx2.next;have o2l:=(OwnS.one oL2).1;have o2b:=(OwnS.one oB2).1;have hw7:∀i e op H5,wrN (some (.cells (.lst (odL od00 .nilSl .nilSl)) e 7 op false)) i 0 7 (.lst (odL p.1 lw bv)) H5=some (H5.put i (.cells (.lst (odL p.1 lw bv)) e 7 op false)):=fun i e op H5=>wrN_l rfl rfl (zjg1 o2l o2b)
 have F:=J5 @t3 @zxj1 @zke @hw7 @zuf;refine uT ?_;clear F;refine cR_at (fun H3=>HX H2 H3/\H3.next=H2.next+1/\H3.get H2.next=some (odx p.1 lw bv)) ⟨hxt,rfl,zia _ _⟩ ?_
 rintro H3 ⟨hx3,hn3,g3⟩;have hL3:=hL2.to hx3;haveI:=hL3.hx.hn;have hlo3:H3.lo=H.lo:=hL3.hx.lo;refine cR_f (mrep_y hL3.mo hL3.lm hL3.gm oM ⟨zek1 (oL2.hx hx3),(oY2.hx hx3).len,oM,oM⟩ (oY2.hx hx3)) ?_
 rintro r4 H4 ⟨rp,rfl,hr4,m4,hp4⟩;haveI:HN H4:=hp4.hn;have hx4:HX H H4:=HX.hp2 hL3.hx hp4 fun j hj=>by
  obtain ⟨h1,h2,_⟩:=hL3.mo;exact ⟨oM,oM⟩
 have hlo4:H4.lo=H.lo:=hx4.lo;have hn4:=hp4.next;have w4:=hL3.wo.byM hL3.mo hp4;have g4:H4.get H2.next=some (odx p.1 lw bv):=(hp4.get (i:=H2.next) oM (zqr hL2.mo (qn _))).trans g3
 have oB4:=OwnS.fr (oB2.hx hx3) hp4 fun j hj _=>zqr hL.mo hj
 have oL4:=OwnS.fr (oL2.hx hx3) hp4 fun j hj _=>zqr hL.mo hj
 have hlr:=zrz hL.lm p.1;have hsz:ordOk p.1=true->p.1.nm.size<=48/\p.1.to.size<=48:=fun hok=>⟨longB_f.1 ((zxk p.1).1 hok).nm,longB_f.1 ((zxk p.1).1 hok).to⟩
 have hgr:=zjp1 hL.gm true hsz;have hrl:=rep_len p.1 (mx_len hL.mo);obtain ⟨nv,av,rfl,z4,b4,hne4⟩:=hr4;have o4n:=zpc z4.is;have o4b:=(OwnS.one b4).1;have hx5:HX H4 ((H4.new (rpx 0 .nilSl .nilSl)).put H4.next (rpx (zhc true s p.1).1.err nv av)):=HX.putN (HX.refl _) _ _;have hld5:=hld _ (hx4.trans hx5);have g5:((H4.new (rpx 0 .nilSl .nilSl)).put H4.next (rpx (zhc true s p.1).1.err nv av)).get H4.next=some (rpx (zhc true s p.1).1.err nv av):=zia _ _;have hn5:((H4.new (rpx 0 .nilSl .nilSl)).put H4.next (rpx (zhc true s p.1).1.err nv av)).next=H4.next+1:=rfl;have F:=J9 @t0 @t4 @t5 @zdb @rp_w @o4n @o4b @hix @hld5;refine uT ?_;clear F
 generalize (H4.new (rpx 0 .nilSl .nilSl)).put H4.next (rpx (zhc true s p.1).1.err nv av)=H5 at *
 haveI:=(hx4.trans hx5).hn;have hlo5:H5.lo=H.lo:=(hx4.trans hx5).lo;have w5:=w4.hx hx5;refine cR_f (wrep_y w5 hL.lm (by rw [← hL.lm.t];exact hL.gm) oM oM (odin _ (hx4.trans hx5)).1 (odin _ (hx4.trans hx5)).2) ?_
 rintro r6 H6 ⟨rq,iw2,qw2,rfl,hr6,w6,hk6⟩;haveI:HN H6:=hk6.hp.hn;have hx6:HX H H6:=HX.hp2 (hx4.trans hx5) hk6.hp fun j hj=>wx_low w5 hj
 have hlo6:H6.lo=H.lo:=hx6.lo;have hn6:=hk6.hp.next;have m6:=(m4.hx hx5).byW w5 hk6.hp;have fr6:∀j,H1.next<=j->j≠bw/\blkNe iw j/\blkNe qw j:=fun j hj=>zkp1 hL.wo hj
 have g6:H6.get H4.next=some (rpx (zhc true s p.1).1.err nv av):=(hk6.hp.get (i:=H4.next) oM (fr6 _ oM)).trans g5
 have g6o:H6.get H2.next=some (odx p.1 lw bv):=(hk6.hp.get (i:=H2.next) oM (fr6 _ oM)).trans ((hx5.get oM).trans g4)
 have nv6:=(z4.hx hx5).hp hk6.hp fun i o c op e=>fr6 i (by
  rcases qi2 i H3.next with hlt|hge
  ·exact absurd e ((hne4 i hlt).1 _ _ _ _)
  ·omega)
 have av6:=OwnS.fr (b4.hx hx5) hk6.hp fun j hj _=>fr6 j oM
 have oB6:=OwnS.fr (oB4.hx hx5) hk6.hp fun j hj _=>fr6 j hj
 have oL6:=OwnS.fr (oL4.hx hx5) hk6.hp fun j hj _=>fr6 j hj
 have hr4:RpR H6 (rpA (zhc true s p.1).1.err nv av) (zhc true s p.1).1 H3.next:=⟨nv,av,rfl,nv6,av6,hne4⟩;rw [← hlr.1] at hr6;rw [← hlr.2.1];obtain ⟨nv2,av2,rfl,z6,b6,hne6⟩:=id hr6;have o6n:=zpc z6.is;have o6b:=(OwnS.one b6).1;have e46:=hEq_f (oM:H4.next≠H6.next)
 have F:=J7 @zdb @rp_w @o6n @o6b @e46 @g6 @zlb;refine uT ?_;clear F;refine cRT_at (fun T=>gT T 0=v/\gT T 3= .ptr b 0/\gT T 4= .ptr bw 0/\gT T 5= .int .i64 q/\gT T 6= .ptr H2.next 0/\gT T 7= .ptr H4.next 0/\gT T 8= .bool (zhc true s p.1).2.1/\gT T 10= .bool (zhc true s p.1).2.1) ?_ ?_
 ·refine ⟨?_,?_,?_,?_,?_,?_,?_,?_⟩<;>(have F:=J4 @t0 @t3 @t4 @t5;exact vT)
 clear t0 t3 t4 t5;rintro T ⟨t0,t3,t4,t5,t6,t7,t8,t10⟩;refine cR_at (fun H7=>HX H6 H7) (HX.putN (HX.refl _) _ _) ?_
 intro H7 hx7;have hx07:=hx6.trans hx7;haveI:=hx07.hn;refine cR_f (zkg1 (hr4.hx hx7) (hr6.hx hx7) oM) ?_
 rintro r8 H8 ⟨rfl,hx8⟩;have hx68:=hx7.trans hx8;have hx08:=hx6.trans hx68;haveI:=hx08.hn;have hn8:=hx68.next;have g8:=(hx68.get (i:=H4.next) oM).trans g6
 have g8o:=(hx68.get (i:=H2.next) oM).trans g6o
 have hld8:=hld _ hx08;have F:=J10 @t0 @t5 @t6 @t8 @t10 @nbz @g8o @zuf @hix @hld8;refine uT ?_;clear F;refine cR_f (zlg1 (zek1 (oL6.hx hx68)) (odin _ hx08).1.l (.inl (oB6.hx hx68).slZ) (hz1.2.hx hx08) oM) ?_
 rintro r9 H9 ⟨rfl,hx9⟩;have hx69:=hx68.trans hx9;have hx09:=hx6.trans hx69;haveI:=hx09.hn;have hlo9:H9.lo=H.lo:=hx09.lo;have hn9:=hx69.next;have g9:=(hx9.get (i:=H4.next) oM).trans g8
 have g9o:=(hx9.get (i:=H2.next) oM).trans g8o
 have av9:=av6.hx hx69;have bv9:=oB6.hx hx69;have F:=J3 @t7 @g9 @rp_2;refine uT ?_;clear F;refine cR_f (zwb1 av9 oM oM) ?_
 rintro r10 H10 ⟨rfl,hp10,hn10⟩;haveI:HN H10:=hp10.hn;have hlo10:H10.lo=H.lo:=hp10.lo.trans hlo9;have g10o:=(hp10.get (i:=H2.next) oM (zug1 av9 oM)).trans g9o
 have bv10:=bv9.hq hp10 fun j o n c op e=>zug1 av9 (by
  rcases oB2.2 with ⟨h0,_⟩|⟨j2,op2,h0,_,_,hj2,_⟩
  ·rw [h0] at e;cases e
  ·rw [h0] at e;cases e;omega)
 have F:=J3 @t6 @g10o @od_6;refine uT ?_;clear F;refine cR_f (zwb1 bv10 oM oM) ?_
 rintro r11 H11 ⟨rfl,hp11,hn11⟩;haveI:HN H11:=hp11.hn;have hx11:HX H H11:=HX.hp2 (HX.hp2 hx09 hp10 fun j hj=>zug1 av9 oM) hp11 fun j hj=>zug1 bv10 oM
 have m11:=((m6.hx hx69).byB av9 hp10).byB bv10 hp11;have w11:=((w6.hx hx69).byB av9 hp10).byB bv10 hp11;have F:=J2 @t3 @t4;refine uT ?_;clear F;refine cR_f (ztg1 m11 w11 hlr.2.2 hgr oM) ?_
 rintro r12 H12 ⟨rfl,hx12⟩;have hx012:=hx11.trans hx12;haveI:=hx012.hn;have F:=J4 @t0 @t3 @t4 @t5;refine uT ?_;clear F;exact ⟨n,oM,q+1,_,_,iw2,qw2,oM,⟨hx012,m11.hx hx12,w11.hx hx12,hlr.2.2,hgr⟩,by push_cast;rfl⟩
theorem zmp1 {w:World}{a:Addr}{v:Value}(h:w.cell? a=some v):a.spot=none/\ ∃cs e fz,w.heap[a.block]? =some (.cells cs e fz):=by
 refine ⟨World.cell?_spot h,?_⟩;unfold World.cell? at h;split at h
 ·next c e fz hb=>exact ⟨_,_,_,hb⟩
 ·cases h
section
variable {H:Type}{enc:TypeId×Value->H}{P:Program}{w:World}{base:Nat}{spare:Nat->Bool}{held:Bool}{n:Nat}{T:TypeId}{cs:List Value}{o:Nat}{y:DataW H×List MemPlace}
theorem ztu {c:Value}(h:(cs.drop o).take 1= [c]):cs[o]? =some c:=by
 have:((cs.drop o).take 1)[0]? =some c:=by rw [h];rfl
 rw [qf2 oM,qu2] at this
 simpa using this
theorem znp1 {k:IntKind}(hu:P.underlying T=some (.int k)) (h:DataW.trod enc P w base spare held n T ((cs.drop o).take 1)=some y):∃m,cs[o]? =some (.int k m):=by
 obtain ⟨m,hm,_⟩:=DataW.trod_int hu h;exact ⟨m,ztu hm⟩
theorem str_at (hu:P.underlying T=some .string) (h:DataW.trod enc P w base spare held n T ((cs.drop o).take 1)=some y):∃s,cs[o]? =some (.string s):=by
 obtain ⟨m,hm,_⟩:=DataW.trod_string hu h;exact ⟨m,ztu hm⟩
theorem zvg1 {fs:Array Field}{fuel:Nat}{x:DataW H×List MemPlace}(hu:P.underlying T=some (.struct fs)) (h:DataW.trod enc P w base spare held fuel T cs=some x) :
  ∃m,cs.length=P.cellsOf T/\ ∀(i:Nat) (f:Field),fs[i]? =some f-> ∃y,DataW.trod enc P w base spare held m f.type ((cs.drop f.offset).take (P.cellsOf f.type))=some y:=by
 obtain ⟨xs,m,_,_,hl,hlen,hg⟩:=DataW.trod_struct hu h;refine ⟨m,hl,fun i f hf=> ?_⟩
 have hi:i<xs.length:=by
  rw [hlen];exact (qq2.1 hf).1
 rw [hg i f hf];exact ⟨xs[i],qo hi⟩
def RowS (w:World) (c:Value) (p:Nat->Value->Prop) (len:Nat):Prop:=(c= .slice none 0 0/\len=0)\/ ∃a cap,c= .slice (some a) len cap/\len<=cap/\cap<=maxLen/\(0<cap->a.spot=none/\(∃cs e fz,w.heap[a.block]? =some (.cells cs e fz))/\ ∀i,i<len-> ∃v,w.cell? ⟨a.block,a.off+i,none⟩=some v/\p i v)
theorem zfk1 {e:TypeId}{p:Value->Prop}(hu:P.underlying T=some (.slice e)) (hce:P.cellsOf e=1) (hp:∀m cs x,DataW.trod enc P w base (fun _=>true) held m e cs=some x-> ∃v,cs= [v]/\p v)
  (h:DataW.trod enc P w base (fun _=>true) held n T ((cs.drop o).take 1)=some y):∃c len,cs[o]? =some c/\RowS w c (fun _=>p) len:=by
 rcases Go.Deep.open_slice hu h with ⟨hcs,_⟩|⟨a,len,cap,m,n',D,Pl,hcs,_,hl,hm,hmm,_,hx⟩
 ·exact ⟨_,0,ztu hcs,.inl ⟨rfl,rfl⟩⟩
 ·have hmm:m=cap:=by rw [hmm];rfl
  subst hmm;rw [hce] at hx;have cell:∀i,i<m-> ∃v,w.cell? (a.add i)=some v/\p v:=fun i hi=>by
   obtain ⟨cs',h1,h2⟩:=hx i hi;obtain ⟨v,rfl,hv⟩:=hp _ _ _ h2;obtain ⟨_,_,h4⟩:=World.cells?_some h1;have:=h4 0 dC
   rw [qs3] at this;exact ⟨v,this,hv⟩
  refine ⟨_,len,ztu hcs,.inr ⟨a,m,rfl,hl,hm,fun h0=> ?_⟩⟩
  obtain ⟨v0,hv0,_⟩:=cell 0 h0;have hb:a.add 0=a:=rfl;rw [hb] at hv0;obtain ⟨hsp,hblk⟩:=zmp1 hv0;refine ⟨hsp,hblk,fun i hi=> ?_⟩
  obtain ⟨v,hv,hp'⟩:=cell i oM
  rw [zar hsp] at hv;exact ⟨v,hv,hp'⟩
end
theorem zgk1 {a:Addr}:LenV (extSl a 0 0) 0:=by
 obtain ⟨k,o,he,hk⟩:=zkm (a:=a) (c:=0) (l:=0) dC
 have hb:Nat.ble 3 (k+3)=true:=by rw [Nat.ble_eq];omega
 have hs:Nat.sub (k+3) 3=k:=qc6 k 3;rw [he];refine ⟨fun {t e} ht H'=> ?_,rfl,rfl⟩
 show fstO (match evLen lookM t (.ext (k+3) a.block o) H' with|some v=>some (v,H')|none=>none)=_
 unfold evLen;rw [ht];simp only [hb,hs,hk];rfl
theorem ext_ne (a:Addr) (j:Nat):blkNe (extSl a 0 0) j:=fun o n c op e=>by
 obtain ⟨k,o',he,_⟩:=zkm (a:=a) (c:=0) (l:=0) dC
 rw [he] at e;cases e
theorem sv_ext (H:AH) (a:Addr):SvZ H (extSl a 0 0) 0 []:=by
 obtain ⟨k,o,he,hk⟩:=zkm (a:=a) (c:=0) (l:=0) dC
 refine .inr ⟨rfl,rfl,k+3,a.block,o,he,?_⟩;unfold emp;rw [show Nat.ble 3 (k+3)=true from qe oM,show Nat.sub (k+3) 3=k from qc6 k 3,hk]
 cases Nat.beq (k+3) 1 && Nat.ble 1 o<;>rfl
theorem arg_S (k:Nat){w:World}{c:Value}{len:Nat}(h:RowS w c (fun _ v=> ∃s,v= .string s) len):∃(ss:List ByteArray) (b:ABlk×EB) (v:AV),Arg w k c (fun H v=>SlT H v ss/\SvZ H v ss.length (ss.map AV.str)) b v:=by
 rcases h with ⟨rfl,rfl⟩|⟨a,cap,rfl,hl,hm,hc⟩
 ·exact ⟨[],_,_,zsh1 w k fun H=>⟨⟨zbm (H:=H) (.inl ⟨rfl,rfl⟩),fun h=>absurd h dC⟩,.inl (zrp H 1)⟩⟩
 ·rcases qh3 cap with h0|h0
  ·subst h0
   obtain rfl:len=0:=oM
   exact ⟨[],(.defd,⟨0,0,0⟩),extSl a 0 0,rfl,fun _ _=>trivial,fun E _=>zjo E a dC dC,fun bs _=>⟨⟨zgk1,fun h=>absurd h dC⟩,sv_ext (hA bs) a⟩⟩
  ·obtain ⟨hsp,hblk,hcell⟩:=hc h0
   let G:Nat->ByteArray:=fun i=>match w.cell? ⟨a.block,a.off+i,none⟩ with|some (.string s)=>s|_=>ByteArray.empty
   have hG:∀i,i<len->w.cell? ⟨a.block,a.off+i,none⟩=some (.string (G i)):=fun i hi=>by
    obtain ⟨v,h1,s,rfl⟩:=hcell i hi;show w.cell? ⟨a.block,a.off+i,none⟩=some (.string (match w.cell? ⟨a.block,a.off+i,none⟩ with|some (.string s)=>s|_=>ByteArray.empty))
    rw [h1]
   generalize G=G at hG;have hlen:((List.range len).map G).length=len:=by simp
   refine ⟨(List.range len).map G,_,_,arg_row k (e:=9) (z:=1) (l:=((List.range len).map G).map AV.str) hsp hblk (fun E j v hj=> ?_) (fun H hk hr=> ?_)⟩
   ·by_cases hjl:j<len
    ·rw [qh1,qh1,qm5 hjl] at hj
     cases hj
     exact hG j hjl
    ·rw [qk2 (by simp;omega)] at hj;cases hj
   ·have hs:SlR H (.sl k 0 len cap false) len fun i=>.str ((((List.range len).map G)[i]?).getD ⟨#[]⟩):=hr.slR hk (qo2 _) fun i hi=>by
     rw [qy1,qh1,qh1,qm5 hi];rfl
    refine ⟨⟨?_,fun _=> ?_⟩,.inl (hr.slZ (n:=((List.range len).map G).length) (z:=1) (c:=cap) (op':=false) hk (by rw [qm3,qs3]) |> fun h=>by rw [hlen] at h ⊢;exact h)⟩
    ·rw [hlen];exact zbm hs.is
    ·rw [hlen];exact hs
theorem arg_B (k:Nat){w:World}{c:Value}{len:Nat}(h:RowS w c (fun _ v=> ∃m:Int,v= .int .u8 m/\(Lit.int .u8 m).wf=true) len):∃(bs:List Nat) (b:ABlk×EB) (v:AV),Arg w k c (fun H v=>ByS H v bs/\SvZ H v bs.length (u8L bs)) b v:=by
 rcases h with ⟨rfl,rfl⟩|⟨a,cap,rfl,hl,hm,hc⟩
 ·exact ⟨[],_,_,zsh1 w k fun H=>⟨.inl ⟨rfl,zbm (H:=H) (.inl ⟨rfl,rfl⟩),fun j _=>zfa j⟩,.inl (zrp H 1)⟩⟩
 ·rcases qh3 cap with h0|h0
  ·subst h0
   obtain rfl:len=0:=oM
   exact ⟨[],(.defd,⟨0,0,0⟩),extSl a 0 0,rfl,fun _ _=>trivial,fun E _=>zjo E a dC dC,fun bs _=>⟨.inl ⟨rfl,zgk1,fun j _=>ext_ne a j⟩,sv_ext (hA bs) a⟩⟩
  ·obtain ⟨hsp,hblk,hcell⟩:=hc h0
   let G:Nat->Nat:=fun i=>match w.cell? ⟨a.block,a.off+i,none⟩ with|some (.int .u8 m)=>m.toNat|_=>0
   have hG:∀i,i<len->w.cell? ⟨a.block,a.off+i,none⟩=some (.int .u8 (.ofNat (G i)))/\G i<256:=fun i hi=>by
    obtain ⟨v,h1,m,rfl,hw⟩:=hcell i hi;have hr:0<=m/\m<=255:=by
     unfold Lit.wf at hw;rw [qm,qs,qs] at hw;exact hw
    have hg:G i=m.toNat:=by
     show (match w.cell? ⟨a.block,a.off+i,none⟩ with|some (.int .u8 m)=>m.toNat|_=>0)=_
     rw [h1]
    rw [hg,h1];refine ⟨?_,oM⟩
    have:Int.ofNat m.toNat=m:=Int.toNat_of_nonneg hr.1;rw [this]
   generalize G=G at hG;have hlen:((List.range len).map G).length=len:=by simp
   have hbyt:Byt ((List.range len).map G):=fun x hx=>by
    obtain ⟨i,hi,rfl⟩:=qy2.1 hx;exact (hG i (qp3.1 hi)).2
   have hcl:∀(E:Env) j v,(u8L ((List.range len).map G))[j]? =some v->w.cell? ⟨a.block,a.off+j,none⟩=some (conc E v):=fun E j v hj=>by
    by_cases hjl:j<len
    ·unfold u8L at hj
     rw [qh1,qh1,qm5 hjl] at hj;cases hj;exact (hG j hjl).1
    ·rw [qk2 (by unfold u8L;simp;omega)] at hj;cases hj
   obtain ⟨h1,h2⟩:=arg_sl k (len:=len) (cap:=cap) (e:=5) (z:=1) (l:=u8L ((List.range len).map G)) hsp hblk hcl;refine ⟨(List.range len).map G,(.cells (byC ((List.range len).map G)) 5 1 false true,⟨a.block,a.off,0⟩),.sl k 0 len cap false,rfl,fun E hE=> ?_,h1,fun bs hb=> ?_⟩
   ·obtain ⟨cs,e',fz,k1,k2,_⟩:=h2 E hE
    exact ⟨cs,e',fz,k1,fun j v hj=>k2 j v (by rw [byC_l hbyt] at hj;exact hj),fun h=>by cases h⟩
   ·have hgk:(hA bs).get k=some (.cells (byC ((List.range len).map G)) 5 1 false true):=by rw [zty];exact hb
    have hkb:k<(hA bs).next:=(qp.1 hb).1;refine ⟨.inr ⟨k,0,cap,false,(List.range len).map G,5,1,false,true,by rw [hlen],hkb,hgk,hbyt,oM,?_,by rw [hlen];exact hl⟩,.inl ?_⟩
    ·rw [qd3]
     exact qx (qn _)
    ·have hr:Row (hA bs) k true false 5 1 (u8L ((List.range len).map G)):=⟨_,hgk,byC_l hbyt⟩
     have h:=hr.slZ (n:=len) (z:=1) (c:=cap) (op':=false) hkb (by unfold u8L;simp)
     rw [hlen];exact h
abbrev PS:Nat->Value->Prop:=fun _ v=> ∃s,v= .string s
abbrev PB:Nat->Value->Prop:=fun _ v=> ∃m:Int,v= .int .u8 m/\(Lit.int .u8 m).wf=true
theorem zop1:Tryz.prog.cellsOf 3=1:=kR
theorem zpp1:Tryz.prog.cellsOf 9=1:=kR
theorem cellsB:Tryz.prog.cellsOf 5=1:=kR
theorem cellsST:Tryz.prog.cellsOf 29=1:=kR
theorem cellsSB:Tryz.prog.cellsOf 30=1:=kR
theorem cellsO:Tryz.prog.cellsOf 32=7:=kR
section
variable {H:Type}{enc:TypeId×Value->H}{w:World}{base:Nat}{held:Bool}{n:Nat}{cs:List Value}{x:DataW H×List MemPlace}
theorem zqp1 (h:DataW.trod enc Tryz.prog w base (fun _=>true) held n 32 cs=some x):∃op nm to n3 n4 c5 l5 c6 l6,cs[0]? =some (.int .i64 op)/\cs[1]? =some (.string nm)/\cs[2]? =some (.string to)/\cs[3]? =some (.int .i64 n3)/\cs[4]? =some (.int .i64 n4) /\
  cs[5]? =some c5/\RowS w c5 PS l5/\cs[6]? =some c6/\RowS w c6 PB l6:=by
 obtain ⟨m,hl,hf⟩:=zvg1 Tryz.underlying32 h;obtain ⟨op,e0⟩:∃v,cs[0]? =some (.int .i64 v):=by obtain ⟨y,hy⟩:=hf 0 _ rfl;exact znp1 Tryz.underlying3 (by rw [← zop1];exact hy)
 obtain ⟨nm,e1⟩:∃v,cs[1]? =some (.string v):=by obtain ⟨y,hy⟩:=hf 1 _ rfl;exact str_at Tryz.underlying9 (by rw [← zpp1];exact hy)
 obtain ⟨to,e2⟩:∃v,cs[2]? =some (.string v):=by obtain ⟨y,hy⟩:=hf 2 _ rfl;exact str_at Tryz.underlying9 (by rw [← zpp1];exact hy)
 obtain ⟨n3,e3⟩:∃v,cs[3]? =some (.int .i64 v):=by obtain ⟨y,hy⟩:=hf 3 _ rfl;exact znp1 Tryz.underlying3 (by rw [← zop1];exact hy)
 obtain ⟨n4,e4⟩:∃v,cs[4]? =some (.int .i64 v):=by obtain ⟨y,hy⟩:=hf 4 _ rfl;exact znp1 Tryz.underlying3 (by rw [← zop1];exact hy)
 obtain ⟨c5,l5,e5,r5⟩:∃c len,cs[5]? =some c/\RowS w c PS len:=by
  obtain ⟨y,hy⟩:=hf 5 _ rfl;exact zfk1 (p:=fun v=> ∃s,v= .string s) Tryz.underlying29 zpp1 (fun m cs x h=>by obtain ⟨s,hs,_⟩:=DataW.trod_string Tryz.underlying9 h;exact ⟨_,hs,_,rfl⟩) (by rw [← cellsST];exact hy)
 obtain ⟨c6,l6,e6,r6⟩:∃c len,cs[6]? =some c/\RowS w c PB len:=by
  obtain ⟨y,hy⟩:=hf 6 _ rfl;exact zfk1 (p:=fun v=> ∃m:Int,v= .int .u8 m/\(Lit.int .u8 m).wf=true) Tryz.underlying30 cellsB (fun m cs x h=>by obtain ⟨s,hs,_,hw⟩:=DataW.trod_int Tryz.underlying5 h;exact ⟨_,hs,_,rfl,hw⟩) (by rw [← cellsSB];exact hy)
 exact ⟨op,nm,to,n3,n4,c5,l5,c6,l6,e0,e1,e2,e3,e4,e5,r5,e6,r6⟩
end
structure OD where
 o:Od
 b1:ABlk×EB
 u1:AV
 b2:ABlk×EB
 u2:AV
structure OA (w:World) (x:Addr) (i:Nat) (d:OD):Prop where
 a1:∃c,Arg w (2+2*i) c (fun H v=>SlT H v d.o.l/\SvZ H v d.o.l.length (d.o.l.map AV.str)) d.b1 d.u1
 a2:∃c,Arg w (3+2*i) c (fun H v=>ByS H v d.o.b/\SvZ H v d.o.b.length (u8L d.o.b)) d.b2 d.u2
 cell:∀E:Env,E (2+2*i)=d.b1.2->E (3+2*i)=d.b2.2-> ∀j v,(odL d.o d.u1 d.u2)[j]? =some v->w.cell? ⟨x.block,x.off+(i*7+j),none⟩=some (conc E v)
theorem oa_of {w:World}{x:Addr}{i:Nat}{cs:List Value}(hsp:x.spot=none) (h1:w.cells? 0 (x.add (i*7)) 7=some cs){op n3 n4:Int}{nm to:ByteArray}{c5 c6:Value}{l5 l6:Nat}(e0:cs[0]? =some (.int .i64 op)) (e1:cs[1]? =some (.string nm)) (e2:cs[2]? =some (.string to)) (e3:cs[3]? =some (.int .i64 n3)) (e4:cs[4]? =some (.int .i64 n4))
  (e5:cs[5]? =some c5) (r5:RowS w c5 PS l5) (e6:cs[6]? =some c6) (r6:RowS w c6 PB l6):∃d,OA w x i d:=by
 obtain ⟨ss,b1,u1,g1⟩:=arg_S (2+2*i) r5;obtain ⟨bs,b2,u2,g2⟩:=arg_B (3+2*i) r6;refine ⟨⟨⟨op,nm,to,n3,n4,ss,bs⟩,b1,u1,b2,u2⟩,⟨_,g1⟩,⟨_,g2⟩,fun E hE1 hE2 j v hj=> ?_⟩
 obtain ⟨_,_,h4⟩:=World.cells?_some h1;have hc:∀j,j<7->w.cell? ⟨x.block,x.off+(i*7+j),none⟩=cs[j]? :=fun j hj=>by
  have:=h4 j hj;rw [zar hsp,zar rfl] at this;rw [← this];simp only [qb6]
 have hj7:j<7:=(qp.1 hj).1;rw [hc j hj7];have v1:=g1.val E hE1;have v2:=g2.val E hE2
 match j,hj7,hj with
 |0,_,hj=>(cases hj;exact e0)
 |1,_,hj=>(cases hj;exact e1)
 |2,_,hj=>(cases hj;exact e2)
 |3,_,hj=>(cases hj;exact e3)
 |4,_,hj=>(cases hj;exact e4)
 |5,_,hj=>(cases hj;rw [v1];exact e5)
 |6,_,hj=>(cases hj;rw [v2];exact e6)
def blkF (r f:ABlk×EB) (d:Nat->OD) (k:Nat):ABlk×EB:=if k=0 then r else if k=1 then f else if k%2=0 then (d ((k - 2) / 2)).b1 else (d ((k - 3) / 2)).b2
def blks (r f:ABlk×EB) (d:Nat->OD) (len:Nat):List (ABlk×EB):=(List.range (2+2*len)).map (blkF r f d)
theorem zuu {r f:ABlk×EB}{d:Nat->OD}{len k:Nat}(hk:k<2+2*len):(blks r f d len)[k]? =some (blkF r f d k):=by
 unfold blks;rw [qh1,qm5 hk];rfl
theorem zhk1 {r f:ABlk×EB}{d:Nat->OD}{len k:Nat}{b:ABlk×EB}(h:(blks r f d len)[k]? =some b):k<2+2*len/\b=blkF r f d k:=by
 have hk:=(qp.1 h).1;unfold blks at hk;rw [qm3,List.length_range] at hk;rw [zuu hk] at h;cases h;exact ⟨hk,rfl⟩
theorem zwg1 {r f:ABlk×EB}{d:Nat->OD}(i:Nat):blkF r f d (2+2*i)=(d i).b1:=by
 unfold blkF;rw [qd oM,qd oM,qi oM,show (2+2*i - 2) / 2=i from oM]
theorem zxb1 {r f:ABlk×EB}{d:Nat->OD}(i:Nat):blkF r f d (3+2*i)=(d i).b2:=by
 unfold blkF;rw [qd oM,qd oM,qd oM,show (3+2*i - 3) / 2=i from oM]
structure InsS (w:World) (v0:Value) (l:List Ot) (bs:List (ABlk×EB)) (v:AV):Prop where
 od:OdX (hA (bs.map Prod.fst)) v l
 sv:∀p,p∈l->SvZ (hA (bs.map Prod.fst)) p.2.1 p.1.l.length (p.1.l.map AV.str)/\SvZ (hA (bs.map Prod.fst)) p.2.2 p.1.b.length (u8L p.1.b)
 own:∀b∈bs,b.1.own=false
 br:∀k b,bs[k]? =some b-> ∀E:Env,(∀k b,bs[k]? =some b->E k=b.2)->BRel E k b.1 w
 val:∀E:Env,(∀k b,bs[k]? =some b->E k=b.2)->concL E [v]= [v0]
theorem ins_row {w:World}{x:Addr}{len cap:Nat}(hsp:x.spot=none) (hblk:∃cs e fz,w.heap[x.block]? =some (.cells cs e fz)){d:Nat->OD}(hO:∀i,i<len->OA w x i (d i)) :
  ∃(l:List Ot) (bs:List (ABlk×EB)),l.length=len/\InsS w (.slice (some x) len cap) l bs (.sl 0 0 len cap false):=by
 obtain ⟨f,hfd⟩:∃f:ABlk×EB,f=(.defd,⟨0,0,0⟩):=⟨_,rfl⟩
 let l:List Ot:=(List.range len).map fun i=>((d i).o,(d i).u1,(d i).u2)
 have hl:∀i,i<len->l[i]? =some ((d i).o,(d i).u1,(d i).u2):=fun i hi=>by
  show ((List.range len).map fun i=>((d i).o,(d i).u1,(d i).u2))[i]? =_
  rw [qh1,qm5 hi];rfl
 have hll:l.length=len:=by show ((List.range len).map _).length=len;rw [qm3,List.length_range]
 have hmem:∀p,p∈l-> ∃i,i<len/\p=((d i).o,(d i).u1,(d i).u2):=fun p hp=>by
  obtain ⟨i,hi,rfl⟩:=qy2.1 hp;exact ⟨i,qp3.1 hi,rfl⟩
 generalize l=l at *
 let r:ABlk×EB:=(.cells (.lst (encC otL l)) 32 7 false true,⟨x.block,x.off,0⟩)
 have hb:∀k,k<2+2*len->((blks r f d len).map Prod.fst)[k]? =some (blkF r f d k).1:=fun k hk=>by
  rw [qh1,zuu hk];rfl
 have henc:(encC otL l).length=len*7:=by rw [zmc zcm,hll]
 have hn0:0<(hA ((blks r f d len).map Prod.fst)).next:=by
  show 0<((blks r f d len).map Prod.fst).length
  unfold blks;rw [qm3,qm3,List.length_range];omega
 have hrow:Row (hA ((blks r f d len).map Prod.fst)) 0 true false 32 7 (encC otL l):=⟨.lst (encC otL l),by rw [zty,hb 0 oM];rfl,rfl⟩
 refine ⟨l,blks r f d len,hll,⟨⟨⟨?_,fun p hp=> ?_⟩,fun p hp=> ?_⟩,fun p hp=> ?_,fun b hb'=> ?_,fun k b hk E hE=> ?_,fun E hE=> ?_⟩⟩
 ·refine ⟨by rw [hll];exact henc,.inr ⟨0,0,cap,false,true,false,32,7,encC otL l,by rw [hll],hn0,hrow,by rw [henc,hll];omega,?_⟩⟩
  rw [qd3];exact qx (by rw [henc,hll];exact qn _)
 ·obtain ⟨i,hi,rfl⟩:=hmem p hp
  obtain ⟨c,g1⟩:=(hO i hi).a1;obtain ⟨c2,g2⟩:=(hO i hi).a2;exact ⟨(g1.rd _ (by rw [hb _ oM,zwg1])).1,(g2.rd ((blks r f d len).map Prod.fst) (by rw [hb _ oM,zxb1])).1.len⟩
 ·obtain ⟨i,hi,rfl⟩:=hmem p hp
  obtain ⟨c2,g2⟩:=(hO i hi).a2;exact (g2.rd _ (by rw [hb _ oM,zxb1])).1
 ·obtain ⟨i,hi,rfl⟩:=hmem p hp
  obtain ⟨c,g1⟩:=(hO i hi).a1;obtain ⟨c2,g2⟩:=(hO i hi).a2;exact ⟨(g1.rd _ (by rw [hb _ oM,zwg1])).2,(g2.rd _ (by rw [hb _ oM,zxb1])).2⟩
 ·obtain ⟨k,hk⟩:=qy.1 hb'
  obtain ⟨hk,rfl⟩:=zhk1 hk;unfold blkF;split
  ·rfl
  split
  ·rw [hfd];rfl
  split
  ·obtain ⟨c,g1⟩:=(hO ((k - 2) / 2) oM).a1;exact g1.own
  ·obtain ⟨c,g1⟩:=(hO ((k - 3) / 2) oM).a2;exact g1.own
 ·obtain ⟨hkl,rfl⟩:=zhk1 hk
  have hEk:∀k,k<2+2*len->E k=(blkF r f d k).2:=fun k hk=>hE k _ (zuu hk)
  by_cases k0:k=0
  ·subst k0
   obtain ⟨cs,e',fz,hh⟩:=hblk;have hE0:E 0=⟨x.block,x.off,0⟩:=hEk 0 oM
   show BRel E 0 (.cells (.lst (encC otL l)) 32 7 false true) w
   refine ⟨cs,e',fz,by rw [hE0];exact hh,fun j v hj=> ?_,fun h=>by cases h⟩
   have hj7:j<len*7:=by have:=(qp.1 hj).1;rwa [show (Ce.lst (encC otL l)).l=encC otL l from rfl,henc] at this
   have hi:j / 7<len:=oM
   have hj2:(encC otL l)[j / 7*7+j%7]? =some v:=by rw [show j / 7*7+j%7=j from oM];exact hj
   rw [zri zcm (hl _ hi) oM] at hj2
   have:=(hO _ hi).cell E (by rw [hEk _ oM,zwg1]) (by rw [hEk _ oM,zxb1]) (j%7) v hj2
   rw [show j / 7*7+j%7=j from oM] at this
   rw [hE0];unfold World.cell? at this;simp only [hh,qf4,ql1,qu3] at this;exact this
  ·by_cases k1:k=1
   ·subst k1
    rw [show blkF r f d 1=f from rfl,hfd];trivial
   ·by_cases ke:k%2=0
    ·obtain ⟨c,g1⟩:=(hO ((k - 2) / 2) oM).a1
     have hk2:k=2+2*((k - 2) / 2):=oM
     have he:=zwg1 (r:=r) (f:=f) (d:=d) ((k - 2) / 2);rw [← hk2] at he g1;rw [he];exact g1.br E (by rw [hEk _ hkl,he])
    ·obtain ⟨c,g1⟩:=(hO ((k - 3) / 2) oM).a2
     have hk2:k=3+2*((k - 3) / 2):=oM
     have he:=zxb1 (r:=r) (f:=f) (d:=d) ((k - 3) / 2);rw [← hk2] at he g1;rw [he];exact g1.br E (by rw [hEk _ hkl,he])
 ·have h0:E 0=⟨x.block,x.off,0⟩:=hE 0 _ (zuu oM)
  show [conc E (.sl 0 0 len cap false)]=_
  obtain ⟨xb,xo,xs⟩:=x;simp only at hsp;subst hsp;show [Value.slice (some ⟨(E 0).blk,(E 0).off+0,none⟩) len (cap+0)]=_
  rw [h0];rfl
end HS
