import Derived.Test.YtmdkejaglfokaaaGreatVAAE
import Derived.Test.YtmdkejaglfokaaaGreatVAAD
import Derived.Below
import Derived.KernelRfl
noncomputable section
set_option maxHeartbeats 8000000
set_option linter.unusedSimpArgs false
set_option linter.unusedVariables false
namespace Go.Ev
theorem zdd (g:IntKind->Int->Int->Option AV) (s:AV->AV->Option AV) (k:IntKind) (a b:Int):int2 g s (.int k a) (.int k b)=g k a b:=by
 show brec (s (.int k a) (.int k b)) (g k a b) (kEq k k)=_
 rw [kEq_eq];simp [brec]
section
variable {s:AV->AV->Option AV}{k:IntKind}{a b:Int}
theorem zws:binF .add s (.int k a) (.int k b)=some (.int k (fw k (a+b))):=by rw [← FI.add_eq];exact zdd _ _ _ _ _
theorem zxs:binF .sub s (.int k a) (.int k b)=some (.int k (fw k (a - b))):=by rw [← FI.sub_eq];exact zdd _ _ _ _ _
theorem zys:binF .mul s (.int k a) (.int k b)=some (.int k (fw k (a*b))):=by rw [← FI.mul_eq];exact zdd _ _ _ _ _
theorem zzs:binF .eql s (.int k a) (.int k b)=some (.bool (decide (a=b))):=by
 refine (zdd _ _ _ _ _).trans ?_;show some (AV.bool (FI.beq a b))=_;rw [FI.beq_eq];congr 2
theorem zat:binF .neq s (.int k a) (.int k b)=some (.bool (decide (a≠b))):=by
 refine (zdd _ _ _ _ _).trans ?_;show some (AV.bool (brec true false (FI.beq a b)))=_
 rw [FI.beq_eq,zmy];congr 2;by_cases h:a=b<;>simp [h]
theorem zbt:binF .lss s (.int k a) (.int k b)=some (.bool (decide (a<b))):=by
 refine (zdd _ _ _ _ _).trans ?_;show some (AV.bool (FI.blt a b))=_;rw [FI.blt_eq]
theorem zct:binF .leq s (.int k a) (.int k b)=some (.bool (decide (a<=b))):=by
 refine (zdd _ _ _ _ _).trans ?_;show some (AV.bool (FI.ble a b))=_;rw [FI.ble_eq]
theorem zdt:binF .gtr s (.int k a) (.int k b)=some (.bool (decide (b<a))):=by
 refine (zdd _ _ _ _ _).trans ?_;show some (AV.bool (FI.blt b a))=_;rw [FI.blt_eq]
theorem zet:binF .geq s (.int k a) (.int k b)=some (.bool (decide (b<=a))):=by
 refine (zdd _ _ _ _ _).trans ?_;show some (AV.bool (FI.ble b a))=_;rw [FI.ble_eq]
theorem zft (h:b≠0):binF .quo s (.int k a) (.int k b)=some (.int k (fw k (a.tdiv b))):=by
 refine (zdd _ _ _ _ _).trans ?_;show brec (some (AV.int k (fw k (FI.quo a b)))) none (FI.is0 b)=_
 rw [FI.is0_eq,FI.quo_eq,show (b == 0)=false from by simp [h]];rfl
theorem zgt (h:b≠0):binF .rem s (.int k a) (.int k b)=some (.int k (a.tmod b)):=by
 refine (zdd _ _ _ _ _).trans ?_;show brec (some (AV.int k (FI.rem a b))) none (FI.is0 b)=_
 rw [FI.is0_eq,FI.rem_eq,show (b == 0)=false from by simp [h]];rfl
end
theorem fw64 {n:Int}(h1 : -9223372036854775808<=n) (h2:n<=9223372036854775807):fw .i64 n=n:=by
 show wrapS 9223372036854775808 .i64 n=n
 cases n with
 |ofNat m =>
  show brec _ (Int.ofNat m) (Nat.blt m 9223372036854775808)=_
  rw [show Nat.blt m 9223372036854775808=true from by rw [qa5];simp only [qc2] at h2;omega]
  rfl
 |negSucc m =>
  show brec _ (Int.negSucc m) (Nat.blt m 9223372036854775808)=_
  rw [show Nat.blt m 9223372036854775808=true from by rw [qa5];rw [qe2] at h1;omega]
  rfl
theorem zee1 (b:Bool):notF (.bool b)=some (.bool (!b)):=by cases b<;>rfl
theorem zht (a b:AV):pickF [.bool true,a,b]=some a:=rfl
theorem zit (a b:AV):pickF [.bool false,a,b]=some b:=rfl
theorem exN0 (a:AV) (l:List AV):exN 0 (.tup (a::l))=some a:=rfl
theorem exN1 (a b:AV) (l:List AV):exN 1 (.tup (a::b::l))=some b:=rfl
theorem exN2 (a b c:AV) (l:List AV):exN 2 (.tup (a::b::c::l))=some c:=rfl
theorem zrn (i o:Nat):nilF (.ptr i o)=some (.ptr i o):=rfl
theorem zfe1 (off i o:Nat):fa off (.ptr i o)=some (.ptr i (o+off)):=rfl
theorem min2 (t:List TypeId) (L:Lk) (k k':IntKind) (a b:Int) (H:AH):fstO (zea .min L t [.int k a,.int k' b] H)=some (.int k (if b<a then b else a)):=rfl
theorem max2 (t:List TypeId) (L:Lk) (k k':IntKind) (a b:Int) (H:AH):fstO (zea .max L t [.int k a,.int k' b] H)=some (.int k (if a<b then b else a)):=rfl
theorem hIn_f (H:AH):hIn false H=H:=rfl
theorem zml (H H':AH):hOut false H H'=H':=rfl
def elA (z:Nat):AV->Nat->AV
 | .sl i o _ _ _,k=>.ptr i (o+k*z)
 |_,_=>.undef
def IsSl (H:AH) (v:AV) (n:Nat):Prop:=(v= .nilSl/\n=0)\/ ∃i o c op,v= .sl i o n c op/\(i<H.next/\ ∃cc e z op' ro,H.get i=some (.cells cc e z op' ro)/\o<=cc.l.length)
theorem ix_el {H:AH}{v:AV}{n:Nat}(h:IsSl H v n){k:IntKind}{e:Int}{z:Nat}(h0:0<=e) (h1:e<n):ixS z v (.int k e)=some (elA z v e.toNat):=by
 rcases h with ⟨rfl,rfl⟩|⟨i,o,c,op,rfl,_⟩
 ·exact absurd h1 oM
 ·obtain ⟨m,rfl⟩:=qh7 h0
  show brec none (some (AV.ptr i (o+m*z))) (Nat.blt m n)=_
  rw [show Nat.blt m n=true from by rw [qa5];omega]
  simp only [qg2];rfl
theorem zwc {L:Lk}{t e:TypeId}(ht:L.under t=some (.slice e)){H H':AH}{v:AV}{n:Nat}(h:IsSl H v n):fstO (zea .len L [t] [v] H')=some (.int .i64 n):=by
 show fstO (match evLen L t v H' with|some v=>some (v,H')|none=>none)=_
 unfold evLen;rw [ht];rcases h with ⟨rfl,rfl⟩|⟨i,o,c,op,rfl,_⟩<;>rfl
theorem IsSl.lenOf {H:AH}{v:AV}{n:Nat}(h:IsSl H v n):lenOf v=some n:=by
 rcases h with ⟨rfl,rfl⟩|⟨i,o,c,op,rfl,_⟩<;>rfl
structure HX (H H':AH):Prop where
 next:H.next<=H'.next
 lo:H'.lo=H.lo
 hide:H'.hide=H.hide
 fz:H'.fz=H.fz
 old:∀i,i<H.next->H'.tree.get i=H.tree.get i
theorem HX.refl (H:AH):HX H H:=⟨qn _,rfl,rfl,rfl,fun _ _=>rfl⟩
theorem HX.trans {H H1 H2:AH}(h:HX H H1) (h':HX H1 H2):HX H H2 :=
 ⟨qx2 h.next h'.next,h'.lo.trans h.lo,h'.hide.trans h.hide,h'.fz.trans h.fz,fun i hi=>(h'.old i (qa1 hi h.next)).trans (h.old i hi)⟩
theorem HX.new (H:AH) (b:ABlk):HX H (H.new b) :=
 ⟨qv3 _,rfl,rfl,rfl,fun i hi=>by show (H.tree.set H.next b).get i=_;rw [Tr.get_set,qg oM]⟩
theorem HX.vis {H H':AH}(h:HX H H') (i:Nat):H'.vis i=H.vis i:=by unfold AH.vis;rw [h.hide]
theorem HX.get {H H':AH}(h:HX H H'){i:Nat}(hi:i<H.next):H'.get i=H.get i:=by unfold AH.get;rw [h.vis,h.old i hi]
theorem IsSl.hx {H H':AH}{v:AV}{n:Nat}(h:IsSl H v n) (hx:HX H H'):IsSl H' v n:=by
 rcases h with h|⟨i,o,c,op,hv,hi,cc,e,z,op',ro,hg,ho⟩
 ·exact .inl h
 ·exact .inr ⟨i,o,c,op,hv,qa1 hi hx.next,cc,e,z,op',ro,(hx.get hi).trans hg,ho⟩
theorem zbm {i o:Nat}{H:AH}:ld1 (.ptr i o) H=H.read1 i o:=zjs H i o
structure SlR (H:AH) (v:AV) (n:Nat) (g:Nat->AV):Prop where
 is:IsSl H v n
 el:∀k,k<n->ld1 (elA 1 v k) H=some (g k)
theorem SlR.hx {H H':AH}{v:AV}{n:Nat}{g:Nat->AV}(h:SlR H v n g) (hx:HX H H'):SlR H' v n g:=by
 refine ⟨h.is.hx hx,fun k hk=> ?_⟩
 have:=h.el k hk;rcases h.is with ⟨rfl,rfl⟩|⟨i,o,c,op,rfl,hi,_⟩
 ·omega
 ·show ld1 (.ptr i (o+k*1)) H'=_
  have h2:ld1 (.ptr i (o+k*1)) H=some (g k):=this;rw [zbm] at h2 ⊢
  unfold AH.read1 AH.row at h2 ⊢
  rw [hx.get hi];exact h2
abbrev ints (l:List Int) (k:Nat):AV:=.int .i64 (l.getD k 0)
abbrev SlI (H:AH) (v:AV) (l:List Int):Prop:=SlR H v l.length (ints l)
theorem rk_mv' {L:Lk}{s:List Kf}{T:Tr AV}{H:AH}{Q:PostC}{k:K2}{d:Option S2}{x:O2}{v:AV}(hv:x.ev T=v) (h:RK L k s (putS d v T) H Q):RK L (.mv x d k) s T H Q:=by subst hv;exact ⟨h.h⟩
open Go.RowKit
def xTrue:XFn:=fun args H=>match args with| []=>some (.bool true,H)|_=>none
theorem zjt {B:Nat}{E0 E:Env}{H H1:AH}{w w1:World}{v:AV}{u:Value}(hS:St B E H w) (hw:H.Wf) (hv:v= .bool true) (hz:H1.fz=false) (h:Done w.heap.size E0 H0 w v H1 u w1):Done B E H w (.bool true) H u w1:=by
 obtain ⟨E1,h1,_,h3,_⟩:=h;subst hv;have hu:u= .bool true:=h1.self;subst hu;have hfr:∀c,c<w.heap.size->w1.heap[c]? =w.heap[c]? :=fun c hc=>h3.frame c hc fun ⟨j,b,hg,_⟩=>by rw [zkd1] at hg;cases hg
 refine ⟨E,fun _ _=>rfl,fun E' hE=> ?_,⟨Agree.refl _ _,qn _,rfl,rfl,h3.tape,h3.os,h3.output,h3.size,fun c hc _=>hfr c hc,fun c hc=>.inl hc,fun _ _=>rfl,h3.loops,fun hf=>⟨hf,(h3.froz hz).2⟩,fun _ h=>.inl h,h3.dr⟩,hw⟩
 have r:=hS E' hE;exact ⟨fun i b hg=>(r.blk i b hg).congr fun hl=>hfr _ ((r.blk i b hg).obj hl),r.inj,r.base,qx2 r.size h3.size⟩
theorem zyl1 {L:Lk}{P:Program}{B:Nat}(hL:LOk L P) (hX:∀B,ExtOk L P B){n:Nat}{f:FuncId}(h:zin (evReq L n (.call f [] H0))=true):XOk P B f xTrue:=by
 obtain ⟨out,ho,hv,hz⟩:=zxv h;intro args H p hp E w us hw hS hus;unfold xTrue at hp;split at hp
 ·cases hp
  have hu:=hus E (Agree.refl _ _);subst hu;have E0:Env:=fun _=>⟨0,0,0⟩
  have hc:=(zzq hL (hX w.heap.size) n).call f [] H0 out ho E0 w [] H0_wf (H0_st E0 w) (fun _ _=>rfl)
  unfold CallOk at hc ⊢
  show match (callFunc f (concL E []).toArray).run P w with| .ok (.value u) w1=>_| .ok (.enter g vs) w'=>_|_=>_
  have e0:(concL E []).toArray=([]:List Value).toArray:=rfl;rw [e0]
  revert hc
  cases (callFunc f ([]:List Value).toArray).run P w with
  |ok nx w1 =>
   cases nx with
   |value u=>exact fun hc=>zjt hS hw hv hz hc
   |enter g vs=>exact fun hc=>CallsIn.mono hc fun e w1 ⟨u,he,hd⟩=>⟨u,he,zjt hS hw hv hz hd⟩
   |_=>exact fun hc=>hc
  |_=>exact fun hc=>hc
 ·cases hp
theorem zcm {L:Lk}{f:FuncId}{g:XFn}{args:List AV}{H H':AH}{v:AV}(hx:L.ext f=some g) (hg:g args H=some (v,H')):FnE L f args H fun r H1=>r=v/\H1=H':=by
 refine ⟨v,H',⟨rfl,rfl⟩,1,fun m hm=> ?_⟩
 obtain ⟨m,rfl⟩:∃m',m=m'+1:=⟨m - 1,oM⟩
 show callS L (evF L m) f args H=_
 unfold callS extS;rw [hx];show orec _ (fun p=>some (out1 p.1 p.2)) (g args H)=_
 rw [hg];rfl
theorem Ce.sub_ex {c:Ce}{o n:Nat}(h:o+n<=c.l.length):∃c',c.sub o n=some c'/\c'.l=(c.l.drop o).take n:=by
 have key:∃c',c.sub o n=some c':=by
  cases c with
  |lst l =>
   have:zij l o n=some ((l.drop o).take n):=(zae l o n _).2 ⟨by have:(Ce.lst l).l.length=l.length:=rfl;omega,rfl⟩
   exact ⟨_,by show (match zij l o n with|some l'=>some (Ce.lst l')|none=>none)=_;rw [this]⟩
  |byt m N =>
   refine ⟨_,by show brec none _ (Nat.ble n (m - o))=_;rw [show Nat.ble n (m - o)=true from by rw [Nat.ble_eq];have:(Ce.byt m N).l.length=m:=bytesL_length m N;omega];rfl⟩
 obtain ⟨c',hc⟩:=key;exact ⟨c',hc,((zae _ _ _ _).1 (Ce.sub_l hc)).2⟩
theorem Ce.over_ex {x c:Ce}{o:Nat}(h:o+x.l.length<=c.l.length):∃c',Ce.over x c o=some c'/\c'.l=c.l.take o ++ x.l ++ c.l.drop (o+x.l.length):=by
 have ho:zgd x.l c.l o=some (c.l.take o ++ x.l ++ c.l.drop (o+x.l.length)):=(zyb _ _ _ _).2 ⟨h,rfl⟩;have key:∃c',Ce.over x c o=some c':=by
  cases c with
  |lst l=>exact ⟨_,by show (match zgd x.l l o with|some l'=>some (Ce.lst l')|none=>none)=_;rw [show zgd x.l l o=_ from ho]⟩
  |byt m N =>
   cases x with
   |lst xs=>exact ⟨_,by show (match zgd xs (bytesL m N) o with|some l'=>some (Ce.lst l')|none=>none)=_;rw [show zgd xs (bytesL m N) o=_ from ho]⟩
   |byt k X =>
    have h1:(Ce.byt k X).l.length=k:=bytesL_length k X;have h2:(Ce.byt m N).l.length=m:=bytesL_length m N;exact ⟨_,by show brec none _ (Nat.ble (o+k) m)=_;rw [show Nat.ble (o+k) m=true from by rw [Nat.ble_eq];omega];rfl⟩
 obtain ⟨c',hc⟩:=key;refine ⟨c',hc,?_⟩;have:=Ce.over_l hc;rw [ho] at this;exact (qr3 this).symm
structure HP (p:Nat->Prop) (H H':AH):Prop where
 next:H.next<=H'.next
 lo:H'.lo=H.lo
 hide:H'.hide=H.hide
 fz:H'.fz=H.fz
 old:∀i,i<H.next->p i->H'.tree.get i=H.tree.get i
theorem HX.hp {H H':AH}(h:HX H H') (p:Nat->Prop):HP p H H':=⟨h.next,h.lo,h.hide,h.fz,fun i hi _=>h.old i hi⟩
theorem HP.hx {p:Nat->Prop}{H H':AH}(h:HP p H H') (hp:∀i,i<H.next->p i):HX H H':=⟨h.next,h.lo,h.hide,h.fz,fun i hi=>h.old i hi (hp i hi)⟩
theorem HP.refl (p:Nat->Prop) (H:AH):HP p H H:=⟨qn _,rfl,rfl,rfl,fun _ _ _=>rfl⟩
theorem HP.trans {p q r:Nat->Prop}{H H1 H2:AH}(h:HP p H H1) (h':HP q H1 H2) (hr:∀i,i<H.next->r i->p i/\q i):HP r H H2 :=
 ⟨qx2 h.next h'.next,h'.lo.trans h.lo,h'.hide.trans h.hide,h'.fz.trans h.fz,fun i hi hri=>(h'.old i (qa1 hi h.next) (hr i hi hri).2).trans (h.old i hi (hr i hi hri).1)⟩
theorem HP.mono {p q:Nat->Prop}{H H':AH}(h:HP p H H') (hq:∀i,i<H.next->q i->p i):HP q H H':=⟨h.next,h.lo,h.hide,h.fz,fun i hi hqi=>h.old i hi (hq i hi hqi)⟩
theorem HP.vis {p:Nat->Prop}{H H':AH}(h:HP p H H') (i:Nat):H'.vis i=H.vis i:=by unfold AH.vis;rw [h.hide]
theorem HP.get {p:Nat->Prop}{H H':AH}(h:HP p H H'){i:Nat}(hi:i<H.next) (hp:p i):H'.get i=H.get i:=by unfold AH.get;rw [h.vis,h.old i hi hp]
theorem HP.put (H:AH) (i:Nat) (b:ABlk):HP (·≠ i) H (H.put i b) :=
 ⟨qn _,rfl,rfl,rfl,fun j hj hp=>by show (H.tree.set i b).get j=_;rw [Tr.get_set,qg hp]⟩
theorem HX.put {H H':AH}(h:HX H H'){i:Nat}(hi:H.next<=i) (b:ABlk):HX H (H'.put i b) :=
 ((h.hp (fun _=>True)).trans (HP.put H' i b) (r:=fun _=>True) (fun j hj _=>⟨trivial,oM⟩)).hx (fun _ _=>trivial)
def Row (H:AH) (i:Nat) (ro op:Bool) (e z:Nat) (l:List AV):Prop:= ∃c,H.get i=some (.cells c e z op ro)/\c.l=l
theorem Row.hp {p:Nat->Prop}{H H':AH}{i e z:Nat}{ro op:Bool}{l:List AV}(h:Row H i ro op e z l) (hx:HP p H H') (hi:i<H.next) (hp:p i):Row H' i ro op e z l:=by
 obtain ⟨c,h1,h2⟩:=h;exact ⟨c,(hx.get hi hp).trans h1,h2⟩
theorem Row.hx {H H':AH}{i e z:Nat}{ro op:Bool}{l:List AV}(h:Row H i ro op e z l) (hx:HX H H') (hi:i<H.next):Row H' i ro op e z l:=h.hp (hx.hp fun _=>True) hi trivial
theorem Row.rd {H:AH}{i e z k:Nat}{ro op:Bool}{l:List AV}{v:AV}(h:Row H i ro op e z l) (hv:l[k]? =some v):ld1 (.ptr i k) H=some v:=by
 obtain ⟨c,h1,rfl⟩:=h;rw [zbm];unfold AH.read1 AH.row;rw [h1];simp only [zcg];exact hv
theorem Row.rdN {H:AH}{i e z o s:Nat}{ro op:Bool}{l:List AV}(h:Row H i ro op e z l) (hs:o+s<=l.length):∃c:Ce,ldN s (.ptr i o) H=some c.toV/\c.l=(l.drop o).take s:=by
 obtain ⟨c,h1,rfl⟩:=h;obtain ⟨c',h2,h3⟩:=Ce.sub_ex hs;refine ⟨c',?_,h3⟩;show orec none (fun c=>some (ceV c)) (subCF H i o s)=_
 rw [zjf];unfold AH.subC;rw [h1];simp only [h2];show some (ceV c')=_
 rw [zkl1]
theorem AH.get_new {H:AH}(hh:H.hide= []) (b:ABlk):(H.new b).get H.next=some b:=by
 unfold AH.get;have:(H.new b).vis H.next=true:=by unfold AH.vis;show H.hide.all _=true;rw [hh];rfl
 rw [this];show (H.tree.set H.next b).get H.next=_
 rw [Tr.get_set_self]
theorem AH.get_put {H:AH}(hh:H.hide= []) (i:Nat) (b:ABlk):(H.put i b).get i=some b:=by
 unfold AH.get;have:(H.put i b).vis i=true:=by unfold AH.vis;show H.hide.all _=true;rw [hh];rfl
 rw [this];show (H.tree.set i b).get i=_
 rw [Tr.get_set_self]
theorem Row.new {H:AH}(hh:H.hide= []) (c:Ce) (e z:Nat) (op ro:Bool):Row (H.new (.cells c e z op ro)) H.next ro op e z c.l:=⟨c,AH.get_new hh _,rfl⟩
theorem zkt {v:AV}(h:v.oneCell=true):v.cells= [v]:=by cases v<;>first|rfl|cases h
theorem zhh1 {v:AV}(h:v.oneCell=true):v.toC.one=true:=by
 cases v<;>first
  |(have:=zhp;exact (this _).trans h)
  |cases h
theorem zih1 {v:AV}:v.toC.len=v.cells.length:=by rw [Ce.len_l,toC_l]
theorem Row.st {L:Lk}{t s:Nat}{H:AH}{i e z k:Nat}{op:Bool}{l:List AV}{v:AV}(h:Row H i false op e z l) (hh:H.hide= []) (hlo:H.lo<=i) (hs:L.size t=some s) (hv:v.cells.length=s) (h1:v.toC.one=true) (hk:k+s<=l.length) :
  ∃H',zyc L t (.ptr i k) v H=some H'/\Row H' i false op e z (l.take k ++ v.cells ++ l.drop (k+s))/\HP (·≠ i) H H'/\H'.next=H.next:=by
 obtain ⟨c,h2,rfl⟩:=h;obtain ⟨c',h3,h4⟩:=Ce.over_ex (x:=v.toC) (c:=c) (o:=k) (by rw [toC_l];omega)
 refine ⟨H.put i (.cells c' e z op false),?_,⟨c',AH.get_put hh _ _,?_⟩,HP.put _ _ _,rfl⟩
 ·unfold zyc
  rw [hs];simp only;rw [show Nat.beq v.toC.len s=true from by rw [zih1,hv];exact qr2 s]
  simp only;unfold AH.writeC;rw [show Nat.ble H.lo i=true from qh hlo,h2]
  simp only [h1,h3]
 ·rw [h4,toC_l,hv]
theorem Row.st1 {L:Lk}{t:Nat}{H:AH}{i e z k:Nat}{op:Bool}{l:List AV}{v:AV}(h:Row H i false op e z l) (hh:H.hide= []) (hlo:H.lo<=i) (hs:L.size t=some 1) (hv:v.oneCell=true) (hk:k<l.length) :
  ∃H',st1 L t (.ptr i k) v H=some H'/\Row H' i false op e z (l.set k v)/\HP (·≠ i) H H'/\H'.next=H.next:=by
 obtain ⟨H',h1,h2,h3,h4⟩:=h.st (k:=k) hh hlo hs (by rw [zkt hv];rfl) (zhh1 hv) oM
 refine ⟨H',(zll1 hs _ _ _).trans h1,?_,h3,h4⟩;rw [zkt hv] at h2;rw [qq4,qj hk]
 simpa using h2
theorem Row.stN {L:Lk}{t s:Nat}{H:AH}{i e z k:Nat}{op:Bool}{l:List AV}{v:AV}(h:Row H i false op e z l) (hh:H.hide= []) (hlo:H.lo<=i) (hv:v.cells.length=s) (h1:v.toC.one=true) (hk:k+s<=l.length) :
  ∃H',stN s (.ptr i k) v H=some H'/\Row H' i false op e z (l.take k ++ v.cells ++ l.drop (k+s))/\HP (·≠ i) H H'/\H'.next=H.next:=by
 obtain ⟨c,h2,rfl⟩:=h;obtain ⟨c',h3,h4⟩:=Ce.over_ex (x:=v.toC) (c:=c) (o:=k) (by rw [toC_l];omega)
 refine ⟨H.put i (.cells c' e z op false),?_,⟨c',AH.get_put hh _ _,?_⟩,HP.put _ _ _,rfl⟩
 ·show brec none (zne H i k v.toC) (Nat.beq v.toC.len s)=_
  rw [show Nat.beq v.toC.len s=true from by rw [zih1,hv];exact qr2 s]
  show zne H i k v.toC=_
  rw [zcd];unfold AH.writeC;rw [show Nat.ble H.lo i=true from qh hlo,h2]
  simp only [h1,h3]
 ·rw [h4,toC_l,hv]
theorem Row.slR {H:AH}{i e z o n c:Nat}{ro op op':Bool}{l:List AV}{g:Nat->AV}(h:Row H i ro op e z l) (hi:i<H.next) (ho:o<=l.length) (hg:∀k,k<n->l[o+k]? =some (g k)):SlR H (.sl i o n c op') n g:=by
 refine ⟨.inr ⟨i,o,c,op',rfl,hi,by obtain ⟨cc,h1,rfl⟩:=h;exact ⟨cc,e,z,op,ro,h1,ho⟩⟩,fun k hk=> ?_⟩
 show ld1 (.ptr i (o+k*1)) H=_
 rw [qx4];exact h.rd (hg k hk)
theorem zjh1 (x:AV) (n:Nat):rep [x] n=List.replicate n x:=by
 induction n with
 |zero=>rfl
 |succ n ih=>rw [zgi,ih];rfl
theorem zge1 {L:Lk}{ts:List Nat}{t t' e:Nat}{H:AH}{i o n c:Nat}{op op':Bool}{e' z:Nat}{l:List AV}{x:AV}{m:Nat}{new:Ce}(ht:L.under t=some (.slice e)) (hz:L.size e=some z) (hx:lenOf x=some m)
  (hnew:zhb z x (minN m n) H=some new) (h:Row H i false op' e' z l) (hh:H.hide= []) (hlo:H.lo<=i) (h1:new.one=true) (hk:o+new.l.length<=l.length) :
  ∃H',zea .copy L (t::t'::ts) [.sl i o n c op,x] H=some (.int .i64 (minN m n:Nat),H')/\Row H' i false op' e' z (l.take o ++ new.l ++ l.drop (o+new.l.length))/\HP (·≠ i) H H'/\H'.next=H.next:=by
 obtain ⟨cc,h2,rfl⟩:=h;obtain ⟨c',h3,h4⟩:=Ce.over_ex (x:=new) (c:=cc) (o:=o) hk;refine ⟨H.put i (.cells c' e' z op' false),?_,⟨c',AH.get_put hh _ _,h4⟩,HP.put _ _ _,rfl⟩;show zho L t (.sl i o n c op) x H=_
 unfold zho;rw [ht];simp only [hz,hx,hnew];unfold AH.writeC;rw [show Nat.ble H.lo i=true from qh hlo,h2]
 simp only [h1,h3]
theorem znp {z:Nat}{H:AH}{i o n m c:Nat}{op:Bool}{ro op':Bool}{e z':Nat}{l:List AV}(h:Row H i ro op' e z' l) (hk:o+n*z<=l.length):∃new,zhb z (.sl i o m c op) n H=some new/\new.l=(l.drop o).take (n*z):=by
 obtain ⟨cc,h2,rfl⟩:=h;obtain ⟨c',h3,h4⟩:=Ce.sub_ex (c:=cc) (o:=o) (n:=n*z) hk;refine ⟨c',?_,h4⟩;show AH.subC H i o (n*z)=_
 unfold AH.subC;rw [h2];exact h3
theorem sl_hi {L:Lk}{t e z:Nat}{i o n c:Nat}{k:IntKind}{m:Int}(ht:L.under t=some (.slice e)) (hz:L.size e=some z) (h0:0<=m) (h1:m<=c) :
  zxa L t false true false [.sl i o n c false,.int k m]=some (.sl i o m.toNat c false):=by
 obtain ⟨a,rfl⟩:=qh7 h0;show zfb L t (.sl i o n c false) none (some (.int k a)) none=_
 unfold zfb;rw [ht];show (match bndOf none 0 with|none=>none|some l=>_)=_
 show (match L.size e with|none=>none|some z=>(match some a with
    |none=>none
    |some h=>match Nat.ble 0 h && Nat.ble h c with
      |true=>some (AV.sl i (offOf c 0 o z) (h - 0) (c - 0) false)
      |false=>none))=_
 rw [hz];simp only;rw [show Nat.ble 0 a=true from qh (qh2 _),show Nat.ble a c=true from qh oM]
 simp only [qp2,Nat.sub_zero,qg2];have:offOf c 0 o z=o:=by unfold offOf;cases Nat.beq c 0<;>simp
 rw [this]
theorem zhg {c:Ce}(h:c.l.all AV.oneCell=true):c.one=true:=by cases c with|lst l=>exact h|byt n N=>rfl
theorem SlR.src {H:AH}{v:AV}{n:Nat}{g:Nat->AV}(h:SlR H v n g):∃new,zhb 1 v n H=some new/\new.l=(List.range n).map g:=by
 rcases h.is with ⟨rfl,rfl⟩|⟨i,o,c,op,rfl,hi⟩
 ·exact ⟨.lst [],rfl,rfl⟩
 ·obtain ⟨hi,cc,e,z,op',ro,hg,ho⟩:=hi
  have hel:∀k,k<n->cc.l[o+k]? =some (g k):=fun k hk=>by
   have h2:ld1 (.ptr i (o+k*1)) H=some (g k):=h.el k hk;rw [zbm,qx4] at h2;unfold AH.read1 AH.row at h2;rw [hg] at h2
   simpa only [zcg] using h2
  have hlen:o+n<=cc.l.length:=by
   by_cases h0:n=0
   ·omega
   ·have:=hel (n - 1) oM
    have:=(qq.1 this).1;omega
  obtain ⟨new,h1,h2⟩:=znp (z:=1) (m:=n) (c:=c) (op:=op) (ro:=ro) (op':=op') (e:=e) (z':=z) ⟨cc,hg,rfl⟩ (o:=o) (n:=n) oM
  refine ⟨new,h1,?_⟩;rw [h2,qx4];refine qm3 fun k=> ?_
  by_cases hk:k<n
  ·rw [qa2 hk,qj2,hel k hk];simp [hk]
  ·rw [qx1 (by simp;omega),qx1 (by simp;omega)]
theorem zdr (z i o n c k:Nat) (op:Bool):elA z (.sl i o n c op) k= .ptr i (o+k*z):=rfl
theorem Row.isSl {H:AH}{i e z o n c:Nat}{ro op op':Bool}{l:List AV}(h:Row H i ro op e z l) (hi:i<H.next) (ho:o<=l.length):IsSl H (.sl i o n c op') n:=by
 obtain ⟨cc,h1,rfl⟩:=h;exact .inr ⟨i,o,c,op',rfl,hi,cc,e,z,op,ro,h1,ho⟩
theorem zhe1 {L:Lk}{t:Nat}(ht:L.under t=some .bool) (n:Nat) (a b:Bool):evEq L (n+1) t (.bool a) (.bool b)=some (a == b):=by
 unfold evEq;rw [zag];simp only [ht]
theorem zzl1 {L:Lk}{t:Nat}(ht:L.under t=some .bool) (xo yo:Operand) (a b:Bool):binF .neq (evBin L .neq t xo yo) (.bool a) (.bool b)=some (.bool (decide (a≠b))):=by
 rw [zyl];unfold evBin;simp only [zhe1 ht];cases a<;>cases b<;>rfl
theorem bs_one {s e:Nat}{z v:AV}{H:AH}(hh:H.hide= []) (hz:z.cells.length=s) (hv:v.cells.length=s) :
  ∃H',bsF s 1 z e (zipF [0] [v]) H=some (.sl H.next 0 1 1 false,H')/\HX H H'/\H'.next=H.next+1/\Row H' H.next false false e s v.cells:=by
 have hf:fillL (fun i=>some (Nat.mul i s,s)) (zipF [0] [v]) (rep z.cells 1)=some v.cells:=by
  show (match Nat.beq (len v.cells) s with
   |false=>none
   |true=>match zgd v.cells (rep z.cells 1) (Nat.mul 0 s) with
    |none=>none
    |some cs'=>some cs')=_
  rw [zse,hv,show Nat.beq s s=true from qr2 s]
  have:zgd v.cells (rep z.cells 1) (Nat.mul 0 s)=some v.cells:=(zyb _ _ _ _).2 ⟨by rw [zuc,hz,hv];simp,by
   rw [show Nat.mul 0 s=0 from ql4 s,hv]
   rw [qw3 (by rw [zuc,hz];omega)];simp⟩
  rw [this]
 refine ⟨H.new (.cells (Ce.of v.cells) e s false false),?_,HX.new _ _,rfl,?_⟩
 ·unfold bsF
  rw [hf];exact zsh (.cells (Ce.of v.cells) e s false false) (fun m H'=>some (.sl m 0 1 1 false,H')) H
 ·have:=Row.new hh (Ce.of v.cells) e s false false
  rwa [Ce.of_l] at this
def blkNe (s:AV) (j:Nat):Prop:= ∀o n c op,s≠ .sl j o n c op
theorem zka (j:Nat):blkNe .nilSl j:=fun _ _ _ _ h=>by cases h
theorem zla {i o n c:Nat}{op:Bool}{j:Nat}(h:j≠i):blkNe (.sl i o n c op) j:=fun _ _ _ _ h'=>by cases h';exact h rfl
def Ap (H:AH) (s:AV) (n:Nat) (l:List AV) (e z N:Nat):Prop:=l.length=n*z/\((s= .nilSl/\n=0)\/ ∃i,s= .sl i 0 n n true/\Row H i false true e z l/\N<=i/\i<H.next)
theorem Ap.nil (H:AH) (e z N:Nat):Ap H .nilSl 0 [] e z N:=⟨by simp,.inl ⟨rfl,rfl⟩⟩
theorem Ap.hp {H H':AH}{s:AV}{n e z N:Nat}{l:List AV}(h:Ap H s n l e z N){p:Nat->Prop}(hp:HP p H H') (hb:∀i,s= .sl i 0 n n true->p i):Ap H' s n l e z N:=by
 obtain ⟨h0,h|⟨i,hs,hr,hN,hi⟩⟩:=h
 ·exact ⟨h0,.inl h⟩
 ·exact ⟨h0,.inr ⟨i,hs,hr.hp hp hi (hb i hs),hN,qa1 hi hp.next⟩⟩
theorem Ap.hx {H H':AH}{s:AV}{n e z N:Nat}{l:List AV}(h:Ap H s n l e z N) (hx:HX H H'):Ap H' s n l e z N:=h.hp (hx.hp fun _=>True) fun _ _=>trivial
theorem Ap.slR {H:AH}{s:AV}{n e N:Nat}{l:List AV}{g:Nat->AV}(h:Ap H s n l e 1 N) (hg:∀k,k<n->l[k]? =some (g k)):SlR H s n g:=by
 obtain ⟨h0,⟨rfl,rfl⟩|⟨i,rfl,hr,hN,hi⟩⟩:=h
 ·exact ⟨.inl ⟨rfl,rfl⟩,fun k hk=>oM⟩
 ·exact hr.slR hi (qh2 _) fun k hk=>by rw [qu1];exact hg k hk
theorem Ap.isSl {H:AH}{s:AV}{n e z N:Nat}{l:List AV}(h:Ap H s n l e z N):IsSl H s n:=by
 obtain ⟨h0,⟨rfl,rfl⟩|⟨i,rfl,hr,hN,hi⟩⟩:=h
 ·exact .inl ⟨rfl,rfl⟩
 ·exact hr.isSl hi (qh2 _)
theorem zlt {e z b:Nat}{i o l c n:Nat}{H:AH}{x:AV}{new:Ce}{ro op':Bool}{e' z':Nat}{row:List AV}(hx:lenOf x=some n) (hsrc:zhb z x n H=some new) (h1:new.one=true) (hr:Row H i ro op' e' z' row) (hl:o+l*z<=row.length) (hc:c<l+n) (hb:(l+n)*b<=140737488355328) (hm:l+n<=9223372036854775807) (hh:H.hide= []) :
  ∃H',appX e z b [.sl i o l c false,x] H=some (.sl H.next 0 (l+n) (l+n) true,H')/\HX H H'/\H'.next=H.next+1/\Row H' H.next false true e z ((row.drop o).take (l*z) ++ new.l):=by
 obtain ⟨cc,h2,rfl⟩:=hr;obtain ⟨old,h3,h4⟩:=Ce.sub_ex (c:=cc) (o:=o) (n:=l*z) hl;refine ⟨H.new (.cells (Ce.app old new) e z true false),?_,HX.new _ _,rfl,?_⟩
 ·show orec none (fun n=>orec none (fun new=>brec none (appS e z b n new (.sl i o l c false) H) new.one) (srcF z x n H)) (lenOf x)=_
  rw [hx];show orec none (fun new=>brec none (appS e z b n new (.sl i o l c false) H) new.one) (srcF z x n H)=_
  rw [zls,hsrc];show brec none (appS e z b n new (.sl i o l c false) H) new.one=_
  rw [h1];show brec (appG e z b i o l c false n new H) _ (Nat.ble (l+n) c)=_
  rw [show Nat.ble (l+n) c=false from by cases h:Nat.ble (l+n) c with|false=>rfl|true=>have:=qf1 h;omega]
  show (match Nat.ble (Nat.mul (Nat.add l n) b) 140737488355328 && Nat.ble (Nat.add l n) 9223372036854775807 with
   |false=>none
   |true=>orec none (fun old=>brec (slNew (Nat.add l n) (.cells (Ce.app old new) e z true false) H) (appO e z i o l c n old new H) false) (subCF H i o (Nat.mul l z)))=_
  rw [show Nat.ble (Nat.mul (Nat.add l n) b) 140737488355328=true from qh hb,show Nat.ble (Nat.add l n) 9223372036854775807=true from qh hm,zjf]
  have:H.subC i o (Nat.mul l z)=some old:=by unfold AH.subC;rw [h2];exact h3
  rw [this];exact zkf _ _ _
 ·have:=Row.new hh (Ce.app old new) e z true false
  rwa [Ce.app_l,h4] at this
theorem Ap.app {e z b:Nat}{H:AH}{s x:AV}{n m N:Nat}{l:List AV}{new:Ce}(h:Ap H s n l e z N) (hx:lenOf x=some m) (hsrc:zhb z x m H=some new) (h1:new.one=true) (hnl:new.l.length=m*z) (hm0:1<=m)
  (hb:(n+m)*b<=140737488355328) (hm:n+m<=9223372036854775807) (hh:H.hide= []) (hlo:H.lo<=N) (hN:N<=H.next) :
  ∃s' H',appX e z b [s,x] H=some (s',H')/\Ap H' s' (n+m) (l ++ new.l) e z N/\HP (blkNe s) H H'/\H'.next=H.next+1/\(∀j,j<H.next->blkNe s' j):=by
 have start:∀s:AV,appX e z b [s,x] H=appS e z b m new s H:=fun s=>by
  show orec none (fun n=>orec none (fun new=>brec none (appS e z b n new s H) new.one) (srcF z x n H)) (lenOf x)=_
  rw [hx];show orec none (fun new=>brec none (appS e z b m new s H) new.one) (srcF z x m H)=_
  rw [zls,hsrc];show brec none (appS e z b m new s H) new.one=_
  rw [h1];rfl
 obtain ⟨h0,⟨rfl,rfl⟩|⟨i,rfl,⟨cc,h2,rfl⟩,hNi,hi⟩⟩:=h
 ·have hl0:l= []:=ql1 oM
  subst hl0;refine ⟨.sl H.next 0 m m true,H.new (.cells new e z true false),?_,⟨by simpa using hnl,.inr ⟨H.next,by simp,?_,hN,qc1 _⟩⟩,(HX.new _ _).hp _,rfl,fun j hj=>zla oM⟩
  ·rw [start]
   show brec (match Nat.ble (Nat.mul m b) 140737488355328 && Nat.ble m 9223372036854775807 with
    |false=>none
    |true=>slNew m (.cells new e z true false) H) (some (.nilSl,H)) (Nat.beq m 0)=_
   rw [show Nat.beq m 0=false from by cases m with|zero=>omega|succ m=>rfl]
   rw [show Nat.ble (Nat.mul m b) 140737488355328=true from qh (by rw [qu1] at hb;exact hb),show Nat.ble m 9223372036854775807=true from qh oM]
   exact zkf _ _ _
  ·have:=Row.new hh new e z true false
   simpa using this
 ·have hsub:∃old,H.subC i 0 (n*z)=some old/\old.l=cc.l:=by
   obtain ⟨old,h3,h4⟩:=Ce.sub_ex (c:=cc) (o:=0) (n:=n*z) oM
   refine ⟨old,by unfold AH.subC;rw [h2];exact h3,?_⟩
   rw [h4,qt2,qx oM]
  obtain ⟨old,h3,h4⟩:=hsub;refine ⟨.sl H.next 0 (n+m) (n+m) true,(H.put i .defd).new (.cells (Ce.app old new) e z true false),?_,⟨by rw [qy,h0,hnl,qy4],.inr ⟨H.next,rfl,?_,hN,qc1 _⟩⟩,?_,rfl,fun j hj=>zla oM⟩
  ·rw [start]
   show brec (appG e z b i 0 n n true m new H) _ (Nat.ble (n+m) n)=_
   rw [show Nat.ble (n+m) n=false from by cases h:Nat.ble (n+m) n with|false=>rfl|true=>have:=qf1 h;omega]
   show (match Nat.ble (Nat.mul (Nat.add n m) b) 140737488355328 && Nat.ble (Nat.add n m) 9223372036854775807 with
    |false=>none
    |true=>orec none (fun old=>brec (slNew (Nat.add n m) (.cells (Ce.app old new) e z true false) H) (appO e z i 0 n n m old new H) true) (subCF H i 0 (Nat.mul n z)))=_
   rw [show Nat.ble (Nat.mul (Nat.add n m) b) 140737488355328=true from qh hb,show Nat.ble (Nat.add n m) 9223372036854775807=true from qh hm,zjf]
   rw [show H.subC i 0 (Nat.mul n z)=some old from h3]
   show appO e z i 0 n n m old new H=_
   unfold appO;rw [show Nat.ble H.lo i=true from qh oM,zsk,h2]
   show appD e z i 0 n n m old new H cc e z true false=_
   unfold appD;rw [show (Nat.beq e e && Nat.beq z z && true && !false && Nat.beq cc.len (Nat.add 0 (Nat.mul n z)))=true from by
    rw [show Nat.beq e e=true from qr2 e,show Nat.beq z z=true from qr2 z,Ce.len_l,h0,show Nat.add 0 (Nat.mul n z)=n*z from qu1 _]
    simp]
   simp only [zkf,zgp];rfl
  ·have:=Row.new (H:=H.put i .defd) hh (Ce.app old new) e z true false
   rw [Ce.app_l,h4] at this;exact this
  ·refine (HP.put H i .defd).trans ((HX.new (H.put i .defd) (.cells (Ce.app old new) e z true false)).hp fun _=>True) fun j hj hb=>⟨fun h=> ?_,trivial⟩
   subst h;exact hb _ _ _ _ rfl
theorem nil_eq {L:Lk}{t e:Nat}(ht:L.under t=some (.slice e)) (xo yo:Operand){v:AV}{H:AH}{n:Nat}(h:IsSl H v n):(v= .nilSl/\n=0/\binF .eql (evBin L .eql t xo yo) v .nilSl=some (.bool true))\/(∃i o c op,v= .sl i o n c op/\binF .eql (evBin L .eql t xo yo) v .nilSl=some (.bool false)):=by
 rcases h with ⟨rfl,rfl⟩|⟨i,o,c,op,rfl,_⟩
 ·left
  refine ⟨rfl,rfl,?_⟩;rw [zyl];unfold evBin evEq;rw [zag];simp only [ht]
 ·right
  refine ⟨i,o,c,op,rfl,?_⟩;rw [zyl];unfold evBin evEq;rw [zag];simp only [ht]
structure Hd (p:Prop):Prop where
 out:p
theorem zfj {L:Lk}{s:List Kf}{T:Tr AV}{H:AH}{Q:PostC}{d:Option S2}{sl:Nat}{want:Bool}{a b:K2}(hx:gT T sl= .undef) (hb:RK L b s (putS d .undef T) H Q):RK L (.gd (sOf sl) want d a b) s T H Q:=by
 refine ⟨?_⟩;show Comes Q (fun rec=>brec (runK' b L rec (kOf L rec s .normal) (putS d .undef T) H) (runK' a L rec (kOf L rec s .normal) T H) (ztk want ((sOf sl).get T))) L
 rw [zrk];have:ztk want (T.get sl)=false:=by
  unfold gT at hx;cases hg:T.get sl with
  |none=>rfl
  |some v =>
   rw [hg] at hx;have:v= .undef:=hx;subst this;rfl
 rw [this];exact hb.h
theorem zmt (l:List AV):zln 0 l= []:=rfl
theorem zie1 (l:List AV):restN 0 l=l:=rfl
abbrev evl:=qa @ev_tO (qa @zyd1 (qa @zwl1 (qa @zfh1 (qa @zhw (qa @zzd1 (qa @zgh1 (qa @zae1 (qa @zqn (qa @zts (qa @zus (qa @zvs (qa @hIn_f (qa @zml (qa @Nat.zero_ne_one (qa @Nat.one_ne_zero (qa @zws (qa @zxs (qa @zys (qa @zgt (qa @zft (qa @zzs (qa @zat (qa @zbt (qa @zct (qa @zdt (qa @zet (qa @fw64 (qa @zee1 (qa @zht (qa @zit (qa @exN0 (qa @exN1 (qa @exN2 (qa @zrn (qa @zfe1 (qa @min2 (qa @max2 (qa @qg2 (qa @qu1 (qa @qx4 (qa @qk4 (qa @zdr (qa @qo (qa @qp (qa @ql5 (qa @qo5 (qa @zmt (@zie1))))))))))))))))))))))))))))))))))))))))))))))))
abbrev bvl:=qa @AV.bool.injEq (qa @AV.int.injEq (qa @qs (qa @qa4 (qa @qh4 (qa @qr5 (@qg6))))))
def hA (bs:List ABlk):AH:= {tree:=Tr.ofList bs,next:=bs.length,lo:=0,hide:= []}
theorem zty (bs:List ABlk) (i:Nat):(hA bs).get i=bs[i]? :=by
 unfold AH.get;have:(hA bs).vis i=true:=rfl;rw [this];exact Tr.get_ofList bs i
theorem hA_wf (bs:List ABlk):(hA bs).Wf:=⟨fun i b h=>by
  have:bs[i]? =some b:=by rw [← Tr.get_ofList];exact h
  exact (qq.1 this).1,qh2 _,fun r hr=>by cases hr⟩
theorem zje1 {L:Lk}{P:Program}(hL:LOk L P) (hX:∀B,ExtOk L P B){f:FuncId}{fn:Func}{c:Code}(hf:L.func f=some fn) (hb:fn.body=some c){w:World}(bs:List (ABlk×EB)){args:List AV}{us:List Value}{n:Nat}{out:Out}
  (ho:evF L n (.call f args (hA (bs.map Prod.fst)))=some out) (hov:zvg out= .bool true) (hown:∀b∈bs,b.1.own=false) (hbr:∀k b,bs[k]? =some b-> ∀E:Env,(∀k b,bs[k]? =some b->E k=b.2)->BRel E k b.1 w)
  (hargs:∀E:Env,(∀k b,bs[k]? =some b->E k=b.2)->concL E args=us) :
  Calls P f us.toArray w fun e w'=>e= .returned (.bool true)/\Below w.heap.size w w':=by
 rw [zul1] at ho;obtain ⟨E,hE⟩:∃E:Env,∀k b,bs[k]? =some b->E k=b.2:=⟨fun k=>match bs[k]? with|some b=>b.2|none=>⟨0,0,0⟩,fun k b hk=>by simp only [hk]⟩
 have hown':∀i b,(hA (bs.map Prod.fst)).get i=some b->b.own=false:=fun i b hg=>by
  rw [zty,qi1] at hg;cases hbi:bs[i]? with
  |none=>rw [hbi] at hg;cases hg
  |some p=>rw [hbi] at hg;cases hg;exact hown p (qj6 hbi)
 have hagree:∀E',Agree (hA (bs.map Prod.fst)).next E E'-> ∀k b,bs[k]? =some b->E' k=b.2:=fun E' hA' k b hk=>by
  rw [hA' k (by show k<(bs.map Prod.fst).length;rw [qt3];exact (qq.1 hk).1)]
  exact hE k b hk
 have hS:St w.heap.size E (hA (bs.map Prod.fst)) w:=fun E' hA'=>by
  refine ⟨fun i b hg=> ?_,fun i j b c hg _ _ ho=>(by rw [hown' i b hg] at ho;cases ho),fun i b hg ho=>(by rw [hown' i b hg] at ho;cases ho),qn _⟩
  rw [zty,qi1] at hg;cases hbi:bs[i]? with
  |none=>rw [hbi] at hg;cases hg
  |some p=>rw [hbi] at hg;cases hg;exact hbr i p hbi E' (hagree E' hA')
 have hc:=(zzq hL (hX w.heap.size) n).call f args _ _ ho E w us (hA_wf _) hS (fun E' hA'=>(hargs E' (hagree E' hA')).symm)
 unfold CallOk at hc;rw [zif hL hf hb] at hc;refine (CallsIn.calls hc fun k=>zfn zgf k).mono fun e w1 ⟨u,he,E1,h1,_,h3,_⟩=> ?_
 subst he;rw [hov] at h1;refine ⟨by rw [h1.self];rfl,⟨h3.os,h3.tape,h3.output,h3.size,fun i hi=> ?_⟩⟩
 exact h3.frame i hi fun ⟨j,b,hg,ho,_⟩=>by rw [hown' j b hg] at ho;cases ho
theorem arg_sl (k:Nat){w:World}{x:Addr}{len cap e z:Nat}{l:List AV}(hsp:x.spot=none) (hblk:∃cs e fz,w.heap[x.block]? =some (.cells cs e fz)) (hcell:∀(E:Env) j v,l[j]? =some v->w.cell? ⟨x.block,x.off+j,none⟩=some (conc E v)) :
  (∀E:Env,E k=⟨x.block,x.off,0⟩->conc E (.sl k 0 len cap false)= .slice (some x) len cap)/\(∀E:Env,E k=⟨x.block,x.off,0⟩->BRel E k (.cells (.lst l) e z false true) w):=by
 obtain ⟨xb,xo,xs⟩:=x;simp only at hsp;subst hsp;refine ⟨fun E hE=> ?_,fun E hE=> ?_⟩
 ·show Value.slice (some ⟨(E k).blk,(E k).off+0,none⟩) len (cap+0)=_
  rw [hE];rfl
 ·obtain ⟨cs,e',fz,hb⟩:=hblk
  refine ⟨cs,e',fz,by rw [hE];exact hb,fun j v hj=> ?_,fun h=>by cases h⟩
  have:=hcell E j v hj;rw [hE];unfold World.cell? at this;simp only [hb,qc4,qj1,qq3] at this;exact this
theorem zxk {x:Addr}(h:x.spot=none) (i:Nat):x.add i=⟨x.block,x.off+i,none⟩:=by
 obtain ⟨b,o,s⟩:=x;simp only at h;subst h;unfold Addr.add;split
 ·next h=>subst h;rfl
 ·rfl
theorem znt {P:Program}{w:World}{base:Nat}{t e:TypeId}{x:Addr}{len cap:Nat}(ht:P.underlying t=some (.slice e)) (h:Value.okWide P w .any base t (.slice (some x) len cap)) :
  x.spot=none/\ ∃cs e fz,w.heap[x.block]? =some (.cells cs e fz):=by
 unfold Value.okWide at h;rw [ht] at h;simp only at h;unfold Cell.okWide at h;rw [ht] at h;simp only at h;unfold Cell.ok at h;rw [ht] at h;simp only at h;obtain ⟨_,_,_,hs,row,cells,hsh,_⟩:=h;refine ⟨hs,?_⟩;unfold World.shape? at hsh;split at hsh
 ·next c el fz hx=>exact ⟨_,_,_,hx⟩
 ·cases hsh
structure Arg (w:World) (k:Nat) (u:Value) (R:AH->AV->Prop) (b:ABlk×EB) (v:AV):Prop where
 own:b.1.own=false
 br:∀E:Env,E k=b.2->BRel E k b.1 w
 val:∀E:Env,E k=b.2->conc E v=u
 rd:∀bs:List ABlk,bs[k]? =some b.1->R (hA bs) v
theorem zuy (w:World) (k:Nat){R:AH->AV->Prop}(h:∀H,R H .nilSl):Arg w k (.slice none 0 0) R (.defd,⟨0,0,0⟩) .nilSl :=
 ⟨rfl,fun _ _=>trivial,fun _ _=>rfl,fun _ _=>h _⟩
theorem zkh1 (k:Nat){w:World}{x:Addr}{len cap e z:Nat}{l:List AV}{R:AH->AV->Prop}(hsp:x.spot=none) (hblk:∃cs e fz,w.heap[x.block]? =some (.cells cs e fz)) (hcell:∀(E:Env) j v,l[j]? =some v->w.cell? ⟨x.block,x.off+j,none⟩=some (conc E v))
  (hR:∀H,k<H.next->Row H k true false e z l->R H (.sl k 0 len cap false)):Arg w k (.slice (some x) len cap) R (.cells (.lst l) e z false true,⟨x.block,x.off,0⟩) (.sl k 0 len cap false):=by
 obtain ⟨h1,h2⟩:=arg_sl k (len:=len) (cap:=cap) (e:=e) (z:=z) (l:=l) hsp hblk hcell;exact ⟨rfl,h2,h1,fun bs hb=>hR _ (qq.1 hb).1 ⟨.lst l,by rw [zty];exact hb,rfl⟩⟩
def zC (L:Lk) (t:TypeId):Ce:=match L.zero t with|some z=>AV.toC z|none=>.lst []
def elB (z:Nat):AV->Nat->Nat->AV
 | .sl i o _ _ _,k,j=>.ptr i (o+k*z+j)
 |_,_,_=>.undef
theorem fa_el {H:AH}{v:AV}{n:Nat}(h:IsSl H v n){k:Nat}(hk:k<n) (z j:Nat):fa j (elA z v k)=some (elB z v k j):=by
 rcases h with ⟨rfl,rfl⟩|⟨i,o,c,op,rfl,_⟩
 ·omega
 ·rfl
structure SlZ (H:AH) (v:AV) (n z:Nat) (cs:List AV):Prop where
 len:cs.length=n*z
 hv:(v= .nilSl/\n=0)\/ ∃i o c op ro op' e z' l,v= .sl i o n c op/\i<H.next/\Row H i ro op' e z' l/\o+n*z<=l.length/\(l.drop o).take (n*z)=cs
theorem SlZ.is {H:AH}{v:AV}{n z:Nat}{cs:List AV}(h:SlZ H v n z cs):IsSl H v n:=by
 rcases h.hv with h|⟨i,o,c,op,ro,op',e,z',l,rfl,hi,hr,hl,_⟩
 ·exact .inl h
 ·exact hr.isSl hi oM
theorem SlZ.hp {H H':AH}{v:AV}{n z:Nat}{cs:List AV}(h:SlZ H v n z cs){p:Nat->Prop}(hp:HP p H H') (hb:∀i o c op,v= .sl i o n c op->p i):SlZ H' v n z cs:=by
 refine ⟨h.len,?_⟩;rcases h.hv with h|⟨i,o,c,op,ro,op',e,z',l,rfl,hi,hr,hl,hc⟩
 ·exact .inl h
 ·exact .inr ⟨i,o,c,op,ro,op',e,z',l,rfl,qa1 hi hp.next,hr.hp hp hi (hb _ _ _ _ rfl),hl,hc⟩
theorem SlZ.hx {H H':AH}{v:AV}{n z:Nat}{cs:List AV}(h:SlZ H v n z cs) (hx:HX H H'):SlZ H' v n z cs:=h.hp (hx.hp fun _=>True) fun _ _ _ _ _=>trivial
theorem SlZ.get {n z k j:Nat}{cs l:List AV}{o:Nat}(hc:(l.drop o).take (n*z)=cs) (hk:k<n) (hj:j<z):cs[k*z+j]? =l[o+k*z+j]? :=by
 subst hc;have:k*z+j<n*z:=by
  have:(k+1)*z<=n*z:=qd2 z hk;rw [qy4] at this;omega
 rw [qa2 this,qj2,qa6]
theorem SlZ.rd {H:AH}{v:AV}{n z:Nat}{cs:List AV}(h:SlZ H v n z cs){k j:Nat}(hk:k<n) (hj:j<z){x:AV}(hx:cs[k*z+j]? =some x):ld1 (elB z v k j) H=some x:=by
 rcases h.hv with ⟨rfl,rfl⟩|⟨i,o,c,op,ro,op',e,z',l,rfl,hi,hr,hl,hc⟩
 ·omega
 ·exact hr.rd ((SlZ.get hc hk hj).symm.trans hx)
theorem SlZ.rdN {H:AH}{v:AV}{n z:Nat}{cs:List AV}(h:SlZ H v n z cs){k:Nat}(hk:k<n):∃c:Ce,ldN z (elA z v k) H=some c.toV/\c.l=(cs.drop (k*z)).take z:=by
 rcases h.hv with ⟨rfl,rfl⟩|⟨i,o,c,op,ro,op',e,z',l,rfl,hi,hr,hl,hc⟩
 ·omega
 ·have h1:(k+1)*z<=n*z:=qd2 z hk
  rw [qy4] at h1;obtain ⟨c,h2,h3⟩:=hr.rdN (o:=o+k*z) (s:=z) oM
  refine ⟨c,h2,?_⟩;rw [h3,← hc,qf7,qj5,qk3,qs3 oM]
theorem SlZ.src {H:AH}{v:AV}{n z:Nat}{cs:List AV}(h:SlZ H v n z cs):∃new,zhb z v n H=some new/\new.l=cs:=by
 have hlen:=h.len;rcases h.hv with ⟨rfl,rfl⟩|⟨i,o,c,op,ro,op',e,z',l,rfl,hi,hr,hl,hc⟩
 ·refine ⟨.lst [],rfl,?_⟩
  exact (ql1 oM).symm
 ·obtain ⟨new,h1,h2⟩:=znp (z:=z) (m:=n) (c:=c) (op:=op) hr (o:=o) (n:=n) hl
  exact ⟨new,h1,by rw [h2,hc]⟩
theorem Ap.slZ {H:AH}{s:AV}{n e z N:Nat}{l:List AV}(h:Ap H s n l e z N):SlZ H s n z l:=by
 obtain ⟨h0,h|⟨i,rfl,hr,hN,hi⟩⟩:=h
 ·exact ⟨h0,.inl h⟩
 ·exact ⟨h0,.inr ⟨i,0,n,true,false,true,e,z,l,rfl,hi,hr,oM,by rw [qt2,qx oM]⟩⟩
theorem Row.slZ {H:AH}{i e z z' n c:Nat}{ro op op':Bool}{l:List AV}(h:Row H i ro op e z' l) (hi:i<H.next) (hl:l.length=n*z):SlZ H (.sl i 0 n c op') n z l :=
 ⟨hl,.inr ⟨i,0,c,op',ro,op,e,z',l,rfl,hi,h,oM,by rw [qt2,qx oM]⟩⟩
theorem zot {c:Ce}{x:AV}{l:List AV}(h:c.l=x::l) (hx:∀n,x≠ .int .u8 n):c.toV= .agg (x::l):=by
 cases c with
 |lst k=>show AV.agg k=_;rw [show k=x::l from h]
 |byt n N =>
  cases n with
  |zero=>cases h
  |succ n =>
   have:(AV.int .u8 (.ofNat (Nat.mod N 256))::bytesL n (Nat.div N 256))=x::l:=h
   injection this with h1 h2
   exact absurd h1.symm (hx _)
abbrev exV (p:Int×Int):AV:=.agg [.int .i64 p.1,.int .i64 p.2]
def exC:List (Int×Int)->List AV
 | []=> []
 |p::l=>.int .i64 p.1:: .int .i64 p.2::exC l
abbrev exG (l:List (Int×Int)) (k:Nat):Int×Int:=l.getD k (0,0)
theorem zvy:∀(l:List (Int×Int)){k:Nat},k<l.length->((exC l).drop (k*2)).take 2= [.int .i64 (exG l k).1,.int .i64 (exG l k).2]
 |p::l,0,_=>rfl
 |p::l,k+1,h=>by
  rw [show (k+1)*2=(k*2)+1+1 from oM]
  exact zvy l (by simpa using h)
abbrev SlX (H:AH) (v:AV) (l:List (Int×Int)):Prop:=SlZ H v l.length 2 (exC l)
theorem SlX.rdN {H:AH}{v:AV}{l:List (Int×Int)}(h:SlX H v l){k:Nat}(hk:k<l.length):ldN 2 (elA 2 v k) H=some (exV (exG l k)):=by
 obtain ⟨c,h1,h2⟩:=SlZ.rdN h hk;rw [zvy l hk] at h2;rw [h1,zot h2 (fun n hn=>by cases hn)]
end Go.Ev
abbrev Go.Ev.Ra.Z:=@Go.Ev.rc_reg
abbrev Go.Ev.Rb.Z:=@Go.Ev.rc_seq
abbrev Go.Ev.Rc.Z:=@Go.Ev.rk_done
abbrev Go.Ev.Rd.Zq:=@Go.Ev.rn_seq_n
abbrev Go.Ev.Re.Z:=@Go.Ev.rc_blk
abbrev Go.Ev.Rf.Z:=@Go.Ev.rc_skip
abbrev Go.Ev.Rg.Z:=@Go.Ev.rc_exit
abbrev Go.Ev.Rh.Z:=@Go.Ev.rc_ret
abbrev Go.Ev.Ri.Z:=@Go.Ev.rc_scp
abbrev Go.Ev.Rj.Z:=@Go.Ev.rn_seq_e
abbrev Go.Ev.Rk.Z:=@Go.Ev.rn_seq_r
abbrev Go.Ev.Rl.Z:=@Go.Ev.rn_blk_n
abbrev Go.Ev.Rm.Z:=@Go.Ev.rn_blk_r
abbrev Go.Ev.Rn.Z:=@Go.Ev.rn_blk_e
abbrev Go.Ev.Ro.Z:=@Go.Ev.rn_scp_n
abbrev Go.Ev.Rp.Z:=@Go.Ev.rn_scp_e
abbrev Go.Ev.Rq.Z:=@Go.Ev.rn_scp_r
abbrev Go.Ev.Rr.Z:=@Go.Ev.rk_sk
abbrev Go.Ev.Ra.Y:=@Go.Ev.rk_mv'
abbrev Go.Ev.Rb.Y:=@Go.Ev.rk_p1
abbrev Go.Ev.Rc.Y:=@Go.Ev.rk_p2
abbrev Go.Ev.Rd.Y:=@Go.Ev.rk_r1
abbrev Go.Ev.Re.Y:=@Go.Ev.rk_ln
abbrev Go.Ev.Rf.Y:=@Go.Ev.rk_ls
abbrev Go.Ev.Ra.X:=@Go.Ev.rc_cond
abbrev Go.Ev.Rb.X:=@Go.Ev.rk_gd
abbrev Go.Ev.Zu:=qa @Go.Ev.bvl (qa @ql5 (qa @qo5 @qu2))
namespace Go.Ev
structure RdE (L:Lk) (l:Nat) (args:List AV) (H:AH) (R:AV->AH->Prop):Prop where
 h:∃v H',R v H'/\ ∃n,∀m,n<=m->evF L m (.round l args H)=some (out1 v H')
section
variable {L:Lk}{s:List Kf}{T:Tr AV}{H:AH}{Q:PostC}{k:K2}{d:Option S2}
theorem run_rc {c:Code}{Q:PostC}(h:RC L (comp L c) [] T H Q):∃o:Out,Q o.ex o.T o.H/\ ∃n,∀m,n<=m->zzb L (evF L m) c T H=some o:=by
 obtain ⟨o,hq,n,hn⟩:=h.h;refine ⟨o,hq,n,fun m hm=> ?_⟩
 have h0:evC L (evF L m) (comp L c) (fun ex T H=>some ⟨ex,T,H⟩) T H=some o:=hn m hm
 rw [zcr] at h0;cases he:zzb L (evF L m) c T H with
 |none=>rw [he] at h0;cases h0
 |some o'=>rw [he] at h0;obtain ⟨ex',T',H'⟩:=o';exact h0
theorem rd_n {l n:Nat}{args:List AV}{ps:List Tmp}{asg bd:Code}{ca cb:C2}{T0:Tr AV}{R:AV->AH->Prop}(hlo:H.lo<=l) (hg:H.get l=some (.loop .ready none T0 n ps asg bd)) (hlen:Nat.beq (len args) (len ps)=true) (hca:comp L asg=ca) (hcb:comp L bd=cb)
  (h:RC L ca [] (zjc (ps.zip args) T0) H fun ex T1 H1=>ex= .normal/\ ∃T2 n2 ps2 as2 bd2,H1.get l=some (.loop .ready none T2 n2 ps2 as2 bd2) /\
   RC L cb [] T1 (H1.put l (.loop .busy none T2 n2 ps2 as2 bd2)) fun ex T3 H3=>ex= .normal/\ ∃p T4 n4 ps4 as4 bd4,H3.get l=some (.loop .busy p T4 n4 ps4 as4 bd4)/\R (.bool true) (H3.put l (.loop .ready none T4 n4 ps4 as4 bd4))):RdE L l args H R:=by
 subst hca hcb;obtain ⟨⟨ex1,T1,H1⟩,⟨hex,T2,n2,ps2,as2,bd2,hg2,h2⟩,m1,hm1⟩:=run_rc h;simp only at hex hg2 h2;subst hex;obtain ⟨⟨ex3,T3,H3⟩,⟨hex,p,T4,n4,ps4,as4,bd4,hg4,hR⟩,m2,hm2⟩:=run_rc h2;simp only at hex hg4 hR;subst hex;refine ⟨_,_,hR,max m1 m2+1,fun m hm=> ?_⟩
 obtain ⟨m,rfl⟩:∃m',m=m'+1:=⟨m - 1,oM⟩
 show zsy L (evF L m) l args H=_
 unfold zsy;rw [show Nat.ble H.lo l=true from qh hlo,hg]
 simp only [hlen,zeh1,hm1 m oM,hg2,hm2 m oM,hg4]
theorem rk_cr {w:Bool}{f:List AV->AH->Option Next1}{xs:List O2}{l:Nat}{args:List AV}{R:AV->AH->Prop}(hf:f (evs xs T) (hIn w H)=some (.round l args)) (hc:RdE L l args (hIn w H) R)
  (h:∀v H',R v H'->RK L k s (putS d v T) (hOut w H H') Q):RK L (.cn w f xs d k) s T H Q:=by
 obtain ⟨v,H',hR,n,hn⟩:=hc.h;obtain ⟨o,hQ,n2,h2⟩:=(h v H' hR).h;refine ⟨o,hQ,max n n2,fun m hm=> ?_⟩
 show orec none (nextO (evF L m) (hIn w H) (fun v H'=>runK' k L (evF L m) (kOf L (evF L m) s .normal) (putS d v T) (hOut w H H'))) (f (evs xs T) (hIn w H))=some o
 rw [hf];show orec none (outO (fun v H'=>runK' k L (evF L m) (kOf L (evF L m) s .normal) (putS d v T) (hOut w H H'))) (evF L m (.round l args (hIn w H)))=some o
 rw [hn m oM]
 exact h2 m oM
theorem rc_rng {f:O2}{ps:List Tmp}{asg bd:Code}{g:AV}{fid:FuncId}{args:List AV}{R:AV->AH->Prop}(hg:f.ev T=g) (he:zdc g [.yld H.next]=some (.enter fid args)) (hb:(match L.func fid with|some fn=>fn.body.isSome|none=>false)=true)
  (hc:FnE L fid args (H.new (.loop .ready none T 0 ps asg bd)) R) (h:∀v H',R v H'->H'.lo<=H.next/\(∃T2 n2 ps2 as2 bd2,H'.get H.next=some (.loop .ready none T2 n2 ps2 as2 bd2))/\RN L s .normal T (H'.put H.next .defd) Q):RC L (.rng f ps asg bd) s T H Q:=by
 obtain ⟨v,H',hR,n,hn⟩:=hc.h;obtain ⟨hlo,⟨T2,n2,ps2,as2,bd2,hgt⟩,hk⟩:=h v H' hR;obtain ⟨o,hQ,n3,h3⟩:=hk.h;refine ⟨o,hQ,max n n3+1,fun m hm=> ?_⟩
 show orec none (fun o=>zfw (kOf L (evF L m) s) o) (evF L m (.range (f.ev T) ps asg bd T H))=some o
 obtain ⟨m',rfl⟩:∃m',m=m'+1:=⟨m - 1,oM⟩
 have:evF L (m'+1) (.range (f.ev T) ps asg bd T H)=some ⟨.normal,T,H'.put H.next .defd⟩:=by
  show zsl1 L (evF L m') (f.ev T) ps asg bd T H=_
  unfold zsl1;rw [hg,he];cases hf:L.func fid with
  |none=>rw [hf] at hb;cases hb
  |some fn =>
   rw [hf] at hb;simp only at hb;cases hbd:fn.body with
   |none=>rw [hbd] at hb;cases hb
   |some c =>
    simp only [hf,hbd,hn m' oM,show (out1 v H').H=H' from rfl,show Nat.ble H'.lo H.next=true from qh hlo,hgt]
 rw [this];exact h3 (m'+1) oM
end
noncomputable section
def pS (d:Nat) (v:AV) (T:Tr AV):Tr AV:=putS (some (sOf d)) v T
def o2 (x:Operand):O2:=orec (.con .undef) (fun y=>y) (opd x)
def m_ (x:O2) (d:Nat) (k:K2):K2:=.mv x (some (sOf d)) k
def sk_ (d:Nat) (k:K2):K2:=.sk (some (sOf d)) k
def p_ (f:AV->Option AV) (x:O2) (d:Nat) (k:K2):K2:=.p1 f x (some (sOf d)) k
def fa_ (o:Nat) (x:O2) (d:Nat) (k:K2):K2:=.p1 (fa o) x (some (sOf d)) k
def ex_ (i:Nat) (x:O2) (d:Nat) (k:K2):K2:=.p1 (exN i) x (some (sOf d)) k
def nt_ (x:O2) (d:Nat) (k:K2):K2:=.p1 notF x (some (sOf d)) k
def nl_ (x:O2) (d:Nat) (k:K2):K2:=.p1 nilF x (some (sOf d)) k
def nz_ (x:O2) (k:K2):K2:=.p1 nilF x none k
def q_ (f:AV->AV->Option AV) (x y:O2) (d:Nat) (k:K2):K2:=.p2 f x y (some (sOf d)) k
def ix_ (z:Nat) (x y:O2) (d:Nat) (k:K2):K2:=.p2 (ixS z) x y (some (sOf d)) k
def b_ (L:Lk) (op:BinOp) (t:Nat) (x y:Operand) (d:Nat) (k:K2):K2:=.p2 (binF op (evBin L op t x y)) (o2 x) (o2 y) (some (sOf d)) k
def l_ (x:O2) (d:Nat) (k:K2):K2:=.r1 ld1 x (some (sOf d)) k
def lN_ (n:Nat) (x:O2) (d:Nat) (k:K2):K2:=.r1 (ldN n) x (some (sOf d)) k
def n_ (f:List AV->AH->Option AV) (xs:List O2) (d:Nat) (k:K2):K2:=.ln f xs (some (sOf d)) k
def le_ (L:Lk) (t:Nat) (x:O2) (d:Nat) (k:K2):K2:=.ln (fun xs H=>fstO (zea .len L [t] xs H)) [x] (some (sOf d)) k
def pk_ (a b c:O2) (d:Nat) (k:K2):K2:=.ln (fun xs _=>pickF xs) [a,b,c] (some (sOf d)) k
def bu_ (L:Lk) (t:Nat) (is:List Nat) (xs:List O2) (d:Nat) (k:K2):K2:=.ln (fun xs _=>zua L t (zipF is xs)) xs (some (sOf d)) k
def ls_ (f:List AV->AH->Option AV) (xs:List O2) (o:Oper) (d:Nat) (k:K2):K2:=.ls f xs o (some (sOf d)) k
def al_ (w:Bool) (c:Ce) (e s d:Nat) (k:K2):K2:=.al w (alF c e s) (some (sOf d)) k
def bx_ (w:Bool) (e s:Nat) (x:O2) (d:Nat) (k:K2):K2:=.m1 w (fun v H=>alF v.toC e s H) x (some (sOf d)) k
def a_ (w:Bool) (f:AH->Option (AV×AH)) (d:Nat) (k:K2):K2:=.al w f (some (sOf d)) k
def h1_ (w:Bool) (f:AV->AH->Option (AV×AH)) (x:O2) (d:Nat) (k:K2):K2:=.m1 w f x (some (sOf d)) k
def hn_ (w:Bool) (f:List AV->AH->Option (AV×AH)) (xs:List O2) (d:Nat) (k:K2):K2:=.hn w f xs (some (sOf d)) k
def hz_ (w:Bool) (f:List AV->AH->Option (AV×AH)) (xs:List O2) (k:K2):K2:=.hn w f xs none k
def s1_ (w:Bool) (L:Lk) (t:Nat) (x y:O2) (k:K2):K2:=.st w (st1 L t) x y none k
def sN_ (w:Bool) (n:Nat) (x y:O2) (k:K2):K2:=.st w (stN n) x y none k
def cl_ (w:Bool) (f:Nat) (xs:List O2) (d:Nat) (k:K2):K2:=.cl w f xs (some (sOf d)) k
def cz_ (w:Bool) (f:Nat) (xs:List O2) (k:K2):K2:=.cl w f xs none k
def cf_ (w:Bool) (xs:List O2) (d:Nat) (k:K2):K2:=.cn w (fun xs _=>zdc (hd xs) (tl xs)) xs (some (sOf d)) k
def cy_ (w:Bool) (xs:List O2) (k:K2):K2:=.cn w (fun xs _=>zdc (hd xs) (tl xs)) xs none k
def o_ (c:Nat) (w:Bool) (d:Nat) (A:K2->K2) (k:K2):K2:=.gd (sOf c) w (some (sOf d)) (A k) k
def oz_ (c:Nat) (w:Bool) (A:K2->K2) (k:K2):K2:=.gd (sOf c) w none (A k) k
def oR (x:Option AV) (L:Lk) (d:Nat) (k:K2) (s:List Kf) (T:Tr AV) (H:AH) (Q:PostC):Prop:= ∃v,x=some v/\RK L k s (pS d v T) H Q
def oZ (x:Option AV) (L:Lk) (k:K2) (s:List Kf) (T:Tr AV) (H:AH) (Q:PostC):Prop:= ∃v,x=some v/\RK L k s T H Q
def oH (w:Bool) (x:Option (AV×AH)) (L:Lk) (d:Nat) (k:K2) (s:List Kf) (T:Tr AV) (H:AH) (Q:PostC):Prop:= ∃p:AV×AH,x=some p/\RK L k s (pS d p.1 T) (hOut w H p.2) Q
def oY (w:Bool) (x:Option (AV×AH)) (L:Lk) (k:K2) (s:List Kf) (T:Tr AV) (H:AH) (Q:PostC):Prop:= ∃p:AV×AH,x=some p/\RK L k s T (hOut w H p.2) Q
def oS (w:Bool) (x:Option AH) (L:Lk) (k:K2) (s:List Kf) (T:Tr AV) (H:AH) (Q:PostC):Prop:= ∃H',x=some H'/\RK L k s T (hOut w H H') Q
def cR (w:Bool) (L:Lk) (f:Nat) (args:List AV) (H:AH) (d:Nat) (k:K2) (s:List Kf) (T:Tr AV) (Q:PostC):Prop:=RK L (.cl w f (args.map O2.con) (some (sOf d)) k) s T H Q
def cZ (w:Bool) (L:Lk) (f:Nat) (args:List AV) (H:AH) (k:K2) (s:List Kf) (T:Tr AV) (Q:PostC):Prop:=RK L (.cl w f (args.map O2.con) none k) s T H Q
def cF (w:Bool) (x:Option Next1) (L:Lk) (H:AH) (d:Nat) (k:K2) (s:List Kf) (T:Tr AV) (Q:PostC):Prop:=RK L (.cn w (fun _ _=>x) [] (some (sOf d)) k) s T H Q
def cY (w:Bool) (x:Option Next1) (L:Lk) (H:AH) (k:K2) (s:List Kf) (T:Tr AV) (Q:PostC):Prop:=RK L (.cn w (fun _ _=>x) [] none k) s T H Q
def bR (x:AV) (L:Lk) (a b:C2) (s:List Kf) (T:Tr AV) (H:AH) (Q:PostC):Prop:= ∃c,x= .bool c/\(c=true->RC L a s T H Q)/\(c=false->RC L b s T H Q)
def gR (x:AV) (w:Bool) (L:Lk) (d:Nat) (a b:K2) (s:List Kf) (T:Tr AV) (H:AH) (Q:PostC):Prop:=(x= .bool w->RK L a s T H Q)/\(x≠ .bool w->RK L b s (pS d .undef T) H Q)
def gZ (x:AV) (w:Bool) (L:Lk) (a b:K2) (s:List Kf) (T:Tr AV) (H:AH) (Q:PostC):Prop:=(x= .bool w->RK L a s T H Q)/\(x≠ .bool w->RK L b s T H Q)
end
section
variable {L M:Lk}{s:List Kf}{T:Tr AV}{H H':AH}{Q:PostC}{k a b:K2}{x y z:O2}{d:Nat}{v:AV}{w:Bool}{xs:List O2}
theorem comes_orec {α:Type}{u:Option α}{G:Rec->α->Option Out}:Comes Q (fun rec=>orec none (G rec) u) L↔ ∃v,u=some v/\Comes Q (fun rec=>G rec v) L:=by
 cases u with
 |none=>exact ⟨fun ⟨o,_,n,hn⟩=>(by have:=hn n (qn _);cases this),fun ⟨_,h,_⟩=>(by cases h)⟩
 |some v=>exact ⟨fun h=>⟨v,rfl,h⟩,fun ⟨v',h,hc⟩=>(by cases h;exact hc)⟩
theorem zqi {k k':K2}{s':List Kf}{T':Tr AV}(h:Comes Q (fun rec=>runK' k L rec (kOf L rec s .normal) T H) L↔Comes Q (fun rec=>runK' k' L rec (kOf L rec s' .normal) T' H') L):RK L k s T H Q=RK L k' s' T' H' Q :=
 propext ⟨fun h'=>⟨h.1 h'.h⟩,fun h'=>⟨h.2 h'.h⟩⟩
theorem RK_m:RK L (m_ x d k) s T H Q=RK L k s (pS d (x.ev T) T) H Q:=zqi qg7
theorem RK_sk:RK L (sk_ d k) s T H Q=RK L k s (pS d .undef T) H Q:=zqi qg7
theorem zxh {k':K2}{u:Option AV}(h:∀rec,runK' k' L rec (kOf L rec s .normal) T H=orec none (fun v=>runK' k L rec (kOf L rec s .normal) (pS d v T) H) u):RK L k' s T H Q=oR u L d k s T H Q:=by
 refine propext ⟨fun h'=> ?_,fun ⟨v,hv,h'⟩=>⟨?_⟩⟩
 ·have h1:=h'.h
  simp only [h] at h1;obtain ⟨v,hv,hc⟩:=comes_orec.1 h1;exact ⟨v,hv,⟨hc⟩⟩
 ·simp only [h]
  exact comes_orec.2 ⟨v,hv,h'.h⟩
theorem oz_iff {k':K2}{u:Option AV}(h:∀rec,runK' k' L rec (kOf L rec s .normal) T H=orec none (fun _=>runK' k L rec (kOf L rec s .normal) T H) u):RK L k' s T H Q=oZ u L k s T H Q:=by
 refine propext ⟨fun h'=> ?_,fun ⟨v,hv,h'⟩=>⟨?_⟩⟩
 ·have h1:=h'.h
  simp only [h] at h1;obtain ⟨v,hv,hc⟩:=comes_orec.1 h1;exact ⟨v,hv,⟨hc⟩⟩
 ·simp only [h]
  exact comes_orec.2 ⟨v,hv,h'.h⟩
theorem zam1 {k':K2}{u:Option (AV×AH)}(h:∀rec,runK' k' L rec (kOf L rec s .normal) T H=orec none (prodO (fun v H'=>runK' k L rec (kOf L rec s .normal) (pS d v T) (hOut w H H'))) u):RK L k' s T H Q=oH w u L d k s T H Q:=by
 refine propext ⟨fun h'=> ?_,fun ⟨p,hv,h'⟩=>⟨?_⟩⟩
 ·have h1:=h'.h
  simp only [h] at h1;obtain ⟨p,hv,hc⟩:=comes_orec.1 h1;exact ⟨p,hv,⟨hc⟩⟩
 ·simp only [h]
  exact comes_orec.2 ⟨p,hv,h'.h⟩
theorem oy_iff {k':K2}{u:Option (AV×AH)}(h:∀rec,runK' k' L rec (kOf L rec s .normal) T H=orec none (prodO (fun _ H'=>runK' k L rec (kOf L rec s .normal) T (hOut w H H'))) u):RK L k' s T H Q=oY w u L k s T H Q:=by
 refine propext ⟨fun h'=> ?_,fun ⟨p,hv,h'⟩=>⟨?_⟩⟩
 ·have h1:=h'.h
  simp only [h] at h1;obtain ⟨p,hv,hc⟩:=comes_orec.1 h1;exact ⟨p,hv,⟨hc⟩⟩
 ·simp only [h]
  exact comes_orec.2 ⟨p,hv,h'.h⟩
theorem os_iff {k':K2}{u:Option AH}(h:∀rec,runK' k' L rec (kOf L rec s .normal) T H=orec none (fun H'=>runK' k L rec (kOf L rec s .normal) T (hOut w H H')) u):RK L k' s T H Q=oS w u L k s T H Q:=by
 refine propext ⟨fun h'=> ?_,fun ⟨p,hv,h'⟩=>⟨?_⟩⟩
 ·have h1:=h'.h
  simp only [h] at h1;obtain ⟨p,hv,hc⟩:=comes_orec.1 h1;exact ⟨p,hv,⟨hc⟩⟩
 ·simp only [h]
  exact comes_orec.2 ⟨p,hv,h'.h⟩
theorem RK_p {f:AV->Option AV}:RK L (p_ f x d k) s T H Q=oR (f (x.ev T)) L d k s T H Q:=zxh fun _=>rfl
theorem RK_fa {o:Nat}:RK L (fa_ o x d k) s T H Q=oR (fa o (x.ev T)) L d k s T H Q:=zxh fun _=>rfl
theorem RK_ex {i:Nat}:RK L (ex_ i x d k) s T H Q=oR (exN i (x.ev T)) L d k s T H Q:=zxh fun _=>rfl
theorem RK_nt:RK L (nt_ x d k) s T H Q=oR (notF (x.ev T)) L d k s T H Q:=zxh fun _=>rfl
theorem RK_nl:RK L (nl_ x d k) s T H Q=oR (nilF (x.ev T)) L d k s T H Q:=zxh fun _=>rfl
theorem RK_nz:RK L (nz_ x k) s T H Q=oZ (nilF (x.ev T)) L k s T H Q:=oz_iff fun _=>rfl
theorem RK_q {f:AV->AV->Option AV}:RK L (q_ f x y d k) s T H Q=oR (f (x.ev T) (y.ev T)) L d k s T H Q:=zxh fun _=>rfl
theorem RK_ix {n:Nat}:RK L (ix_ n x y d k) s T H Q=oR (ixS n (x.ev T) (y.ev T)) L d k s T H Q:=zxh fun _=>rfl
theorem RK_b {op:BinOp}{t:Nat}{p q:Operand}:RK L (b_ M op t p q d k) s T H Q=oR (binF op (evBin M op t p q) ((o2 p).ev T) ((o2 q).ev T)) L d k s T H Q:=zxh fun _=>rfl
theorem RK_l:RK L (l_ x d k) s T H Q=oR (ld1 (x.ev T) H) L d k s T H Q:=zxh fun _=>rfl
theorem RK_lN {n:Nat}:RK L (lN_ n x d k) s T H Q=oR (ldN n (x.ev T) H) L d k s T H Q:=zxh fun _=>rfl
theorem RK_n {f:List AV->AH->Option AV}:RK L (n_ f xs d k) s T H Q=oR (f (evs xs T) H) L d k s T H Q:=zxh fun _=>rfl
theorem RK_le {t:Nat}:RK L (le_ M t x d k) s T H Q=oR (fstO (zea .len M [t] [x.ev T] H)) L d k s T H Q:=zxh fun _=>rfl
theorem RK_pk:RK L (pk_ x y z d k) s T H Q=oR (pickF [x.ev T,y.ev T,z.ev T]) L d k s T H Q:=zxh fun _=>rfl
theorem RK_bu {t:Nat}{is:List Nat}:RK L (bu_ M t is xs d k) s T H Q=oR (zua M t (zipF is (evs xs T))) L d k s T H Q:=zxh fun _=>rfl
theorem RK_ls {f:List AV->AH->Option AV}{o:Oper}(h:f (evs xs T) H=some v):RK L (ls_ f xs o d k) s T H Q=RK L k s (pS d v T) H Q:=by
 refine zqi ?_;show Comes Q (fun rec=>orec (orec none (prodO (fun v H'=>runK' k L rec (kOf L rec s .normal) (putS (some (sOf d)) v T) H')) (evEnd L T o H)) (fun v=>runK' k L rec (kOf L rec s .normal) (putS (some (sOf d)) v T) H) (f (evs xs T) H)) L↔_
 rw [h];exact qg7
theorem RK_al {c:Ce}{e n:Nat}:RK L (al_ w c e n d k) s T H Q=RK L k s (pS d (.ptr H.next 0) T) (H.new (.cells c e n false false)) Q:=by
 refine zqi ?_;show Comes Q (fun rec=>orec none (prodO (fun v H'=>runK' k L rec (kOf L rec s .normal) (putS (some (sOf d)) v T) (hOut w H H'))) (alF c e n (hIn w H))) L↔_
 rw [zod1];cases w<;>exact qg7
theorem RK_bx {e n:Nat}:RK L (bx_ w e n x d k) s T H Q=RK L k s (pS d (.ptr H.next 0) T) (H.new (.cells (x.ev T).toC e n false false)) Q:=by
 refine zqi ?_;show Comes Q (fun rec=>orec none (prodO (fun v H'=>runK' k L rec (kOf L rec s .normal) (putS (some (sOf d)) v T) (hOut w H H'))) (alF (x.ev T).toC e n (hIn w H))) L↔_
 rw [zod1];cases w<;>exact qg7
theorem RK_a {f:AH->Option (AV×AH)}:RK L (a_ w f d k) s T H Q=oH w (f (hIn w H)) L d k s T H Q:=zam1 fun _=>rfl
theorem RK_h1 {f:AV->AH->Option (AV×AH)}:RK L (h1_ w f x d k) s T H Q=oH w (f (x.ev T) (hIn w H)) L d k s T H Q:=zam1 fun _=>rfl
theorem RK_hn {f:List AV->AH->Option (AV×AH)}:RK L (hn_ w f xs d k) s T H Q=oH w (f (evs xs T) (hIn w H)) L d k s T H Q:=zam1 fun _=>rfl
theorem RK_hz {f:List AV->AH->Option (AV×AH)}:RK L (hz_ w f xs k) s T H Q=oY w (f (evs xs T) (hIn w H)) L k s T H Q:=oy_iff fun _=>rfl
theorem RK_s1 {t:Nat}:RK L (s1_ w M t x y k) s T H Q=oS w (st1 M t (x.ev T) (y.ev T) (hIn w H)) L k s T H Q:=os_iff fun _=>rfl
theorem RK_sN {n:Nat}:RK L (sN_ w n x y k) s T H Q=oS w (stN n (x.ev T) (y.ev T) (hIn w H)) L k s T H Q:=os_iff fun _=>rfl
theorem zdm (l:List AV):evs (l.map O2.con) T=l:=by
 induction l with
 |nil=>rfl
 |cons a l ih=>show a::evs (l.map O2.con) T=_;rw [ih]
theorem RK_cl {f:Nat}:RK L (cl_ w f xs d k) s T H Q=cR w L f (evs xs T) H d k s T Q:=by
 refine zqi ?_;show Comes Q (fun rec=>orec none (outO (fun v H'=>runK' k L rec (kOf L rec s .normal) (putS (some (sOf d)) v T) (hOut w H H'))) (rec (.call f (evs xs T) (hIn w H)))) L↔Comes Q (fun rec=>orec none (outO (fun v H'=>runK' k L rec (kOf L rec s .normal) (putS (some (sOf d)) v T) (hOut w H H'))) (rec (.call f (evs ((evs xs T).map O2.con) T) (hIn w H)))) L
 rw [zdm]
theorem RK_cz {f:Nat}:RK L (cz_ w f xs k) s T H Q=cZ w L f (evs xs T) H k s T Q:=by
 refine zqi ?_;show Comes Q (fun rec=>orec none (outO (fun v H'=>runK' k L rec (kOf L rec s .normal) T (hOut w H H'))) (rec (.call f (evs xs T) (hIn w H)))) L↔Comes Q (fun rec=>orec none (outO (fun v H'=>runK' k L rec (kOf L rec s .normal) T (hOut w H H'))) (rec (.call f (evs ((evs xs T).map O2.con) T) (hIn w H)))) L
 rw [zdm]
theorem RK_cf:RK L (cf_ w xs d k) s T H Q=cF w (zdc (hd (evs xs T)) (tl (evs xs T))) L H d k s T Q:=zqi qg7
theorem RK_cy:RK L (cy_ w xs k) s T H Q=cY w (zdc (hd (evs xs T)) (tl (evs xs T))) L H k s T Q:=zqi qg7
theorem cF_in {g:Nat}{args:List AV}:cF w (some (.enter g args)) L H d k s T Q=cR w L g args H d k s T Q:=by
 refine zqi ?_;show Comes Q (fun rec=>orec none (outO (fun v H'=>runK' k L rec (kOf L rec s .normal) (putS (some (sOf d)) v T) (hOut w H H'))) (rec (.call g args (hIn w H)))) L↔Comes Q (fun rec=>orec none (outO (fun v H'=>runK' k L rec (kOf L rec s .normal) (putS (some (sOf d)) v T) (hOut w H H'))) (rec (.call g (evs (args.map O2.con) T) (hIn w H)))) L
 rw [zdm]
theorem cY_in {g:Nat}{args:List AV}:cY w (some (.enter g args)) L H k s T Q=cZ w L g args H k s T Q:=by
 refine zqi ?_;show Comes Q (fun rec=>orec none (outO (fun v H'=>runK' k L rec (kOf L rec s .normal) T (hOut w H H'))) (rec (.call g args (hIn w H)))) L↔Comes Q (fun rec=>orec none (outO (fun v H'=>runK' k L rec (kOf L rec s .normal) T (hOut w H H'))) (rec (.call g (evs (args.map O2.con) T) (hIn w H)))) L
 rw [zdm]
theorem ztg (g:Nat) (a c l:List AV):zdc (.fn (.func g) a c) l=some (.enter g (a ++ l ++ c)):=rfl
theorem guardB_iff {c:Nat}:ztk w ((sOf c).get T)=true↔gT T c= .bool w:=by
 rw [zrk];unfold gT;cases T.get c with
 |none=>exact ⟨fun h=>(by cases h),fun h=>(by cases h)⟩
 |some v=>cases v<;>first
  |(refine ⟨fun h=>(by cases h),fun h=>(by cases h)⟩;done)
  |(next b=>cases b<;>cases w<;>first|(exact ⟨fun _=>rfl,fun _=>rfl⟩)|exact ⟨fun h=>(by cases h),fun h=>(by cases h)⟩)
theorem RK_o {c:Nat}{A:K2->K2}:RK L (o_ c w d A k) s T H Q=gR (gT T c) w L d (A k) k s T H Q:=by
 have key:RK L (o_ c w d A k) s T H Q↔gR (gT T c) w L d (A k) k s T H Q:=by
  have e:RK L (o_ c w d A k) s T H Q↔Comes Q (fun rec=>brec (runK' k L rec (kOf L rec s .normal) (pS d .undef T) H) (runK' (A k) L rec (kOf L rec s .normal) T H) (ztk w ((sOf c).get T))) L:=⟨fun h=>h.h,fun h=>⟨h⟩⟩
  rw [e];cases hg:ztk w ((sOf c).get T) with
  |true =>
   have:=guardB_iff.1 hg;exact ⟨fun h=>⟨fun _=>⟨h⟩,fun h'=>absurd this h'⟩,fun h=>(h.1 this).h⟩
  |false =>
   have:gT T c≠ .bool w:=fun h=>by rw [guardB_iff.2 h] at hg;cases hg
   exact ⟨fun h=>⟨fun h'=>absurd h' this,fun _=>⟨h⟩⟩,fun h=>(h.2 this).h⟩
 exact propext key
theorem RK_oz {c:Nat}{A:K2->K2}:RK L (oz_ c w A k) s T H Q=gZ (gT T c) w L (A k) k s T H Q:=by
 have key:RK L (oz_ c w A k) s T H Q↔gZ (gT T c) w L (A k) k s T H Q:=by
  have e:RK L (oz_ c w A k) s T H Q↔Comes Q (fun rec=>brec (runK' k L rec (kOf L rec s .normal) T H) (runK' (A k) L rec (kOf L rec s .normal) T H) (ztk w ((sOf c).get T))) L:=⟨fun h=>h.h,fun h=>⟨h⟩⟩
  rw [e];cases hg:ztk w ((sOf c).get T) with
  |true =>
   have:=guardB_iff.1 hg;exact ⟨fun h=>⟨fun _=>⟨h⟩,fun h'=>absurd this h'⟩,fun h=>(h.1 this).h⟩
  |false =>
   have:gT T c≠ .bool w:=fun h=>by rw [guardB_iff.2 h] at hg;cases hg
   exact ⟨fun h=>⟨fun h'=>absurd h' this,fun _=>⟨h⟩⟩,fun h=>(h.2 this).h⟩
 exact propext key
theorem gR_t:gR (.bool w) w L d a b s T H Q=RK L a s T H Q:=propext ⟨fun h=>h.1 rfl,fun h=>⟨fun _=>h,fun h'=>absurd rfl h'⟩⟩
theorem gR_tf:gR (.bool true) false L d a b s T H Q=RK L b s (pS d .undef T) H Q:=propext ⟨fun h=>h.2 (fun h=>by cases h),fun h=>⟨fun h'=>(by cases h'),fun _=>h⟩⟩
theorem gR_ft:gR (.bool false) true L d a b s T H Q=RK L b s (pS d .undef T) H Q:=propext ⟨fun h=>h.2 (fun h=>by cases h),fun h=>⟨fun h'=>(by cases h'),fun _=>h⟩⟩
theorem gR_u:gR (.tup []) w L d a b s T H Q=RK L b s (pS d .undef T) H Q:=propext ⟨fun h=>h.2 (fun h=>by cases h),fun h=>⟨fun h'=>(by cases h'),fun _=>h⟩⟩
theorem gZ_t:gZ (.bool w) w L a b s T H Q=RK L a s T H Q:=propext ⟨fun h=>h.1 rfl,fun h=>⟨fun _=>h,fun h'=>absurd rfl h'⟩⟩
theorem gZ_tf:gZ (.bool true) false L a b s T H Q=RK L b s T H Q:=propext ⟨fun h=>h.2 (fun h=>by cases h),fun h=>⟨fun h'=>(by cases h'),fun _=>h⟩⟩
theorem gZ_ft:gZ (.bool false) true L a b s T H Q=RK L b s T H Q:=propext ⟨fun h=>h.2 (fun h=>by cases h),fun h=>⟨fun h'=>(by cases h'),fun _=>h⟩⟩
theorem gZ_u:gZ (.tup []) w L a b s T H Q=RK L b s T H Q:=propext ⟨fun h=>h.2 (fun h=>by cases h),fun h=>⟨fun h'=>(by cases h'),fun _=>h⟩⟩
theorem gR_if {c:Bool}(ht:c=true->gR (.bool true) w L d a b s T H Q) (hf:c=false->gR (.bool false) w L d a b s T H Q):gR (.bool c) w L d a b s T H Q:=by cases c<;>first|exact hf rfl|exact ht rfl
theorem gZ_if {c:Bool}(ht:c=true->gZ (.bool true) w L a b s T H Q) (hf:c=false->gZ (.bool false) w L a b s T H Q):gZ (.bool c) w L a b s T H Q:=by cases c<;>first|exact hf rfl|exact ht rfl
theorem zlh1:oR (some v) L d k s T H Q=RK L k s (pS d v T) H Q:=propext ⟨fun ⟨_,h,hk⟩=>(by cases h;exact hk),fun h=>⟨v,rfl,h⟩⟩
theorem zmh1:oZ (some v) L k s T H Q=RK L k s T H Q:=propext ⟨fun ⟨_,h,hk⟩=>(by cases h;exact hk),fun h=>⟨v,rfl,h⟩⟩
theorem znh1:oH w (some (v,H')) L d k s T H Q=RK L k s (pS d v T) (hOut w H H') Q:=propext ⟨fun ⟨_,h,hk⟩=>(by cases h;exact hk),fun h=>⟨(v,H'),rfl,h⟩⟩
theorem zoh1:oY w (some (v,H')) L k s T H Q=RK L k s T (hOut w H H') Q:=propext ⟨fun ⟨_,h,hk⟩=>(by cases h;exact hk),fun h=>⟨(v,H'),rfl,h⟩⟩
theorem zph1:oS w (some H') L k s T H Q=RK L k s T (hOut w H H') Q:=propext ⟨fun ⟨_,h,hk⟩=>(by cases h;exact hk),fun h=>⟨H',rfl,h⟩⟩
theorem zqh1:RK L .done s T H Q=RN L s .normal T H Q:=propext ⟨fun h=>⟨h.h⟩,fun h=>⟨h.h⟩⟩
variable {A B:C2}{id j:Nat}{ex:Ex}
theorem zrh1:RC L .skip s T H Q=RN L s .normal T H Q:=propext ⟨fun h=>⟨h.h⟩,fun h=>⟨h.h⟩⟩
theorem RC_reg:RC L (.reg k) s T H Q=RK L k s T H Q:=propext ⟨fun h=>⟨h.h⟩,fun h=>⟨h.h⟩⟩
theorem RC_seq:RC L (.seq A B) s T H Q=RC L A (.seq B::s) T H Q:=propext ⟨fun h=>⟨h.h⟩,fun h=>⟨h.h⟩⟩
theorem RC_blk:RC L (.block id A) s T H Q=RC L A (.blk id::s) T H Q:=propext ⟨fun h=>⟨h.h⟩,fun h=>⟨h.h⟩⟩
theorem RC_scp:RC L (.scope A) s T H Q=RC L A (.scp::s) T H Q:=propext ⟨fun h=>⟨h.h⟩,fun h=>⟨h.h⟩⟩
theorem zsh1:RC L (.exit id) s T H Q=RN L s (.exit id) T H Q:=propext ⟨fun h=>⟨h.h⟩,fun h=>⟨h.h⟩⟩
theorem RC_ret:RC L .ret s T H Q=RN L s .ret T H Q:=propext ⟨fun h=>⟨h.h⟩,fun h=>⟨h.h⟩⟩
theorem RN_nil:RN L [] ex T H Q=Q ex T H:=propext ⟨fun ⟨⟨o,hq,n,hn⟩⟩=>(by have:=hn n (qn _);cases this;exact hq),fun h=>zxl1 h⟩
theorem RN_sn:RN L (.seq B::s) .normal T H Q=RC L B s T H Q:=propext ⟨fun h=>⟨h.h⟩,fun h=>⟨h.h⟩⟩
theorem RN_se:RN L (.seq B::s) (.exit id) T H Q=RN L s (.exit id) T H Q:=propext ⟨fun h=>⟨h.h⟩,fun h=>⟨h.h⟩⟩
theorem RN_sr:RN L (.seq B::s) .ret T H Q=RN L s .ret T H Q:=propext ⟨fun h=>⟨h.h⟩,fun h=>⟨h.h⟩⟩
theorem RN_bn:RN L (.blk id::s) .normal T H Q=RN L s .normal T H Q:=propext ⟨fun h=>⟨h.h⟩,fun h=>⟨h.h⟩⟩
theorem RN_br:RN L (.blk id::s) .ret T H Q=RN L s .ret T H Q:=propext ⟨fun h=>⟨h.h⟩,fun h=>⟨h.h⟩⟩
theorem RN_be:RN L (.blk id::s) (.exit j) T H Q=if j=id then RN L s .normal T H Q else RN L s (.exit j) T H Q:=by
 have e:RN L (.blk id::s) (.exit j) T H Q↔Comes Q (fun rec=>brec (kOf L rec s (.exit j) T H) (kOf L rec s .normal T H) (Nat.beq j id)) L:=⟨fun h=>h.h,fun h=>⟨h⟩⟩
 rw [propext e];by_cases h:j=id
 ·subst h
  rw [qj rfl,show Nat.beq j j=true from qr2 j]
  exact propext ⟨fun h=>⟨h⟩,fun h=>h.h⟩
 ·rw [qg h,show Nat.beq j id=false from by cases hb:Nat.beq j id with|false=>rfl|true=>exact absurd (qi hb) h]
  exact propext ⟨fun h=>⟨h⟩,fun h=>h.h⟩
theorem RN_pn:RN L (.scp::s) .normal T H Q=RN L s .normal T H Q:=propext ⟨fun h=>⟨h.h⟩,fun h=>⟨h.h⟩⟩
theorem RN_pe:RN L (.scp::s) (.exit id) T H Q=RN L s (.exit id) T H Q:=propext ⟨fun h=>⟨h.h⟩,fun h=>⟨h.h⟩⟩
theorem RN_pr:RN L (.scp::s) .ret T H Q=RN L s .ret T H Q:=propext ⟨fun h=>⟨h.h⟩,fun h=>⟨h.h⟩⟩
theorem zth1:RC L (.cond x A B) s T H Q=bR (x.ev T) L A B s T H Q:=by
 have e:RC L (.cond x A B) s T H Q↔Comes Q (fun rec=>zxl none (fun y=>brec (evC' B L rec (kOf L rec s) T H) (evC' A L rec (kOf L rec s) T H) y) (x.ev T)) L:=⟨fun h=>h.h,fun h=>⟨h⟩⟩
 rw [propext e];have nb:∀(v:AV),(∀c,v≠ .bool c)-> ∀f:Bool->Option Out,zxl none f v=none:=fun v h f=>by
  cases v<;>first|rfl|(next c=>exact absurd rfl (h c))
 have cb:(∃c,x.ev T= .bool c)\/ ∀c,x.ev T≠ .bool c:=by
  by_cases h:∃c,x.ev T= .bool c
  ·exact .inl h
  ·exact .inr fun c hc=>h ⟨c,hc⟩
 rcases cb with ⟨c,hc⟩|hn
 ·rw [hc]
  cases c with
  |true=>exact propext ⟨fun h=>⟨true,rfl,fun _=>⟨h⟩,fun h=>(by cases h)⟩,fun ⟨c,hc,h1,h2⟩=>(by cases hc;exact (h1 rfl).h)⟩
  |false=>exact propext ⟨fun h=>⟨false,rfl,fun h=>(by cases h),fun _=>⟨h⟩⟩,fun ⟨c,hc,h1,h2⟩=>(by cases hc;exact (h2 rfl).h)⟩
 ·refine propext ⟨fun ⟨o,_,n,h⟩=> ?_,fun ⟨c,h,_⟩=>absurd h (hn c)⟩
  have h1:=h n (qn _);have h2:zxl none (fun y=>brec (evC' B L (evF L n) (kOf L (evF L n) s) T H) (evC' A L (evF L n) (kOf L (evF L n) s) T H) y) (x.ev T)=some o:=h1
  rw [nb _ hn] at h2;cases h2
theorem bR_t:bR (.bool true) L A B s T H Q=RC L A s T H Q:=propext ⟨fun ⟨c,hc,h1,h2⟩=>(by cases hc;exact h1 rfl),fun h=>⟨true,rfl,fun _=>h,fun h=>(by cases h)⟩⟩
theorem bR_f:bR (.bool false) L A B s T H Q=RC L B s T H Q:=propext ⟨fun ⟨c,hc,h1,h2⟩=>(by cases hc;exact h2 rfl),fun h=>⟨false,rfl,fun h=>(by cases h),fun _=>h⟩⟩
theorem bR_if {c:Bool}(ht:c=true->RC L A s T H Q) (hf:c=false->RC L B s T H Q):bR (.bool c) L A B s T H Q:=⟨c,rfl,ht,hf⟩
theorem cR_m {f:Nat}{args:List AV}{R:AV->AH->Prop}(hc:FnE L f args (hIn w H) R) (h:∀v H',R v H'->RK L k s (pS d v T) (hOut w H H') Q):cR w L f args H d k s T Q :=
 rk_cl (by rw [zdm];exact hc) h
def FnX (L:Lk) (f:Nat) (args:List AV) (H:AH) (v:AV) (H':AH):Prop:=FnE L f args H fun r G=>r=v/\G=H'
theorem FnX.ok {f:Nat}{args:List AV}(h:FnE L f args H fun r G=>r=v/\G=H'):FnX L f args H v H':=h
theorem cR_x {f:Nat}{args:List AV}(hc:FnX L f args (hIn w H) v H'):cR w L f args H d k s T Q=RK L k s (pS d v T) (hOut w H H') Q:=by
 refine propext ⟨fun h=> ?_,fun h=>cR_m hc fun r G ⟨h1,h2⟩=>by subst h1 h2;exact h⟩
 obtain ⟨v1,H1,⟨rfl,rfl⟩,n,hn⟩:=hc.h;obtain ⟨o,hq,n2,h2⟩:=h.h;refine ⟨o,hq,max n n2,fun m hm=> ?_⟩
 have h3:orec none (outO (fun v H'=>runK' k L (evF L m) (kOf L (evF L m) s .normal) (putS (some (sOf d)) v T) (hOut w H H'))) (evF L m (.call f (evs (args.map O2.con) T) (hIn w H)))=some o:=h2 m oM
 rw [zdm,hn m oM] at h3
 exact h3
theorem FnX.c {f:Nat}{args:List AV}(hc:FnX L f args H v H'){d:Nat}{k:K2}{s:List Kf}{T:Tr AV}{Q:PostC}:cR false L f args H d k s T Q=RK L k s (pS d v T) H' Q:=cR_x (w:=false) hc
theorem FnX.p {f:Nat}{args:List AV}(hc:∀H,FnX L f args H v H){H:AH}{d:Nat}{k:K2}{s:List Kf}{T:Tr AV}{Q:PostC}:cR false L f args H d k s T Q=RK L k s (pS d v T) H Q:=cR_x (w:=false) (hc _)
def LpR (L:Lk) (s:List Kf) (Q:PostC) (I:Nat->Tr AV->AH->Prop) (n:Nat):PostC:=fun ex T H=>match ex with| .normal=> ∃n',n'<n/\I n' T H|ex=>RN L s ex T H Q
theorem LpR_n {I:Nat->Tr AV->AH->Prop}{n:Nat}:LpR L s Q I n .normal T H= ∃n',n'<n/\I n' T H:=rfl
theorem LpR_e {I:Nat->Tr AV->AH->Prop}{n:Nat}:LpR L s Q I n (.exit id) T H=RN L s (.exit id) T H Q:=rfl
theorem LpR_r {I:Nat->Tr AV->AH->Prop}{n:Nat}:LpR L s Q I n .ret T H=RN L s .ret T H Q:=rfl
theorem rc_lp {body:Code}{c:C2}(hc:comp L body=c) (I:Nat->Tr AV->AH->Prop) (n:Nat) (h0:I n T H) (h:∀n T H,I n T H->RC L c [] T H (LpR L s Q I n)):RC L (.loop body) s T H Q :=
 rc_loop (R:=fun ex T H=>RN L s ex T H Q) (lp_ind hc I _ (fun n T H hI=>⟨(h n T H hI).h.mono fun ex T H hq=>by cases ex<;>exact hq⟩) n T H h0) fun _ _ _ h=>h
theorem FQ_1r {R:AV->AH->Prop}{t:Tmp}:FnQ L [.tmp t] R .ret T H=R (gT T t) H:=propext ⟨fun ⟨_,v,hv,h⟩=>(by rw [ziw] at hv;cases hv;exact h),fun h=>zjw (ziw _ _) h⟩
theorem FQ_1n {R:AV->AH->Prop}{t:Tmp}:FnQ L [.tmp t] R .normal T H=R (gT T t) H:=propext ⟨fun ⟨_,v,hv,h⟩=>(by rw [ziw] at hv;cases hv;exact h),fun h=>zde1 (ziw _ _) h⟩
theorem FQ_2r {R:AV->AH->Prop}{t u:Tmp}:FnQ L [.tmp t,.tmp u] R .ret T H=R (.tup [gT T t,gT T u]) H:=propext ⟨fun ⟨_,v,hv,h⟩=>(by rw [zbe1] at hv;cases hv;exact h),fun h=>zjw (zbe1 _ _ _) h⟩
theorem FQ_2n {R:AV->AH->Prop}{t u:Tmp}:FnQ L [.tmp t,.tmp u] R .normal T H=R (.tup [gT T t,gT T u]) H:=propext ⟨fun ⟨_,v,hv,h⟩=>(by rw [zbe1] at hv;cases hv;exact h),fun h=>zde1 (zbe1 _ _ _) h⟩
theorem zke1 (L:Lk) (t u w:Tmp):resV L [.tmp t,.tmp u,.tmp w] T H=some (.tup [gT T t,gT T u,gT T w]):=by
 unfold resV zmb gT;show (match obind (match T.get t with|some v=>some v|none=>some AV.undef) (fun b=>obind (obind (match T.get u with|some v=>some v|none=>some AV.undef) (fun b=>obind (obind (match T.get w with|some v=>some v|none=>some AV.undef) (fun b=>obind (some []) fun bs=>some (b::bs))) fun bs=>some (b::bs))) fun bs=>some (b::bs)) with|some vs=>(match vs with| [v]=>some v|vs=>some (AV.tup vs))|none=>none)=_
 cases T.get t<;>cases T.get u<;>cases T.get w<;>rfl
theorem FQ_3r {R:AV->AH->Prop}{t u w:Tmp}:FnQ L [.tmp t,.tmp u,.tmp w] R .ret T H=R (.tup [gT T t,gT T u,gT T w]) H:=propext ⟨fun ⟨_,v,hv,h⟩=>(by rw [zke1] at hv;cases hv;exact h),fun h=>zjw (zke1 _ _ _ _) h⟩
theorem FQ_3n {R:AV->AH->Prop}{t u w:Tmp}:FnQ L [.tmp t,.tmp u,.tmp w] R .normal T H=R (.tup [gT T t,gT T u,gT T w]) H:=propext ⟨fun ⟨_,v,hv,h⟩=>(by rw [zke1] at hv;cases hv;exact h),fun h=>zde1 (zke1 _ _ _ _) h⟩
theorem FQ_0r {R:AV->AH->Prop}:FnQ L [] R .ret T H=R (.tup []) H:=propext ⟨fun ⟨_,v,hv,h⟩=>(by rw [zce1] at hv;cases hv;exact h),fun h=>zjw (zce1 _) h⟩
theorem FQ_0n {R:AV->AH->Prop}:FnQ L [] R .normal T H=R (.tup []) H:=propext ⟨fun ⟨_,v,hv,h⟩=>(by rw [zce1] at hv;cases hv;exact h),fun h=>zde1 (zce1 _) h⟩
theorem gT_pS (T:Tr AV) (j:Nat) (v:AV) (n:Nat):gT (pS j v T) n=if n=j then v else gT T n:=zwl1 T j v n
theorem zwy (v:AV) (l:List AV) (j:Nat) (T:Tr AV):zub (v::l) j T=zub l (j+1) (pS j v T):=by
 show zub l (j+1) (T.set j v)=_
 congr 1
 show _=(sOf j).set v T
 rw [zny]
theorem zle1 (n:Nat):o2 (.tmp n)=tO n:=rfl
theorem zme1 (k:IntKind) (n:Int):o2 (.const (.int k n))= .con (.int k n):=rfl
theorem zne1 (b:ByteArray):o2 (.const (.string b))= .con (.str b):=rfl
theorem zpt (b:Bool):o2 (.const (.bool b))= .con (.bool b):=rfl
theorem zoe1:o2 (.const (.pointer none))= .con .nilPtr:=rfl
theorem o2_sl:o2 (.const (.slice none 0 0))= .con .nilSl:=rfl
theorem zpe1:o2 (.const (.map none))= .con .nilMap:=rfl
theorem zqe1:o2 (.const .nilIface)= .con .nilIfc:=rfl
theorem o2_fn:o2 (.const .nilFunc)= .con .nilFn:=rfl
theorem zxy:AV.undef= .tup []:=rfl
end
class HN (H:AH):Prop where
 hide:H.hide= []
 lo:H.lo<=H.next
instance (H:AH) (b:ABlk) [h:HN H]:HN (H.new b):=⟨h.hide,qf5 h.lo⟩
instance (H:AH) (i:Nat) (b:ABlk) [h:HN H]:HN (H.put i b):=⟨h.hide,h.lo⟩
instance (w:Bool) (H:AH) [h:HN H]:HN (hIn w H):=⟨by cases w<;>exact h.hide,by cases w<;>first|exact h.lo|exact qn _⟩
theorem HX.hn {H H':AH}(hx:HX H H') [h:HN H]:HN H':=⟨hx.hide.trans h.hide,by rw [hx.lo];exact qx2 h.lo hx.next⟩
theorem HP.hn {p:Nat->Prop}{H H':AH}(hx:HP p H H') [h:HN H]:HN H':=⟨hx.hide.trans h.hide,by rw [hx.lo];exact qx2 h.lo hx.next⟩
theorem zsn (H:AH) (b:ABlk):(H.new b).next=H.next+1:=rfl
theorem ztn (H:AH) (i:Nat) (b:ABlk):(H.put i b).next=H.next:=rfl
theorem lo_new (H:AH) (b:ABlk):(H.new b).lo=H.lo:=rfl
theorem lo_put (H:AH) (i:Nat) (b:ABlk):(H.put i b).lo=H.lo:=rfl
def hEq (i j:Nat):Prop:=i=j
instance (i j:Nat):Decidable (hEq i j):=inferInstanceAs (Decidable (i=j))
theorem hEq_t {i j:Nat}(h:i=j):hEq i j=True:=eq_true h
theorem hEq_f {i j:Nat}(h:i≠j):hEq i j=False:=eq_false h
theorem get_new (H:AH) (b:ABlk) (i:Nat) [h:HN H]:(H.new b).get i=if hEq i H.next then some b else H.get i:=by
 by_cases hi:i=H.next
 ·subst hi;rw [qj (show hEq _ _ from rfl)];exact AH.get_new h.hide b
 ·rw [qg (show ¬hEq _ _ from hi)]
  unfold AH.get;have:(H.new b).vis i=H.vis i:=by unfold AH.vis;rfl
  rw [this];show (match H.vis i with|true=>(H.tree.set H.next b).get i|false=>none)=_
  rw [Tr.get_set,qg hi];rfl
theorem get_put (H:AH) (b:ABlk) (i j:Nat) [h:HN H]:(H.put j b).get i=if hEq i j then some b else H.get i:=by
 by_cases hi:i=j
 ·subst hi;rw [qj (show hEq _ _ from rfl)];exact AH.get_put h.hide i b
 ·rw [qg (show ¬hEq _ _ from hi)]
  unfold AH.get;have:(H.put j b).vis i=H.vis i:=by unfold AH.vis;rfl
  rw [this];show (match H.vis i with|true=>(H.tree.set j b).get i|false=>none)=_
  rw [Tr.get_set,qg hi];rfl
def rdB (x:Option ABlk) (o:Nat):Option AV:=match x with|some (.cells c _ _ _ _)=>c.get o|_=>none
theorem ld1_q {i o:Nat}{H:AH}:ld1 (.ptr i o) H=rdB (H.get i) o:=by
 rw [zbm];unfold AH.read1 AH.row rdB;cases H.get i with
 |none=>rfl
 |some b=>cases b<;>first|rfl|(next c e z op ro=>show nth c.l o=c.get o;rw [zcg,Ce.get_l])
theorem rdB_l {l:List AV}{e z o:Nat}{op ro:Bool}:rdB (some (.cells (.lst l) e z op ro)) o=nth l o:=rfl
theorem nth_z {α:Type}(a:α) (l:List α):nth (a::l) 0=some a:=rfl
theorem nth_s {α:Type}(a:α) (l:List α) (n:Nat):nth (a::l) (n+1)=nth l n:=rfl
def sbB (x:Option ABlk) (o n:Nat):Option AV:=match x with|some (.cells c _ _ _ _)=>(match c.sub o n with|some c'=>some c'.toV|none=>none)|_=>none
theorem ldN_q {i o n:Nat}{H:AH}:ldN n (.ptr i o) H=sbB (H.get i) o n:=by
 show orec none (fun c=>some (ceV c)) (subCF H i o n)=_
 rw [zjf];unfold AH.subC sbB;cases H.get i with
 |none=>rfl
 |some b=>cases b<;>first
  |rfl
  |(next c e z op ro =>
    show orec none (fun c=>some (ceV c)) (c.sub o n)=(match c.sub o n with|some c'=>some c'.toV|none=>none)
    cases c.sub o n with
    |none=>rfl
    |some c'=>show some (ceV c')=_;rw [zkl1])
theorem sbB_l {l:List AV}{e z o n:Nat}{op ro:Bool}:sbB (some (.cells (.lst l) e z op ro)) o n=(match zij l o n with|some l'=>some (.agg l')|none=>none):=by
 show (match (match zij l o n with|some l'=>some (Ce.lst l')|none=>none) with|some c'=>some c'.toV|none=>none)=_
 cases zij l o n<;>rfl
theorem zah {l:List AV}{e z n:Nat}{op ro:Bool}(h:l.length=n):sbB (some (.cells (.lst l) e z op ro)) 0 n=some (.agg l):=by
 rw [sbB_l];have:zij l 0 n=some l:=(zae l 0 n _).2 ⟨oM,by rw [qt2,qx oM]⟩
 rw [this]
theorem zuh1 (n:Int):AV.toC (.int .i64 n)= .lst [.int .i64 n]:=rfl
theorem zvh1 (n:Int):AV.toC (.int .u64 n)= .lst [.int .u64 n]:=rfl
theorem zyy (n:Bool):AV.toC (.bool n)= .lst [.bool n]:=rfl
theorem zwh1 (n:ByteArray):AV.toC (.str n)= .lst [.str n]:=rfl
theorem zxh1 (i o:Nat):AV.toC (.ptr i o)= .lst [.ptr i o]:=rfl
theorem toC_np:AV.toC .nilPtr= .lst [.nilPtr]:=rfl
theorem toC_ns:AV.toC .nilSl= .lst [.nilSl]:=rfl
theorem toC_sl (i o n c:Nat) (op:Bool):AV.toC (.sl i o n c op)= .lst [.sl i o n c op]:=rfl
theorem zyh1 (i:Nat):AV.toC (.map i)= .lst [.map i]:=rfl
theorem toC_fn (f:Fn) (a c:List AV):AV.toC (.fn f a c)= .lst [.fn f a c]:=rfl
theorem zzh1:AV.toC .nilFn= .lst [.nilFn]:=rfl
theorem toC_aI (n:Int) (l:List AV):AV.toC (.agg (.int .i64 n::l))= .lst (.int .i64 n::l):=rfl
theorem toC_aS (n:ByteArray) (l:List AV):AV.toC (.agg (.str n::l))= .lst (.str n::l):=rfl
abbrev rq:=qa @ev_tO (qa @zyd1 (qa @gT_pS (qa @zzd1 (qa @zwy (qa @zae1 (qa @zqn (qa @zts (qa @zus (qa @zvs (qa @hIn_f (qa @zml (qa @zws (qa @zxs (qa @zys (qa @zgt (qa @zft (qa @zzs (qa @zat (qa @zbt (qa @zct (qa @zdt (qa @zet (qa @fw64 (qa @zee1 (qa @zht (qa @zit (qa @exN0 (qa @exN1 (qa @exN2 (qa @zrn (qa @zfe1 (qa @min2 (qa @max2 (qa @qg2 (qa @qu1 (qa @qx4 (qa @qk4 (qa @zdr (qa @qo (qa @qp (qa @ql5 (qa @qo5 (qa @zmt (qa @zie1 (qa @RK_m (qa @RK_sk (qa @RK_p (qa @RK_fa (qa @RK_ex (qa @RK_nt (qa @RK_nl (qa @RK_nz (qa @RK_q (qa @RK_ix (qa @RK_b (qa @RK_l (qa @RK_lN (qa @RK_n (qa @RK_le (qa @RK_pk (qa @RK_bu (qa @RK_al (qa @RK_bx (qa @RK_a (qa @RK_h1 (qa @RK_hn (qa @RK_hz (qa @RK_s1 (qa @RK_sN (qa @RK_cl (qa @RK_cz (qa @RK_cf (qa @RK_cy (qa @cF_in (qa @cY_in (qa @ztg (qa @RK_o (qa @RK_oz (qa @gR_t (qa @gR_tf (qa @gR_ft (qa @gR_u (qa @gZ_t (qa @gZ_tf (qa @gZ_ft (qa @gZ_u (qa @zlh1 (qa @zmh1 (qa @znh1 (qa @zoh1 (qa @zph1 (qa @zqh1 (qa @zrh1 (qa @RC_reg (qa @RC_seq (qa @RC_blk (qa @RC_scp (qa @zsh1 (qa @RC_ret (qa @RN_nil (qa @RN_sn (qa @RN_se (qa @RN_sr (qa @RN_bn (qa @RN_br (qa @RN_be (qa @RN_pn (qa @RN_pe (qa @RN_pr (qa @zth1 (qa @bR_t (qa @bR_f (qa @LpR_n (qa @LpR_e (qa @LpR_r (qa @zle1 (qa @zme1 (qa @zne1 (qa @zpt (qa @zoe1 (qa @o2_sl (qa @zpe1 (qa @zqe1 (qa @o2_fn (qa @zxy (qa @zsn (qa @ztn (qa @get_new (qa @get_put (qa @hEq_t (qa @hEq_f (qa @ld1_q (qa @rdB_l (qa @nth_z (qa @nth_s (qa @ldN_q (qa @zah (qa @zuh1 (qa @zvh1 (qa @zyy (qa @zwh1 (qa @zxh1 (qa @toC_np (qa @toC_ns (qa @toC_sl (qa @zyh1 (qa @toC_fn (qa @zzh1 (qa @toC_aI (qa @toC_aS (qa @FQ_1r (qa @FQ_1n (qa @FQ_2r (qa @FQ_2n (qa @FQ_3r (qa @FQ_3n (qa @FQ_0r (@FQ_0n))))))))))))))))))))))))))))))))))))))))))))))))))))))))))))))))))))))))))))))))))))))))))))))))))))))))))))))))))))))))))))))))))))))))))))))))))))))))))))))
abbrev nx:=qa zsn (qa ztn (qa lo_new lo_put))
theorem zop (s:ByteArray):strEq s s=true:=by rw [zhq,beq_toListBytes];exact beq_self_eq_true _
mutual
theorem zzy:∀v:AV,eqV v v=true
 | .bool a=>by cases a<;>rfl
 | .int k n=>by unfold eqV;simp
 | .str s=>by unfold eqV;exact zop s
 | .nilPtr=>by unfold eqV;rfl
 | .ptr j o=>by unfold eqV;simp
 | .nilSl=>by unfold eqV;rfl
 | .sl j o l n op=>by unfold eqV;simp
 | .nilMap=>by unfold eqV;rfl
 | .map j=>by unfold eqV;simp
 | .fn f a b=>by unfold eqV;simp [zri a,zri b]
 | .yld j=>by unfold eqV;simp
 | .nilFn=>by unfold eqV;rfl
 | .ifc t v=>by unfold eqV;simp [zzy v]
 | .nilIfc=>by unfold eqV;rfl
 | .agg cs=>by unfold eqV;exact zri cs
 | .tup cs=>by unfold eqV;exact zri cs
 | .bag n N=>by unfold eqV;simp
 | .ext k i o=>by unfold eqV;simp
theorem zri:∀l:List AV,eqL l l=true
 | []=>by unfold eqL;rfl
 |a::l=>by unfold eqL;simp [zzy a,zri l]
end
theorem zbm1 (c:Ce):eqC c c=true:=by cases c<;>simp [eqC,zri]
theorem zaz {H H':AH}{i e z:Nat}{ro op:Bool}{l:List AV}(h:Row H i ro op e z l) (h':H'.get i=H.get i):sameO (H.get i) (H'.get i)=true:=by
 obtain ⟨c,hg,_⟩:=h;rw [h',hg];simp [sameO,eqB,zbm1]
theorem zem {H H':AH}{i e z:Nat}{ro op:Bool}{l:List AV}{js:List Nat}(h:Row H i ro op e z l) (h':H'.get i=H.get i) (hs:zwg H H' js=true):zwg H H' (i::js)=true:=by
 show (sameO (H.get i) (H'.get i) && zwg H H' js)=true
 rw [zaz h h',hs];rfl
noncomputable section
def planAt (L:Lk) (c:Code) (r:Nat):List Ent:=match nth (regsC c) r with|some ops=>(match plan L ops with|some pl=>pl|none=> [])|none=> []
def zcm1 (i:Nat):List Ent->List Ent->Ent×List Ent
 | [],pre=>((0,0,default),pre)
 |x::l,pre=>match Nat.beq x.1 i with|true=>(x,pre)|false=>zcm1 i l (x::pre)
def gwX (L:Lk) (c:Code) (r i:Nat):Ent:=(zcm1 i (planAt L c r) []).1
def gwP (L:Lk) (c:Code) (r i:Nat):List Ent:=(zcm1 i (planAt L c r) []).2
end
section
variable {L:Lk}{s:List Kf}{T:Tr AV}{H H':AH}{Q:PostC}{k:K2}{d:Option S2}
theorem zbz {n:Nat}{v:AV}(h:gT T n=v) (hv:v≠ .undef):T.get n=some v:=by
 unfold gT at h;cases hg:T.get n with
 |none=>rw [hg] at h;exact absurd h.symm hv
 |some x=>rw [hg] at h;exact qj4 some h
theorem zza:ptrsT T []=some []:=rfl
theorem zga {n i o:Nat}{ks:List S2}{js:List Nat}(h:gT T n= .ptr i o) (hs:ptrsT T ks=some js):ptrsT T (sOf n::ks)=some (i::js):=by
 show (match (sOf n).get T with|some (.ptr i _)=>(match ptrsT T ks with|some js=>some (i::js)|none=>none)|_=>none)=_
 rw [zrk,zbz h (by intro h;cases h),hs]
theorem zun {x:Ent}{j:Nat}:∀(pre:List Ent) (ds:List Nat){ks:List S2}{js:List Nat},zth x L pre ds=some ks->ptrsT T ks=some js->(∀i∈js,i≠j)->zgl L x j T pre ds=true
 | [],ds,ks,js,_,_,_=>rfl
 |y::pre,ds,ks,js,hr,hp,hj=>by
  unfold zth at hr;rw [zta] at hr;have hr:(match zad L y.2.2 && !Nat.testBit x.2.1 y.1 with
   |false=>zth x L pre (match y.2.2.dst with|some d=>d::ds|none=>ds)
   |true=>(match y.2.2.op with
    | .load _ (.tmp k)=>(match has (match y.2.2.dst with|some d=>d::ds|none=>ds) k with
     |true=>none
     |false=>(match zth x L pre (match y.2.2.dst with|some d=>d::ds|none=>ds) with|some ks=>some (sOf k::ks)|none=>none))
    |_=>none))=some ks:=hr
  show (match zad L y.2.2 && !Nat.testBit x.2.1 y.1 && !gdOff T (match y.2.2.dst with|some d=>d::ds|none=>ds) y.2.2 pre with
   |false=>zgl L x j T pre (match y.2.2.dst with|some d=>d::ds|none=>ds)
   |true=>(match rdBlk T (match y.2.2.dst with|some d=>d::ds|none=>ds) y.2.2.op with
    |some i=>(match Nat.beq i j with|true=>false|false=>zgl L x j T pre (match y.2.2.dst with|some d=>d::ds|none=>ds))
    |none=>false))=true
  cases h1:zad L y.2.2 && !Nat.testBit x.2.1 y.1 with
  |false =>
   rw [h1] at hr;simp only [qq2];exact zun pre _ hr hp hj
  |true =>
   rw [h1] at hr;simp only at hr;split at hr
   ·next t n hop =>
    split at hr
    ·cases hr
    ·next hh =>
     cases hrr:zth x L pre (match y.2.2.dst with|some d=>d::ds|none=>ds) with
     |none=>rw [hrr] at hr;cases hr
     |some ks' =>
      rw [hrr] at hr;cases hr;have hp':(match (sOf n).get T with|some (.ptr i _)=>(match ptrsT T ks' with|some js=>some (i::js)|none=>none)|_=>none)=some js:=hp
      rw [zrk] at hp';split at hp'
      ·next i o hg =>
       cases hpp:ptrsT T ks' with
       |none=>rw [hpp] at hp';cases hp'
       |some js' =>
        rw [hpp] at hp';cases hp';have ih:=zun pre _ hrr hpp fun a ha=>hj a (qh1 _ ha)
        have hij:Nat.beq i j=false:=by
         cases hb:Nat.beq i j with
         |false=>rfl
         |true=>exact absurd (qi hb) (hj i qt1)
        have hrd:rdBlk T (match y.2.2.dst with|some d=>d::ds|none=>ds) y.2.2.op=some i:=by
         unfold rdBlk;rw [hop];simp only [hh,hg]
        rw [hrd];simp only [hij,ih];cases (true && !gdOff T (match y.2.2.dst with|some d=>d::ds|none=>ds) y.2.2 pre)<;>rfl
      ·cases hp'
   ·cases hr
theorem rk_gw {x:Ent}{pre:List Ent}{v:AV}(hf:far L T x pre=true) (ho:∀rec,zva L rec T x.2.2 H=some (v,H')) (h:RK L k s (putS d v T) H' Q):RK L (.gw x pre d k) s T H Q:=by
 refine ⟨?_⟩;show Comes Q (fun rec=>brec
  (orec none (fun r=>Prod.rec (motive:=fun _=>Option Out) (fun v H'=>runK' k L rec (kOf L rec s .normal) (putS d v T) H') r) (zid L rec T x pre H))
  (orec none (fun r=>Prod.rec (motive:=fun _=>Option Out) (fun v H'=>runK' k L rec (kOf L rec s .normal) (putS d v T) H') r) (zva L rec T x.2.2 H)) (far L T x pre)) L
 rw [hf];simp only [ho,zpm];exact h.h
theorem rk_gww {x:Ent}{pre:List Ent}{v:AV}{js:List Nat}(hf:far L T x pre=false) (hc:zsf x.2.2=true) (hr:zce x L T pre []=some js) (hs:zwg H H' js=true) (ho:∀rec,zva L rec T x.2.2 H=some (v,H')) (h:RK L k s (putS d v T) H' Q):RK L (.gw x pre d k) s T H Q:=by
 refine ⟨?_⟩;have hw:∀rec,zid L rec T x pre H=some (v,H'):=fun rec=>by
  unfold zid;rw [hc,hr];simp only [ho,hs]
 show Comes Q (fun rec=>brec
  (orec none (fun r=>Prod.rec (motive:=fun _=>Option Out) (fun v H'=>runK' k L rec (kOf L rec s .normal) (putS d v T) H') r) (zid L rec T x pre H))
  (orec none (fun r=>Prod.rec (motive:=fun _=>Option Out) (fun v H'=>runK' k L rec (kOf L rec s .normal) (putS d v T) H') r) (zva L rec T x.2.2 H)) (far L T x pre)) L
 rw [hf];simp only [hw,zzb1];exact h.h
theorem rk_gst {x:Ent}{pre:List Ent}{t a b:Nat}{i o:Nat}{u:AV}{ks:List S2}{js:List Nat}(hx:x.2.2.op= .store t (.tmp a) (.tmp b)) (hr:zth x L pre []=some ks) (hp:ptrsT T ks=some js) (ha:gT T a= .ptr i o) (hb:gT T b=u) (hu:u≠ .undef) (hj:∀n∈js,n≠i)
  (hs:zyc L t (.ptr i o) u H=some H') (h:RK L k s (putS d .undef T) H' Q):RK L (.gw x pre d k) s T H Q:=by
 have ga:=zbz ha (by intro h;cases h)
 have gb:=zbz hb hu;refine rk_gw (v:=.undef) ?_ (fun rec=> ?_) h
 ·unfold far
  rw [hx];simp only [ga];exact zun pre [] hr hp hj
 ·unfold zva evOp
  rw [hx];simp only [opnd,ga,gb,hs];rfl
theorem rk_gap {x:Ent}{pre:List Ent}{c:Call}{t t' e a b:Nat}{ts:List Nat}{sv xv v:AV}{ks:List S2}{js:List Nat}(hx:x.2.2.op= .call c) (hc:c.callee= .builtin .append) (hcs:c.args.toList= [.tmp a,.tmp b]) (hct:c.argTypes.toList=t::t'::ts) (ht':L.under t'=some (.slice e)) (hr:zth x L pre []=some ks) (hp:ptrsT T ks=some js) (ha:gT T a=sv) (hb:gT T b=xv) (hsv:sv≠ .undef) (hxv:xv≠ .undef)
  (hs:zzc L t sv xv H=some (v,H')) (hsm:zwg H H' js=true) (h:RK L k s (putS d v T) H' Q):RK L (.gw x pre d k) s T H Q:=by
 have ga:=zbz ha hsv;have gb:=zbz hb hxv;refine rk_gww (v:=v) ?_ ?_ ?_ hsm (fun rec=> ?_) h
 ·unfold far
  rw [hx]
 ·unfold zsf
  rw [hx];simp only [hc]
 ·rw [zms,hr];exact hp
 ·unfold zva evOp
  rw [hx];simp only [hcs,hc,hct,opnds,zwd,zpi,opnd,ga,gb,obind];unfold zpb;simp only [ht',hs];rfl
theorem zdh {t n i o:Nat}(h:L.isAgg t=some true) (hs:L.size t=some n):zvb L t (.ptr i o) H=ldN n (.ptr i o) H:=(ldN_eq h hs (.ptr i o) H).symm
end
def wrN (x:Option ABlk) (i o n:Nat) (c:Ce) (H:AH):Option AH:=match x with
 |some (.cells c0 e z op false)=>(match c.one with
  |true=>(match Nat.beq c.len n,Ce.over c c0 o with|true,some c'=>some (H.put i (.cells c' e z op false))|_,_=>none)
  |false=>none)
 |_=>none
theorem stN_q {i o n:Nat}{v:AV}{H:AH}(hlo:H.lo<=i):stN n (.ptr i o) v H=wrN (H.get i) i o n v.toC H:=by
 show brec none (zne H i o v.toC) (Nat.beq v.toC.len n)=_
 rw [zcd];unfold AH.writeC wrN;rw [show Nat.ble H.lo i=true from qh hlo]
 cases H.get i with
 |none=>cases Nat.beq v.toC.len n<;>rfl
 |some b =>
  cases b with
  |cells c0 e z op ro =>
   cases ro with
   |true=>cases Nat.beq v.toC.len n<;>rfl
   |false =>
    simp only;cases v.toC.one with
    |false=>cases Nat.beq v.toC.len n<;>rfl
    |true =>
     cases Nat.beq v.toC.len n<;>cases Ce.over v.toC c0 o<;>rfl
  |_=>cases Nat.beq v.toC.len n<;>rfl
theorem wrN_p {l lv:List AV}{e z i o n:Nat}{op:Bool}{H:AH}(h1:lv.length=n) (h2:lv.all AV.oneCell=true) (h0:o+n<=l.length):wrN (some (.cells (.lst l) e z op false)) i o n (.lst lv) H=some (H.put i (.cells (.lst (l.take o ++ lv ++ l.drop (o+n))) e z op false)):=by
 unfold wrN;simp only;rw [show (Ce.lst lv).one=true from h2]
 have h3:Nat.beq (Ce.lst lv).len n=true:=by rw [Ce.len_l];show Nat.beq lv.length n=true;rw [h1];exact qr2 n
 rw [h3];have:Ce.over (.lst lv) (.lst l) o=some (.lst (l.take o ++ lv ++ l.drop (o+n))):=by
  show (match zgd lv l o with|some l'=>some (Ce.lst l')|none=>none)=_
  rw [(zyb lv l o _).2 ⟨oM,rfl⟩,h1]
 rw [this]
theorem wrN_l {l lv:List AV}{e z i n:Nat}{op:Bool}{H:AH}(h0:l.length=n) (h1:lv.length=n) (h2:lv.all AV.oneCell=true):wrN (some (.cells (.lst l) e z op false)) i 0 n (.lst lv) H=some (H.put i (.cells (.lst lv) e z op false)):=by
 rw [wrN_p h1 h2 oM,qp5,qk1,qq5 oM,qy1]
def wr1 (x:Option ABlk) (i o:Nat) (v:AV) (H:AH):Option AH:=match x with
 |some (.cells c e z op ro)=>(match ro,Ce.over (.lst [v]) c o with|false,some c'=>some (H.put i (.cells c' e z op false))|_,_=>none)
 |_=>none
theorem st1_w {L:Lk}{t i o:Nat}{v:AV}{H:AH}(hs:L.size t=some 1) (hv:v.oneCell=true) (hv2:v.toC= .lst [v]) (hlo:H.lo<=i):st1 L t (.ptr i o) v H=wr1 (H.get i) i o v H:=by
 rw [zll1 hs];unfold zyc;rw [hs];simp only;rw [show Nat.beq v.toC.len 1=true from by rw [hv2];rfl]
 simp only;unfold AH.writeC wr1;rw [show Nat.ble H.lo i=true from qh hlo]
 cases H.get i with
 |none=>rfl
 |some b =>
  cases b with
  |cells c0 e z op ro =>
   simp only [zhh1 hv];cases ro with
   |true=>rfl
   |false=>rw [hv2];cases Ce.over (.lst [v]) c0 o<;>rfl
  |_=>rfl
theorem wr1_l {l:List AV}{e z i o:Nat}{op:Bool}{v:AV}{H:AH}(ho:o<l.length):wr1 (some (.cells (.lst l) e z op false)) i o v H=some (H.put i (.cells (.lst (l.set o v)) e z op false)):=by
 have h2:Ce.over (.lst [v]) (.lst l) o=some (.lst (l.set o v)):=by
  show (match zgd [v] l o with|some l'=>some (Ce.lst l')|none=>none)=_
  have:zgd [v] l o=some (l.set o v):=(zyb _ _ _ _).2 ⟨by show o+1<=l.length;omega,by rw [qq4,qj ho];simp⟩
  rw [this]
 unfold wr1;simp only [h2]
def lsR (x:Option AV) (L:Lk) (o:Oper) (d:Nat) (k:K2) (s:List Kf) (T:Tr AV) (H:AH) (Q:PostC):Prop:=RK L (ls_ (fun _ _=>x) [] o d k) s T H Q
theorem zkw {L:Lk}{f:List AV->AH->Option AV}{xs:List O2}{o:Oper}{d:Nat}{k:K2}{s:List Kf}{T:Tr AV}{H:AH}{Q:PostC}:RK L (ls_ f xs o d k) s T H Q=lsR (f (evs xs T) H) L o d k s T H Q:=zqi qg7
theorem lsR_s {L:Lk}{v:AV}{o:Oper}{d:Nat}{k:K2}{s:List Kf}{T:Tr AV}{H:AH}{Q:PostC}:lsR (some v) L o d k s T H Q=RK L k s (pS d v T) H Q:=RK_ls rfl
def cellR (x:Option AV) (P:AV->Prop):Prop:= ∃v,x=some v/\P v
theorem zai1 {v:AV}{P:AV->Prop}:cellR (some v) P=P v:=propext ⟨fun ⟨_,h,hp⟩=>(by cases h;exact hp),fun h=>⟨v,rfl,h⟩⟩
theorem zbi1 (L:Lk) (a t:Nat) (T:Tr AV) (H:AH):resV L [.cell a t] T H=zvb L t (gT T a) H:=by
 have:zmb L T H [.cell a t]=obind (match T.get a with|some v=>zvb L t v H|none=>none) (fun b=>obind (some []) fun bs=>some (b::bs)):=rfl
 unfold resV gT;rw [this];cases T.get a with
 |none=>rfl
 |some v =>
  simp only;show _=zvb L t v H
  cases zvb L t v H<;>rfl
theorem zci1 (L:Lk) (a t u:Nat) (T:Tr AV) (H:AH):resV L [.cell a t,.tmp u] T H=(match zvb L t (gT T a) H with|some v=>some (.tup [v,gT T u])|none=>none):=by
 have:zmb L T H [.cell a t,.tmp u]=obind (match T.get a with|some v=>zvb L t v H|none=>none) (fun b=>obind (obind (match T.get u with|some v=>some v|none=>some AV.undef) (fun b=>obind (some []) fun bs=>some (b::bs))) fun bs=>some (b::bs)):=rfl
 unfold resV gT;rw [this];cases T.get a with
 |none=>rfl
 |some v =>
  simp only;show _=(match zvb L t v H with|some v=>some (AV.tup [v,dflt (T.get u)])|none=>none)
  cases zvb L t v H with
  |none=>rfl
  |some x=>cases T.get u<;>rfl
theorem FQ_1cr {L:Lk}{T:Tr AV}{H:AH}{R:AV->AH->Prop}{a t:Nat}:FnQ L [.cell a t] R .ret T H=cellR (zvb L t (gT T a) H) fun v=>R v H:=by
 unfold FnQ;rw [zbi1];exact propext ⟨fun h=>h.2,fun h=>⟨.inr rfl,h⟩⟩
theorem FQ_1cn {L:Lk}{T:Tr AV}{H:AH}{R:AV->AH->Prop}{a t:Nat}:FnQ L [.cell a t] R .normal T H=cellR (zvb L t (gT T a) H) fun v=>R v H:=by
 unfold FnQ;rw [zbi1];exact propext ⟨fun h=>h.2,fun h=>⟨.inl rfl,h⟩⟩
theorem FQ_2cr {L:Lk}{T:Tr AV}{H:AH}{R:AV->AH->Prop}{a t u:Nat}:FnQ L [.cell a t,.tmp u] R .ret T H=cellR (zvb L t (gT T a) H) fun v=>R (.tup [v,gT T u]) H:=by
 unfold FnQ cellR;rw [zci1];cases zvb L t (gT T a) H with
 |none=>exact propext ⟨fun ⟨_,v,h,_⟩=>(by cases h),fun ⟨v,h,_⟩=>(by cases h)⟩
 |some x=>exact propext ⟨fun ⟨_,v,h,hr⟩=>(by cases h;exact ⟨x,rfl,hr⟩),fun ⟨v,h,hr⟩=>(by cases h;exact ⟨.inr rfl,_,rfl,hr⟩)⟩
theorem FQ_2cn {L:Lk}{T:Tr AV}{H:AH}{R:AV->AH->Prop}{a t u:Nat}:FnQ L [.cell a t,.tmp u] R .normal T H=cellR (zvb L t (gT T a) H) fun v=>R (.tup [v,gT T u]) H:=by
 unfold FnQ cellR;rw [zci1];cases zvb L t (gT T a) H with
 |none=>exact propext ⟨fun ⟨_,v,h,_⟩=>(by cases h),fun ⟨v,h,_⟩=>(by cases h)⟩
 |some x=>exact propext ⟨fun ⟨_,v,h,hr⟩=>(by cases h;exact ⟨x,rfl,hr⟩),fun ⟨v,h,hr⟩=>(by cases h;exact ⟨.inl rfl,_,rfl,hr⟩)⟩
theorem set_s {x a:AV}{xs:List AV}{i:Nat}:(x::xs).set (i+1) a=x::xs.set i a:=rfl
theorem set_z {x a:AV}{xs:List AV}:(x::xs).set 0 a=a::xs:=rfl
abbrev rq2:=qa @stN_q (qa @wrN_l (qa @wr1_l (qa @zkw (qa @lsR_s (qa @set_s (qa @set_z (qa @zai1 (qa @FQ_1cr (qa @FQ_1cn (qa @FQ_2cr @FQ_2cn))))))))))
theorem cR_f {L:Lk}{f:Nat}{args:List AV}{R:AV->AH->Prop}{H:AH}{d:Nat}{k:K2}{s:List Kf}{T:Tr AV}{Q:PostC}(hc:FnE L f args H R) (h:∀v H',R v H'->RK L k s (pS d v T) H' Q):cR false L f args H d k s T Q:=cR_m (w:=false) hc h
theorem zaa {H:AH}(b:ABlk) [h:HN H]:(H.new b).get H.next=some b:=AH.get_new h.hide b
theorem zfa {H:AH}(i:Nat) (b:ABlk) [h:HN H]:(H.put i b).get i=some b:=AH.get_put h.hide i b
theorem zmf {H:AH}(b:ABlk){i:Nat}[h:HN H](hi:i≠H.next):(H.new b).get i=H.get i:=by rw [get_new,qg (show ¬hEq _ _ from hi)]
theorem zgc {H:AH}(b:ABlk){i j:Nat}[h:HN H](hi:i≠j):(H.put j b).get i=H.get i:=by rw [get_put,qg (show ¬hEq _ _ from hi)]
theorem cR_at {L:Lk}{f:Nat}{args:List AV}{H:AH}{d:Nat}{k:K2}{s:List Kf}{T:Tr AV}{Q:PostC}(P:AH->Prop) (hp:P H) (hk:∀H,P H->cR false L f args H d k s T Q):cR false L f args H d k s T Q:=hk H hp
theorem rc_at {L:Lk}{c:C2}{H:AH}{s:List Kf}{T:Tr AV}{Q:PostC}(P:AH->Prop) (hp:P H) (hk:∀H,P H->RC L c s T H Q):RC L c s T H Q:=hk H hp
theorem rk_at {L:Lk}{k:K2}{H:AH}{s:List Kf}{T:Tr AV}{Q:PostC}(P:AH->Prop) (hp:P H) (hk:∀H,P H->RK L k s T H Q):RK L k s T H Q:=hk H hp
theorem HX.putN {H H':AH}(h:HX H H') [hn:HN H'](b b':ABlk):HX H ((H'.new b).put H'.next b'):=HX.put (h.trans (HX.new _ _)) h.next b'
open Go
noncomputable section
def lpI [i:Inhabited Code]:C2:=.loop i.default
def lsI [i:Inhabited Oper](f:List AV->AH->Option AV) (xs:List O2) (d:Nat) (k:K2):K2:=ls_ f xs i.default d k
def lsE [i:Inhabited Oper](x:Option AV) (L:Lk) (d:Nat) (k:K2) (s:List Kf) (T:Tr AV) (H:AH) (Q:PostC):Prop:=lsR x L i.default d k s T H Q
def ixL (L:Lk) (t:Nat):Option (Option Nat×Nat):=match L.under t with
 |some (.slice e)=>(match L.size e with|some z=>some (none,z)|none=>none)
 |some (.array n e)=>(match L.size e with|some z=>some (some n,z)|none=>none)
 |_=>none
def foL (L:Lk) (s f:Nat):Option Nat:=match L.under s with
 |some (.struct fs)=>(match nth fs.toList f with|some fd=>some fd.offset|none=>none)
 |_=>none
def bsL (L:Lk) (t:Nat):Option (Nat×Nat×AV):=match L.under t with
 |some (.slice e)=>(match L.size e,L.zero e with|some s,some z=>some (e,s,z)|_,_=>none)
 |_=>none
def apL (L:Lk) (ts:List Nat):Option (Nat×Nat×Nat):=match ts with
 |t::t'::_=>(match L.under t',L.under t with
  |some (.slice _),some (.slice e)=>(match L.size e,L.bytes e with|some z,some b=>some (e,z,b)|_,_=>none)
  |_,_=>none)
 |_=>none
def ikL (L:Lk) (t:Nat):Option IntKind:=match L.under t with|some (.int k)=>some k|_=>none
def zqL (L:Lk) (t:Nat):Option (Ce×Nat):=match L.zero t,L.size t with|some z,some s=>some (z.toC,s)|_,_=>none
def ldL (L:Lk) (t:Nat):Option (Bool×Nat):=match L.isAgg t,L.size t with|some b,some s=>some (b,s)|_,_=>none
def o2s:List Operand->List O2
 | []=> []
 |x::l=>o2 x::o2s l
def kBad:K2->K2:=fun _=>.fail
def ldq:Option (Bool×Nat)->O2->Nat->K2->K2
 |some (true,n)=>lN_ n
 |some (false,_)=>l_
 |none=>fun _ _=>kBad
def ixq:Option (Option Nat×Nat)->O2->O2->Nat->K2->K2
 |some (none,z)=>ix_ z
 |some (some n,z)=>q_ (ixA n z)
 |none=>fun _ _ _=>kBad
def foq:Option Nat->O2->Nat->K2->K2
 |some o=>fa_ o
 |none=>fun _ _=>kBad
def cvq (L:Lk) (s t:Nat):Option IntKind->O2->Nat->K2->K2
 |some k=>p_ (cvI k)
 |none=>h1_ false (zxb L s t)
def alq (e d:Nat):Option (Ce×Nat)->K2->K2
 |some (c,s)=>al_ false c e s d
 |none=>kBad
def bxq (e:Nat):Option Nat->O2->Nat->K2->K2
 |some s=>bx_ false e s
 |none=>fun _ _=>kBad
def stq (L:Lk) (t:Nat):Option Nat->O2->O2->K2->K2
 |some 1=>s1_ false L t
 |some n=>sN_ false n
 |none=>fun _ _=>kBad
def bsq (n:Nat) (is:List Nat):Option (Nat×Nat×AV)->List O2->Nat->K2->K2
 |some (e,s,z)=>hn_ false (fun xs H=>bsF s n z e (zipF is xs) H)
 |none=>fun _ _=>kBad
def apq (L:Lk) (ts:List Nat):Option (Nat×Nat×Nat)->List O2->Nat->K2->K2
 |some (e,z,b)=>hn_ false (appX e z b)
 |none=>hn_ false (zea .append L ts)
def unq:UnOp->O2->Nat->K2->K2
 | .not=>nt_
 |u=>p_ (evUn u)
def fnq (f n:Nat) (xs:List O2) (d:Nat):K2->K2:=n_ (fun zs _=>some (.fn (.func f) (zln n zs) (restN n zs))) xs d
def slq (L:Lk) (w:Bool) (o:Oper) (t:Nat) (x:Operand) (lo hi mx:Option Operand) (d:Nat):K2->K2:=match w,mx with
 |false,none=> @lsI ⟨o⟩ (fun xs _=>zxa L t lo.isSome hi.isSome false xs) (o2s (x::(lo.toList ++ (hi.toList ++ [])))) d
 |_,_=>n_ (fun xs _=>zxa L t lo.isSome hi.isSome mx.isSome xs) (o2s (x::(lo.toList ++ (hi.toList ++ mx.toList)))) d
def buq (L:Lk) (ts:List Nat) (xs:List O2) (d:Nat):Builtin->K2->K2
 | .len=>le_ L (hdN ts) (hdO xs) d
 | .append=>apq L ts (apL L ts) xs d
 | .copy=>hn_ false (zea .copy L ts) xs d
 |b=>n_ (fun xs H=>fstO (zea b L ts xs H)) xs d
where
 hdN:List Nat->Nat|t::_=>t| []=>0
 hdO:List O2->O2|x::_=>x| []=>.con .undef
def caq (L:Lk) (c:Call) (d:Nat):K2->K2:=match c.callee with
 | .value (.func g)=>cl_ false g (o2s c.args.toList) d
 | .value f=>cf_ false (o2s (f::c.args.toList)) d
 | .builtin b=>buq L c.argTypes.toList (o2s c.args.toList) d b
 | .invoke r nm=>.cn false (fun xs H=>zjd L (hd xs) nm (tl xs) H) (o2s (r::c.args.toList)) (some (sOf d))
def cM (L:Lk) (w:Bool) (o:Oper) (d:Nat) (op:Op):K2->K2:=match op with
 | .move x=>m_ (o2 x) d
 | .assign x=>m_ (o2 x) d
 | .binOp op t x y _=>b_ L op t x y d
 | .unOp u _ x=>unq u (o2 x) d
 | .pick a b c=>pk_ (o2 a) (o2 b) (o2 c) d
 | .lookup t x ix ok=>n_ (fun xs H=>zjb L t (hd xs) (hd (tl xs)) ok H) (o2s [x,ix]) d
 | .typeAssert x _ t ok=>p_ (fun v=>ztd L v t ok) (o2 x) d
 | .makeFunc (.func f) a b=>fnq f a.size (o2s (a.toList ++ b.toList)) d
 | .load t a=>ldq (ldL L t) (o2 a) d
 | .indexAddr t x ix=>ixq (ixL L t) (o2 x) (o2 ix) d
 | .fieldAddr s x f=>foq (foL L s f) (o2 x) d
 | .extract x ix=>ex_ ix (o2 x) d
 | .field t x f=>p_ (fun v=>zcj L t v f) (o2 x) d
 | .index t x ix=>q_ (zvd L t) (o2 x) (o2 ix) d
 | .makeInterface t x=>p_ (zsa L t) (o2 x) d
 | .nilCheck x=>nl_ (o2 x) d
 | .slice t x lo hi mx=>slq L w o t x lo hi mx d
 | .convert s t x=>cvq L s t (ikL L t) (o2 x) d
 | .build t ps=>bu_ L t (ps.toList.map fun p=>p.1) (o2s (ps.toList.map fun p=>p.2)) d
 | .alloc e=>alq e d (zqL L e)
 | .box e x=>bxq e (L.size e) (o2 x) d
 | .buildSlice t n ps=>bsq n (ps.toList.map fun p=>p.1) (bsL L t) (o2s (ps.toList.map fun p=>p.2)) d
 | .makeMap _ none=>a_ false zzv d
 | .makeSlice t l c=>hn_ false (fun xs H=>zpc L t (hd xs) (hd (tl xs)) H) (o2s [l,c]) d
 | .call c=>caq L c d
 |_=>kBad
def cU (L:Lk) (op:Op):K2->K2:=match op with
 | .nilCheck x=>nz_ (o2 x)
 | .store t a x=>stq L t (L.size t) (o2 a) (o2 x)
 | .mapUpdate t m k x=>hz_ false (fun xs H=>unitF (zoa L t (hd xs) (hd (tl xs)) (hd (tl (tl xs))) H)) (o2s [m,k,x])
 | .insert t m k x=>hz_ false (fun xs H=>unitF (zoa L t (hd xs) (hd (tl xs)) (hd (tl (tl xs))) H)) (o2s [m,k,x])
 | .call c=>(match c.callee with
  | .value (.func g)=>cz_ false g (o2s c.args.toList)
  | .value f=>cy_ false (o2s (f::c.args.toList))
  | .builtin b=>hz_ false (zea b L c.argTypes.toList) (o2s c.args.toList)
  | .invoke r nm=>.cn false (fun xs H=>zjd L (hd xs) nm (tl xs) H) (o2s (r::c.args.toList)) none)
 |_=>kBad
def gP (w:Bool):Option (Option Nat)->Option Nat->(K2->K2)->K2->K2
 |some (some c),some t,A=>o_ c w t A
 |some (some c),none,A=>oz_ c w A
 |_,some t,_=>sk_ t
 |_,none,_=>.sk none
def cG (ds:List (Option Nat)) (d:Option Nat) (A:K2->K2):Option (Nat×Bool)->K2->K2
 |none=>A
 |some (j,w)=>gP w (nth ds j) d A
def cO (L:Lk) (w:Bool) (ds:List (Option Nat)):List Oper->K2
 | []=>.done
 |o::l=>cG ds o.dst (match o.dst with|some d=>cM L w o d o.op|none=>cU L o.op) o.guard (cO L w ds l)
def cT (L:Lk) (c:Code):C2:=match c with
 | .skip=>.skip
 | .region _ ops w=>.reg (cO L w (ops.toList.map fun o=>o.dst) ops.toList)
 | .seq a b=>.seq (cT L a) (cT L b)
 | .cond x a b=>.cond (o2 x) (cT L a) (cT L b)
 | .block id a=>.block id (cT L a)
 | .loop a=> @lpI ⟨a⟩
 | .exit id=>.exit id
 | .scope a=>.scope (cT L a)
 | .label _=>.skip
 | .goto l=>.goto l
 | .ret=>.ret
 |_=>.bad
end
section
variable {L:Lk}{w:Bool}{a b:Code}{x y z:Operand}{id r d:Nat}{l:List Oper}{ds:List (Option Nat)}{op:Op}{ty t u:Nat}{p:String}{af:Array Edge}{g:Option (Nat×Bool)}{o:Oper}{k:K2}{A:K2->K2}
theorem cT_reg:cT L (.region r l.toArray w)= .reg (cO L w (l.map fun o=>o.dst) l):=rfl
theorem cT_seq:cT L (.seq a b)= .seq (cT L a) (cT L b):=rfl
theorem zdi1:cT L (.cond x a b)= .cond (o2 x) (cT L a) (cT L b):=rfl
theorem cT_blk:cT L (.block id a)= .block id (cT L a):=rfl
theorem zei1:cT L (.loop a)= @lpI ⟨a⟩:=rfl
theorem zfi1:cT L (.exit id)= .exit id:=rfl
theorem cT_scp:cT L (.scope a)= .scope (cT L a):=rfl
theorem cT_ret:cT L .ret= .ret:=rfl
theorem zgi1:cT L .skip= .skip:=rfl
theorem cT_lab:cT L (.label r)= .skip:=rfl
theorem zhi1:cT L (.goto r)= .goto r:=rfl
theorem cO_nil:cO L w ds []= .done:=rfl
theorem cO_d:cO L w ds (⟨some d,op,ty,p,af,none⟩::l)=cM L w ⟨some d,op,ty,p,af,none⟩ d op (cO L w ds l):=rfl
theorem cO_u:cO L w ds (⟨none,op,ty,p,af,none⟩::l)=cU L op (cO L w ds l):=rfl
theorem cO_dg {j:Nat}{v:Bool}:cO L w ds (⟨some d,op,ty,p,af,some (j,v)⟩::l)=gP v (nth ds j) (some d) (cM L w ⟨some d,op,ty,p,af,some (j,v)⟩ d op) (cO L w ds l):=rfl
theorem cO_ug {j:Nat}{v:Bool}:cO L w ds (⟨none,op,ty,p,af,some (j,v)⟩::l)=gP v (nth ds j) none (cU L op) (cO L w ds l):=rfl
theorem cM_mv:cM L w o d (.move x)=m_ (o2 x) d:=rfl
theorem cM_as:cM L w o d (.assign x)=m_ (o2 x) d:=rfl
theorem cM_bin {b:BinOp}:cM L w o d (.binOp b t x y u)=b_ L b t x y d:=rfl
theorem cM_un {b:UnOp}:cM L w o d (.unOp b t x)=unq b (o2 x) d:=rfl
theorem zii1:cM L w o d (.pick x y z)=pk_ (o2 x) (o2 y) (o2 z) d:=rfl
theorem zji1 {b:Bool}:cM L w o d (.lookup t x y b)=n_ (fun xs H=>zjb L t (hd xs) (hd (tl xs)) b H) (o2s [x,y]) d:=rfl
theorem cM_ta {b:Bool}:cM L w o d (.typeAssert x u t b)=p_ (fun v=>ztd L v t b) (o2 x) d:=rfl
theorem cM_mf {f:Nat}{as bs:List Operand}:cM L w o d (.makeFunc (.func f) as.toArray bs.toArray)=fnq f as.length (o2s (as ++ bs)) d:=rfl
theorem cM_ld:cM L w o d (.load t x)=ldq (ldL L t) (o2 x) d:=rfl
theorem cM_ix:cM L w o d (.indexAddr t x y)=ixq (ixL L t) (o2 x) (o2 y) d:=rfl
theorem cM_fa {f:Nat}:cM L w o d (.fieldAddr t x f)=foq (foL L t f) (o2 x) d:=rfl
theorem cM_ex {f:Nat}:cM L w o d (.extract x f)=ex_ f (o2 x) d:=rfl
theorem cM_fi {f:Nat}:cM L w o d (.field t x f)=p_ (fun v=>zcj L t v f) (o2 x) d:=rfl
theorem cM_in:cM L w o d (.index t x y)=q_ (zvd L t) (o2 x) (o2 y) d:=rfl
theorem cM_mi:cM L w o d (.makeInterface t x)=p_ (zsa L t) (o2 x) d:=rfl
theorem cM_nil:cM L w o d (.nilCheck x)=nl_ (o2 x) d:=rfl
theorem cM_sl {lo hi:Option Operand}:cM L false o d (.slice t x lo hi none)= @lsI ⟨o⟩ (fun xs _=>zxa L t lo.isSome hi.isSome false xs) (o2s (x::(lo.toList ++ (hi.toList ++ [])))) d:=rfl
theorem cM_slt {lo hi:Option Operand}:cM L true o d (.slice t x lo hi none)=n_ (fun xs _=>zxa L t lo.isSome hi.isSome false xs) (o2s (x::(lo.toList ++ (hi.toList ++ [])))) d:=rfl
theorem cM_slm {lo hi:Option Operand}:cM L w o d (.slice t x lo hi (some y))=n_ (fun xs _=>zxa L t lo.isSome hi.isSome true xs) (o2s (x::(lo.toList ++ (hi.toList ++ [y])))) d:=by cases w<;>rfl
theorem cM_cv:cM L w o d (.convert u t x)=cvq L u t (ikL L t) (o2 x) d:=rfl
theorem cM_bu {ps:List (Nat×Operand)}:cM L w o d (.build t ps.toArray)=bu_ L t (ps.map fun p=>p.1) (o2s (ps.map fun p=>p.2)) d:=rfl
theorem cM_al:cM L w o d (.alloc t)=alq t d (zqL L t):=rfl
theorem cM_bx:cM L w o d (.box t x)=bxq t (L.size t) (o2 x) d:=rfl
theorem cM_bs {n:Nat}{ps:List (Nat×Operand)}:cM L w o d (.buildSlice t n ps.toArray)=bsq n (ps.map fun p=>p.1) (bsL L t) (o2s (ps.map fun p=>p.2)) d:=rfl
theorem cM_mm:cM L w o d (.makeMap t none)=a_ false zzv d:=rfl
theorem cM_ms:cM L w o d (.makeSlice t x y)=hn_ false (fun xs H=>zpc L t (hd xs) (hd (tl xs)) H) (o2s [x,y]) d:=rfl
theorem cM_cl {f:Nat}{as:List Operand}{ts:Array Nat}:cM L w o d (.call ⟨.value (.func f),as.toArray,ts⟩)=cl_ false f (o2s as) d:=rfl
theorem cM_cf {f:Nat}{as:List Operand}{ts:Array Nat}:cM L w o d (.call ⟨.value (.tmp f),as.toArray,ts⟩)=cf_ false (o2s (.tmp f::as)) d:=rfl
theorem cM_ci {n:String}{as:List Operand}{ts:Array Nat}:cM L w o d (.call ⟨.invoke x n,as.toArray,ts⟩)= .cn false (fun xs H=>zjd L (hd xs) n (tl xs) H) (o2s (x::as)) (some (sOf d)):=rfl
theorem cM_cb {b:Builtin}{as:List Operand}{ts:List Nat}:cM L w o d (.call ⟨.builtin b,as.toArray,ts.toArray⟩)=buq L ts (o2s as) d b:=rfl
theorem cU_nil:cU L (.nilCheck x)=nz_ (o2 x):=rfl
theorem cU_st:cU L (.store t x y)=stq L t (L.size t) (o2 x) (o2 y):=rfl
theorem cU_mu:cU L (.mapUpdate t x y z)=hz_ false (fun xs H=>unitF (zoa L t (hd xs) (hd (tl xs)) (hd (tl (tl xs))) H)) (o2s [x,y,z]):=rfl
theorem cU_is:cU L (.insert t x y z)=hz_ false (fun xs H=>unitF (zoa L t (hd xs) (hd (tl xs)) (hd (tl (tl xs))) H)) (o2s [x,y,z]):=rfl
theorem cU_cl {f:Nat}{as:List Operand}{ts:Array Nat}:cU L (.call ⟨.value (.func f),as.toArray,ts⟩)=cz_ false f (o2s as):=rfl
theorem cU_cy {f:Nat}{as:List Operand}{ts:Array Nat}:cU L (.call ⟨.value (.tmp f),as.toArray,ts⟩)=cy_ false (o2s (.tmp f::as)):=rfl
theorem cU_cb {b:Builtin}{as:List Operand}{ts:List Nat}:cU L (.call ⟨.builtin b,as.toArray,ts.toArray⟩)=hz_ false (zea b L ts) (o2s as):=rfl
abbrev pq1:=qa @cT_reg (qa @cT_seq (qa @zdi1 (qa @cT_blk (qa @zei1 (qa @zfi1 (qa @cT_scp (qa @cT_ret (qa @zgi1 (qa @cT_lab (qa @zhi1 (qa @cO_nil (qa @cO_d (qa @cO_u (qa @cO_dg (qa @cO_ug (qa @cM_mv (qa @cM_as (qa @cM_bin (qa @cM_un (qa @zii1 (qa @zji1 (qa @cM_ta (qa @cM_mf (qa @cM_ld (qa @cM_ix (qa @cM_fa (qa @cM_ex (qa @cM_fi (qa @cM_in (qa @cM_mi (qa @cM_nil (qa @cM_sl (qa @cM_slt (qa @cM_slm (qa @cM_cv (qa @cM_bu (qa @cM_al (qa @cM_bx (qa @cM_bs (qa @cM_mm (qa @cM_ms (qa @cM_cl (qa @cM_cf (qa @cM_ci (qa @cM_cb (qa @cU_nil (qa @cU_st (qa @cU_mu (qa @cU_is (qa @cU_cl (qa @cU_cy @cU_cb)))))))))))))))))))))))))))))))))))))))))))))))))))
end
section
variable {L:Lk}{w v:Bool}{x y:O2}{p q:Operand}{a b:Code}{id r d c t e s n:Nat}{z:AV}{A:K2->K2}{xs:List O2}{is ts:List Nat}{ps:List Operand}{ce:Ce}
theorem gP_d:gP w (some (some c)) (some d) A=o_ c w d A:=rfl
theorem gP_u:gP w (some (some c)) none A=oz_ c w A:=rfl
theorem gP_s:gP w (some none) (some d) A=sk_ d:=rfl
theorem gP_z:gP w (some none) none A= .sk none:=rfl
theorem nt_z {α:Type}{a:α}{l:List α}:nth (a::l) 0=some a:=rfl
theorem nt_s {α:Type}{a:α}{l:List α}{n:Nat}:nth (a::l) (n+1)=nth l n:=rfl
theorem o2s_n:o2s []= []:=rfl
theorem o2s_c:o2s (p::ps)=o2 p::o2s ps:=rfl
theorem o2_f:o2 (.func n)= .con (.fn (.func n) [] []):=rfl
theorem o2_g:o2 (.global n)= .con (.ext 2 n 0):=rfl
theorem ldq_t:ldq (some (true,n)) x d=lN_ n x d:=rfl
theorem ldq_f:ldq (some (false,n)) x d=l_ x d:=rfl
theorem ixq_s:ixq (some (none,n)) x y d=ix_ n x y d:=rfl
theorem ixq_a {m:Nat}:ixq (some (some m,n)) x y d=q_ (ixA m n) x y d:=rfl
theorem foq_s:foq (some n) x d=fa_ n x d:=rfl
theorem cvq_s {k:IntKind}:cvq L s t (some k) x d=p_ (cvI k) x d:=rfl
theorem cvq_n:cvq L s t none x d=h1_ false (zxb L s t) x d:=rfl
theorem alq_s:alq e d (some (ce,s))=al_ false ce e s d:=rfl
theorem bxq_s:bxq e (some s) x d=bx_ false e s x d:=rfl
theorem stq_1:stq L t (some 1) x y=s1_ false L t x y:=rfl
theorem stq_0:stq L t (some 0) x y=sN_ false 0 x y:=rfl
theorem stq_n:stq L t (some (n+2)) x y=sN_ false (n+2) x y:=rfl
theorem bsq_s:bsq n is (some (e,s,z)) xs d=hn_ false (fun xs H=>bsF s n z e (zipF is xs) H) xs d:=rfl
theorem apq_s {b:Nat}:apq L ts (some (e,n,b)) xs d=hn_ false (appX e n b) xs d:=rfl
theorem apq_n:apq L ts none xs d=hn_ false (zea .append L ts) xs d:=rfl
theorem unq_n:unq .not x d=nt_ x d:=rfl
theorem unq_g:unq .neg x d=p_ (evUn .neg) x d:=rfl
theorem fnq_s:fnq n t xs d=n_ (fun zs _=>some (.fn (.func n) (zln t zs) (restN t zs))) xs d:=rfl
theorem buq_l:buq L (t::ts) (x::xs) d .len=le_ L t x d:=rfl
theorem buq_a:buq L ts xs d .append=apq L ts (apL L ts) xs d:=rfl
theorem buq_c:buq L ts xs d .copy=hn_ false (zea .copy L ts) xs d:=rfl
theorem buq_x:buq L ts xs d .max=n_ (fun xs H=>fstO (zea .max L ts xs H)) xs d:=rfl
theorem buq_i:buq L ts xs d .min=n_ (fun xs H=>fstO (zea .min L ts xs H)) xs d:=rfl
theorem buq_p:buq L ts xs d .cap=n_ (fun xs H=>fstO (zea .cap L ts xs H)) xs d:=rfl
abbrev pq2:=qa @gP_d (qa @gP_u (qa @gP_s (qa @gP_z (qa @nt_z (qa @nt_s (qa @o2s_n (qa @o2s_c (qa @o2_f (qa @o2_g (qa @ldq_t (qa @ldq_f (qa @ixq_s (qa @ixq_a (qa @foq_s (qa @cvq_s (qa @cvq_n (qa @alq_s (qa @bxq_s (qa @stq_1 (qa @stq_0 (qa @stq_n (qa @bsq_s (qa @apq_s (qa @apq_n (qa @unq_n (qa @unq_g (qa @fnq_s (qa @buq_l (qa @buq_a (qa @buq_c (qa @buq_x (qa @buq_i (qa @buq_p (qa @zle1 (qa @zme1 (qa @zne1 (qa @zpt (qa @zoe1 (qa @o2_sl (qa @zpe1 (qa @zqe1 @o2_fn)))))))))))))))))))))))))))))))))))))))))
end
section
variable {L:Lk}{i:Inhabited Oper}{f:List AV->AH->Option AV}{xs:List O2}{d:Nat}{k:K2}{s:List Kf}{T:Tr AV}{H:AH}{Q:PostC}{v:AV}
theorem zsi:RK L (lsI f xs d k) s T H Q=lsE (f (evs xs T) H) L d k s T H Q:=zkw
theorem lsE_s:lsE (some v) L d k s T H Q=RK L k s (pS d v T) H Q:=lsR_s
end
theorem rc_lq {L:Lk}{s:List Kf}{T:Tr AV}{H:AH}{Q:PostC}{i:Inhabited Code}{c c1:C2}(I:Nat->Tr AV->AH->Prop) (n:Nat) (h0:I n T H) (h:∀n T H,I n T H->RC L c [] T H (LpR L s Q I n)) (e1:comp L i.default=c1) (e2:c1=c):RC L lpI s T H Q:=rc_lp (e1.trans e2) I n h0 h
noncomputable section
abbrev Ov:=List (Nat×List (Nat×Nat×List Nat))
def ovq (r:Nat):Ov->Option (List (Nat×Nat×List Nat))
 | []=>none
 |p::l=>if r=p.1 then some p.2 else ovq r l
def alW (e d:Nat):Option (Ce×Nat)->K2->K2
 |some (c,s)=>al_ true c e s d
 |none=>kBad
def bsW (n:Nat) (is:List Nat):Option (Nat×Nat×AV)->List O2->Nat->K2->K2
 |some (e,s,z)=>hn_ true (fun xs H=>bsF s n z e (zipF is xs) H)
 |none=>fun _ _=>kBad
def apW:Option (Nat×Nat×Nat)->List O2->Nat->K2->K2
 |some (e,z,b)=>hn_ true (appX e z b)
 |none=>fun _ _=>kBad
def cW (L:Lk) (ks:List Nat) (d:Nat) (op:Op):K2->K2:=match op with
 | .alloc e=>alW e d (zqL L e)
 | .buildSlice t n ps=>bsW n (ps.toList.map fun p=>p.1) (bsL L t) (o2s (ps.toList.map fun p=>p.2)) d
 | .call ⟨.builtin .append,as,ts⟩=>apW (apL L ts.toList) (o2s as.toList) d
 | .call ⟨.value (.func g),as,_⟩=>.cw (some (ks.map sOf)) g (o2s as.toList) (some (sOf d))
 |_=>kBad
def cWu (L:Lk) (ks:List Nat) (op:Op):K2->K2:=match op with
 | .call ⟨.value (.func g),as,_⟩=>.cw (some (ks.map sOf)) g (o2s as.toList) none
 |_=>kBad
def cFo (L:Lk) (w:Bool) (ks:List Nat) (o:Oper):K2->K2:=match o.dst,w with
 |some d,false=>cM L true o d o.op
 |some d,true=>cW L ks d o.op
 |none,false=>cU L o.op
 |none,true=>cWu L ks o.op
def cX (L:Lk) (ds:List (Option Nat)) (f:Nat) (ks:List Nat) (k:K2):Option Oper->K2
 |some o=>cG ds o.dst (cFo L (!Nat.beq f 0) ks o) o.guard k
 |none=>.fail
def cV (L:Lk) (ds:List (Option Nat)) (all:List Oper):List (Nat×Nat×List Nat)->K2
 | []=>.done
 |p::l=>cX L ds p.2.1 p.2.2 (cV L ds all l) (nth all p.1)
def cR' (L:Lk) (w:Bool) (l:List Oper):Option (List (Nat×Nat×List Nat))->K2
 |none=>cO L w (l.map fun o=>o.dst) l
 |some v=>cV L (l.map fun o=>o.dst) l v
def cTo (L:Lk) (ov:Ov) (c:Code):C2:=match c with
 | .skip=>.skip
 | .region r ops w=>.reg (cR' L w ops.toList (ovq r ov))
 | .seq a b=>.seq (cTo L ov a) (cTo L ov b)
 | .cond x a b=>.cond (o2 x) (cTo L ov a) (cTo L ov b)
 | .block id a=>.block id (cTo L ov a)
 | .loop a=> @lpI ⟨a⟩
 | .exit id=>.exit id
 | .scope a=>.scope (cTo L ov a)
 | .ret=>.ret
 |_=>.bad
end
section
variable {L:Lk}{ov:Ov}{w v:Bool}{a b:Code}{x y z:Operand}{id r d f i j:Nat}{l all:List Oper}{ds:List (Option Nat)}{op:Op}{ty t u:Nat}{p:String}{af:Array Edge}{o:Oper}{k:K2}{ks:List Nat}{rs:List (Nat×Nat×List Nat)}
theorem co_reg:cTo L ov (.region r l.toArray w)= .reg (cR' L w l (ovq r ov)):=rfl
theorem co_seq:cTo L ov (.seq a b)= .seq (cTo L ov a) (cTo L ov b):=rfl
theorem zki1:cTo L ov (.cond x a b)= .cond (o2 x) (cTo L ov a) (cTo L ov b):=rfl
theorem co_blk:cTo L ov (.block id a)= .block id (cTo L ov a):=rfl
theorem zli1:cTo L ov (.loop a)= @lpI ⟨a⟩:=rfl
theorem zmi1:cTo L ov (.exit id)= .exit id:=rfl
theorem co_scp:cTo L ov (.scope a)= .scope (cTo L ov a):=rfl
theorem co_ret:cTo L ov .ret= .ret:=rfl
theorem zni1:cTo L ov .skip= .skip:=rfl
theorem ov_n:ovq r []=none:=rfl
theorem ov_c:ovq r ((i,rs)::ov)=if r=i then some rs else ovq r ov:=rfl
theorem cr_n:cR' L w l none=cO L w (l.map fun o=>o.dst) l:=rfl
theorem cr_s:cR' L w l (some rs)=cV L (l.map fun o=>o.dst) l rs:=rfl
theorem cv_n:cV L ds all []= .done:=rfl
theorem cv_c:cV L ds all ((i,f,ks)::rs)=cX L ds f ks (cV L ds all rs) (nth all i):=rfl
theorem cx_0:cX L ds 0 ks k (some ⟨some d,op,ty,p,af,none⟩)=cM L true ⟨some d,op,ty,p,af,none⟩ d op k:=rfl
theorem cx_1:cX L ds 1 ks k (some ⟨some d,op,ty,p,af,none⟩)=cW L ks d op k:=rfl
theorem cx_0u:cX L ds 0 ks k (some ⟨none,op,ty,p,af,none⟩)=cU L op k:=rfl
theorem cx_1u:cX L ds 1 ks k (some ⟨none,op,ty,p,af,none⟩)=cWu L ks op k:=rfl
theorem cx_0g:cX L ds 0 ks k (some ⟨some d,op,ty,p,af,some (j,v)⟩)=gP v (nth ds j) (some d) (cM L true ⟨some d,op,ty,p,af,some (j,v)⟩ d op) k:=rfl
theorem cx_1g:cX L ds 1 ks k (some ⟨some d,op,ty,p,af,some (j,v)⟩)=gP v (nth ds j) (some d) (cW L ks d op) k:=rfl
theorem cx_0h:cX L ds 0 ks k (some ⟨none,op,ty,p,af,some (j,v)⟩)=gP v (nth ds j) none (cU L op) k:=rfl
theorem cW_al:cW L ks d (.alloc t)=alW t d (zqL L t):=rfl
theorem cW_bs {n:Nat}{ps:List (Nat×Operand)}:cW L ks d (.buildSlice t n ps.toArray)=bsW n (ps.map fun p=>p.1) (bsL L t) (o2s (ps.map fun p=>p.2)) d:=rfl
theorem cW_ap {as:List Operand}{ts:List Nat}:cW L ks d (.call ⟨.builtin .append,as.toArray,ts.toArray⟩)=apW (apL L ts) (o2s as) d:=rfl
theorem cW_cl {g:Nat}{as:List Operand}{ts:Array Nat}:cW L ks d (.call ⟨.value (.func g),as.toArray,ts⟩)= .cw (some (ks.map sOf)) g (o2s as) (some (sOf d)):=rfl
theorem alW_s {e s:Nat}{ce:Ce}:alW e d (some (ce,s))=al_ true ce e s d:=rfl
theorem bsW_s {n e s:Nat}{is:List Nat}{z:AV}{xs:List O2}:bsW n is (some (e,s,z)) xs d=hn_ true (fun xs H=>bsF s n z e (zipF is xs) H) xs d:=rfl
theorem apW_s {e z b:Nat}{xs:List O2}:apW (some (e,z,b)) xs d=hn_ true (appX e z b) xs d:=rfl
abbrev po1:=qa @co_reg (qa @co_seq (qa @zki1 (qa @co_blk (qa @zli1 (qa @zmi1 (qa @co_scp (qa @co_ret (qa @zni1 (qa @cr_n (qa @cr_s (qa @cv_n (qa @cv_c (qa @cx_0 (qa @cx_1 (qa @cx_0u (qa @cx_1u (qa @cx_0g (qa @cx_1g (qa @cx_0h (qa @cW_al (qa @cW_bs (qa @cW_ap (qa @cW_cl (qa @nt_z @nt_s))))))))))))))))))))))))
abbrev po2:=qa @ov_n (qa @ov_c (qa @alW_s (qa @bsW_s @apW_s)))
end
end Go.Ev
end
