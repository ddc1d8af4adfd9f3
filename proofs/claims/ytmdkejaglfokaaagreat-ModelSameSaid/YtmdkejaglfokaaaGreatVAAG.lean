import GoSem.Op.String
import Derived.Test.YtmdkejaglfokaaaGreatVAAF
import Derived.Test.YtmdkejaglfokaaaGreatVAAC
import Derived.Test.YtmdkejaglfokaaaGreatVAAE
import Derived.Test.YtmdkejaglfokaaaGreatProg
import Derived.RowKit
import Derived.KernelRfl
import Derived.Lib.Overlaps
noncomputable section
set_option maxHeartbeats 8000000
set_option linter.unusedSimpArgs false
set_option linter.unusedVariables false
namespace HS.Md
open Go
theorem u8_lt {a b:UInt8}:(a<b)↔a.toNat<b.toNat:=qg7
theorem u8_eq {a b:UInt8}:a=b↔a.toNat=b.toNat:=⟨fun h=>h▸rfl,fun h=>UInt8.toNat_inj.1 h⟩
theorem bl_cons {a b:UInt8}{x y:List UInt8}:Op.bytesLess (a::x) (b::y)=true↔a.toNat<b.toNat\/(a.toNat=b.toNat/\Op.bytesLess x y=true):=by
 simp only [Op.bytesLess,qg5,qm,qs,qc7,u8_lt,u8_eq]
theorem bl_irr:∀l,Op.bytesLess l l=false
 | []=>rfl
 |a::l=>by
  rw [qf3];intro h;rcases bl_cons.1 h with h|⟨_,h⟩
  ·omega
  ·rw [bl_irr l] at h;cases h
theorem zcz:∀{x y z:List UInt8},Op.bytesLess x y=true->Op.bytesLess y z=true->Op.bytesLess x z=true
 | [], [],_,h,_=>by cases h
 |_::_, [],_,h,_=>by cases h
 |_,_::_, [],_,h=>by cases h
 | [],_::_,_::_,_,_=>rfl
 |a::x,b::y,c::z,h1,h2=>by
  rw [bl_cons] at *
  rcases h1 with h1|⟨e1,h1⟩<;>rcases h2 with h2|⟨e2,h2⟩
  ·exact .inl oM
  ·exact .inl oM
  ·exact .inl oM
  ·exact .inr ⟨oM,zcz h1 h2⟩
theorem bl_tri:∀{x y:List UInt8},Op.bytesLess x y=false->Op.bytesLess y x=false->x=y
 | [], [],_,_=>rfl
 | [],_::_,h,_=>by cases h
 |_::_, [],_,h=>by cases h
 |a::x,b::y,h1,h2=>by
  have h1':¬(a.toNat<b.toNat\/(a.toNat=b.toNat/\Op.bytesLess x y=true)):=fun h=>by rw [bl_cons.2 h] at h1;cases h1
  have h2':¬(b.toNat<a.toNat\/(b.toNat=a.toNat/\Op.bytesLess y x=true)):=fun h=>by rw [bl_cons.2 h] at h2;cases h2
  have e:a.toNat=b.toNat:=by
   rcases Nat.lt_trichotomy a.toNat b.toNat with h|h|h
   ·exact absurd (.inl h) h1'
   ·exact h
   ·exact absurd (.inl h) h2'
  have g1:Op.bytesLess x y=false:=by rw [qf3];exact fun h=>h1' (.inr ⟨e,h⟩)
  have g2:Op.bytesLess y x=false:=by rw [qf3];exact fun h=>h2' (.inr ⟨e.symm,h⟩)
  rw [u8_eq.2 e,bl_tri g1 g2]
def ltS (a b:ByteArray):Bool:=Op.bytesLess a.data.toList b.data.toList
theorem ba_ext {a b:ByteArray}(h:a.data.toList=b.data.toList):a=b:=by
 cases a;cases b;simp only [ByteArray.mk.injEq];exact Array.toList_inj.1 h
theorem zdz (a:ByteArray):ltS a a=false:=bl_irr _
theorem zqt {a b c:ByteArray}(h1:ltS a b=true) (h2:ltS b c=true):ltS a c=true:=zcz h1 h2
theorem zez {a b:ByteArray}(h1:ltS a b=false) (h2:ltS b a=false):a=b:=ba_ext (bl_tri h1 h2)
def at64 (s:ByteArray):Option Nat:=(List.range s.size).find? fun i=>s[i]! == 64
def cutA (s:ByteArray):ByteArray:=match at64 s with|some i=>s.extract 0 i|none=>s
def cutB (s:ByteArray):ByteArray:=match at64 s with|some i=>s.extract (i+1) s.size|none=>ByteArray.empty
def cutF (s:ByteArray):Bool:=(at64 s).isSome
def byA (s:ByteArray) (i:Nat):Int:=(s.data.getD i 0).toNat
def okB (i:Nat) (c:Int):Bool:=decide (97<=c/\c<=122) || (i != 0 && (decide (48<=c/\c<=57) || decide (c=45\/c=46\/c=95)))
def zpe (s:ByteArray):Nat->Nat->Bool
 |_,0=>true
 |i,n+1=>okB i (byA s i) && zpe s (i+1) n
def partB (s:ByteArray):Bool:=decide (1<=s.size) && (decide (s.size<=20) && zpe s 0 s.size)
def snapB (s:ByteArray):Bool:=cutF s && (partB (cutA s) && partB (cutB s))
def splA (s:ByteArray):ByteArray:=if snapB s then cutA s else ByteArray.empty
def splB (s:ByteArray):ByteArray:=if snapB s then cutB s else ByteArray.empty
def sign:ByteArray:=⟨#[64]⟩
def joinB (a b:ByteArray):ByteArray:=if partB a && partB b then a ++ sign ++ b else ByteArray.empty
def lessB (a b:ByteArray):Bool :=
 if cutA a=cutA b then (if cutF a && cutF b then ltS (cutB a) (cutB b) else !cutF a && cutF b) else ltS (cutA a) (cutA b)
theorem zqj {s:ByteArray}(h:cutF s=false):cutB s=ByteArray.empty:=by
 unfold cutF at h;unfold cutB;cases hs:at64 s with
 |none=>rfl
 |some i=>rw [hs] at h;cases h
theorem zvn (a:ByteArray):lessB a a=false:=by
 unfold lessB;rw [qj rfl];cases cutF a with
 |true=>simp [zdz]
 |false=>rfl
theorem zti {a b c:ByteArray}(h1:lessB a b=true) (h2:lessB b c=true):lessB a c=true:=by
 unfold lessB at *
 by_cases e1:cutA a=cutA b
 ·rw [qj e1] at h1
  by_cases e2:cutA b=cutA c
  ·rw [qj e2] at h2
   rw [qj (e1.trans e2)];cases ha:cutF a<;>cases hb:cutF b<;>cases hc:cutF c<;>simp only [ha,hb,hc,qx3,ql3,qo2,qq2,ql5,qo5,qc5,qq3,qj1] at h1 h2 ⊢
   exact zqt h1 h2
  ·rw [qg e2] at h2
   rw [qg (by rw [e1];exact e2),e1]
   exact h2
 ·rw [qg e1] at h1
  by_cases e2:cutA b=cutA c
  ·rw [qg (by rw [← e2];exact e1),← e2]
   exact h1
  ·rw [qg e2] at h2
   have h3:=zqt h1 h2;rw [qg (fun e=>by rw [e,zdz] at h3;cases h3)]
   exact h3
def Key (a b:ByteArray):Prop:=cutA a=cutA b/\cutF a=cutF b/\cutB a=cutB b
theorem zre1 {a b:ByteArray}(h1:lessB a b=false) (h2:lessB b a=false):Key a b:=by
 unfold lessB at *
 by_cases e1:cutA a=cutA b
 ·rw [qj e1] at h1
  rw [qj e1.symm] at h2;cases ha:cutF a<;>cases hb:cutF b<;>simp only [ha,hb,qx3,ql3,qo2,qq2,ql5,qo5,qc5,qq3,qj1,reduceCtorEq] at h1 h2
  ·exact ⟨e1,by rw [ha,hb],by rw [zqj ha,zqj hb]⟩
  ·exact ⟨e1,by rw [ha,hb],zez h1 h2⟩
 ·rw [qg e1] at h1
  rw [qg (fun e=>e1 e.symm)] at h2
  exact absurd (zez h1 h2) e1
theorem zse1 {a b c:ByteArray}(h:Key b c):lessB b a=lessB c a/\lessB a b=lessB a c:=by
 obtain ⟨h1,h2,h3⟩:=h;unfold lessB;rw [h1,h2,h3];exact ⟨rfl,rfl⟩
theorem zpp {a b:ByteArray}(h:lessB a b=true):lessB b a=false:=by
 rw [qf3];intro h2;have:=zti h h2;rw [zvn] at this;cases this
theorem le_trans {a b c:ByteArray}(h1:lessB b a=false) (h2:lessB c b=false):lessB c a=false:=by
 rw [qf3];intro h;cases hbc:lessB b c with
 |true =>
  have:=zti hbc h;rw [h1] at this;cases this
 |false =>
  have hk:=zre1 hbc h2;rw [(zse1 (a:=a) hk).1,h] at h1;cases h1
structure Rc where
 id:Int
 nm:ByteArray
 kd:Int
 sz:Int
 md:Int
 ow:Int
 og:Int
 qu:Int
 rs:Int
def Rc0:Rc:=⟨0,ByteArray.empty,0,0,0,0,0,0,0⟩
def upto (f:Rc->Bool):List Rc->Nat
 | []=>0
 |r::l=>if f r=true then upto f l+1 else 0
theorem zrt (f:Rc->Bool):∀l,upto f l<=l.length
 | []=>qn _
 |r::l=>by
  unfold upto;split
  ·have:=zrt f l;simp only [qi2];omega
  ·exact qh2 _
theorem zxd (f:Rc->Bool):∀{l:List Rc}{n:Nat},n<=l.length->(∀i r,i<n->l[i]? =some r->f r=true)->(∀r,l[n]? =some r->f r=false)->upto f l=n
 | [],n,h,_,_=>by simp at h;subst h;rfl
 |r::l,0,_,_,h2=>by
  unfold upto;rw [qg (by rw [h2 r rfl];decide)]
 |r::l,n+1,h,h1,h2=>by
  unfold upto;rw [qj (h1 0 r oM rfl),zxd f (n:=n) (by simpa using h) (fun i r hi hr=>h1 (i+1) r oM (by simpa using hr)) (fun r hr=>h2 r (by simpa using hr))]
theorem zfz (f:Rc->Bool):∀{l:List Rc}{i:Nat}{r:Rc},i<upto f l->l[i]? =some r->f r=true
 | [],i,r,h,_=>by simp [upto] at h
 |a::l,i,r,h,hr=>by
  unfold upto at h;split at h
  ·next ha =>
   cases i with
   |zero=>cases hr;exact ha
   |succ i=>exact zfz f (l:=l) (Nat.lt_of_succ_lt_succ h) (by simpa using hr)
  ·omega
theorem zst (f:Rc->Bool):∀{l:List Rc}{r:Rc},l[upto f l]? =some r->f r=false
 | [],r,h=>by simp [upto] at h
 |a::l,r,h=>by
  unfold upto at h;split at h
  ·exact zst f (l:=l) (by simpa using h)
  ·next ha=>cases h;simpa using ha
def Srt (l:List Rc):Prop:=l.Pairwise fun a b=>lessB b.nm a.nm=false
def plc (x:Rc) (l:List Rc):Nat:=upto (fun r=>lessB r.nm x.nm) l
def layL (x:Rc) (l:List Rc):List Rc:=l.take (plc x l) ++ x::l.drop (plc x l)
theorem zdm1 (x:Rc) (l:List Rc):(layL x l).length=l.length+1:=by
 have:=zrt (fun r=>lessB r.nm x.nm) l
 unfold layL plc;simp only [qy,qd1,qi2,qb2];omega
theorem zgz {l:List Rc}(h:Srt l){i j:Nat}{a b:Rc}(hi:l[i]? =some a) (hj:l[j]? =some b) (hij:i<j):lessB b.nm a.nm=false:=by
 obtain ⟨h1,rfl⟩:=qq.1 hi;obtain ⟨h2,rfl⟩:=qq.1 hj;exact List.pairwise_iff_getElem.1 h i j h1 h2 hij
theorem zem1 {x:Rc}{l:List Rc}(h:Srt l){n:Nat}(hn:n<=l.length) (h1:∀r,0<n->l[n - 1]? =some r->lessB r.nm x.nm=true) (h2:∀r,l[n]? =some r->lessB r.nm x.nm=false):plc x l=n:=by
 refine zxd _ hn (fun i r hi hr=> ?_) h2
 have hlt:n - 1<l.length:=oM
 have hg:=qr hlt;have h3:=h1 _ oM hg
 rcases qf2 i (n - 1) with h4|h4
 ·have h5:=zgz h hr hg h4
  cases h6:lessB r.nm x.nm with
  |true=>rfl
  |false =>
   have:=le_trans (a:=x.nm) (b:=r.nm) (c:=l[n - 1].nm) h6 h5;rw [h3] at this;cases this
 ·have:i=n - 1:=oM
  subst this;rw [hr] at hg;cases hg;exact h3
theorem zfm1 {x:Rc}{l:List Rc}(h:Srt l):Srt (layL x l):=by
 unfold layL;refine qw5.2 ⟨List.Pairwise.sublist (List.take_sublist _ _) h,qx6.2 ⟨fun b hb=> ?_,List.Pairwise.sublist (List.drop_sublist _ _) h⟩,fun a ha b hb=> ?_⟩
 ·-- what stands behind
  obtain ⟨j,hj⟩:=qz.1 hb;rw [qj2] at hj;have hlt:=(qq.1 hj).1;have h0:plc x l<l.length:=oM
  have hg:=qr h0;have h1:=zst _ hg;cases j with
  |zero=>rw [qk4,hg] at hj;cases hj;exact h1
  |succ j=>exact le_trans h1 (zgz h hg hj oM)
 ·obtain ⟨i,hi⟩:=qz.1 ha
  have hil:i<plc x l:=by
   have:=(qq.1 hi).1;rw [qd1] at this;omega
  rw [qa2 hil] at hi;have h1:=zfz _ hil hi;rcases qe1.1 hb with rfl|hb
  ·exact zpp h1
  ·obtain ⟨j,hj⟩:=qz.1 hb
   rw [qj2] at hj;exact zgz h hi hj oM
def sortL (l:List Rc):List Rc:=l.foldl (fun out x=>layL x out) []
theorem ztt:∀(l out:List Rc),Srt out->Srt (l.foldl (fun out x=>layL x out) out)
 | [],_,h=>h
 |x::l,out,h=>ztt l _ (zfm1 h)
theorem zrj (l:List Rc) (x:Rc):sortL (l ++ [x])=layL x (sortL l):=by
 unfold sortL;rw [List.foldl_append];rfl
def zer (l:List Rc):Prop:= ∀i a b,l[i]? =some a->l[i+1]? =some b->lessB a.nm b.nm=true
theorem zyh {l:List Rc}(h:zer l):∀{j i:Nat}{a b:Rc},l[i]? =some a->l[j]? =some b->i<j->lessB a.nm b.nm=true
 |0,i,a,b,_,_,hij=>oM
 |j+1,i,a,b,hi,hj,hij=>by
  rcases qf2 i j with h1|h1
  ·have hlt:j<l.length:=by have:=(qq.1 hj).1;omega
   have hg:=qr hlt;exact zti (zyh h hi hg h1) (h j _ _ hg hj)
  ·have:i=j:=oM
   subst this;exact h i a b hi hj
theorem zhz {l:List Rc}(h:zer l):Srt l:=by
 refine List.pairwise_iff_getElem.2 fun i j hi hj hij=>zpp (zyh h (qr hi) (qr hj) hij)
theorem ziz {l:List Rc}{x:Rc}(h:zer (l ++ [x])):zer l:=fun i a b hi hj=>by
 have h1:=(qq.1 hi).1;have h2:=(qq.1 hj).1;exact h i a b (by rw [qr1 h1];exact hi) (by rw [qr1 h2];exact hj)
theorem zfr (l:List Rc):zer l->sortL l=l:=by
 have key:∀n,∀l:List Rc,l.length=n->zer l->sortL l=l:=by
  intro n
  induction n with
  |zero=>intro l hl _;rw [ql1 hl];rfl
  |succ n ih =>
   intro l hl hs;obtain ⟨m,x,rfl⟩:∃m x,l=m ++ [x]:=⟨l.dropLast,l.getLast (by intro h;rw [h] at hl;cases hl),(List.dropLast_concat_getLast _).symm⟩
   have hm:m.length=n:=by simpa using hl
   have hsm:=ziz hs;rw [zrj,ih m hm hsm];have hp:plc x m=m.length:=zxd _ (qn _) (fun i r hi hr=>zyh hs (i:=i) (j:=m.length) (by rw [qr1 hi];exact hr) (by simp) hi) (fun r hr=>by simp at hr)
   unfold layL;rw [hp];simp
 exact key l.length l rfl
structure Tb where
 nx:Int
 rs:List Rc
def wi (n a b:Int):Bool:=decide (n>=a/\n<=b)
def maxN:Int:=2147483647
def aloneB (x:Rc):Bool:=wi x.id 1 maxN && (wi x.sz 1 64 && (wi x.md 1 2147483648 &&
 (if x.kd=1 then partB x.nm && (decide (x.ow=0) && (wi x.og 0 maxN && (wi x.qu 0 64 && wi x.rs 0 64)))
  else if x.kd=2 then snapB x.nm && (wi x.ow 1 maxN && (decide (x.og=0) && (decide (x.qu=0) && (decide (x.rs=0) && decide (0<=x.md)))))
  else false)))
def fnd (s:ByteArray) (l:List Rc):Nat:=upto (fun r=>decide (r.nm≠s)) l
def hasB (s:ByteArray) (l:List Rc):Bool:=decide (fnd s l<l.length)
def fndI (s:ByteArray) (l:List Rc):Nat:=if fnd s l<l.length then fnd s l else 0
def get (l:List Rc) (i:Nat):Rc:=l.getD i Rc0
def kinB (l:List Rc) (x:Rc):Bool :=
 if x.kd=2 then hasB (splA x.nm) l && decide ((get l (fndI (splA x.nm) l)).id=x.ow)
 else decide (x.og=0) || l.any fun y=>decide (y.id=x.og) && decide (y.kd=2)
def relB (t:Tb) (i:Nat):Bool :=
 ((t.rs.take i).all fun y=>decide (y.id≠(get t.rs i).id)) && (decide ((get t.rs i).id<t.nx) && kinB t.rs (get t.rs i))
def ordB (l:List Rc) (i:Nat):Bool:=decide (i=0) || lessB (get l (i - 1)).nm (get l i).nm
def headB (t:Tb):Bool:=wi t.nx 1 2147483648 && decide (t.rs.length<=16)
def ztb (t:Tb):Bool:=headB t && (((List.range t.rs.length).all fun i=>aloneB (get t.rs i) && ordB t.rs i) && ((List.range t.rs.length).all fun i=>relB t i))
theorem zeh {l:List Rc}{i:Nat}{a:Rc}(h:l[i]? =some a):get l i=a:=by
 unfold get;rw [qn6,h];rfl
theorem get_lt {l:List Rc}{i:Nat}(h:i<l.length):l[i]? =some (get l i):=by
 unfold get;rw [qn6,qr h];rfl
structure Ok (t:Tb):Prop where
 nx:1<=t.nx/\t.nx<=2147483648
 len:t.rs.length<=16
 alone:∀i,i<t.rs.length->aloneB (get t.rs i)=true
 ord:∀i,i<t.rs.length->ordB t.rs i=true
 rel:∀i,i<t.rs.length->relB t i=true
theorem checkB_ok {t:Tb}:ztb t=true↔Ok t:=by
 unfold ztb headB wi;simp only [qm,qs,qb1,qc3];constructor
 ·rintro ⟨⟨h1,h2⟩,h3,h4⟩
  exact ⟨⟨h1.1,h1.2⟩,h2,fun i hi=>(h3 i hi).1,fun i hi=>(h3 i hi).2,h4⟩
 ·rintro ⟨h1,h2,h3,h4,h5⟩
  exact ⟨⟨⟨h1.1,h1.2⟩,h2⟩,fun i hi=>⟨h3 i hi,h4 i hi⟩,h5⟩
theorem Ok.strict {t:Tb}(h:Ok t):zer t.rs:=fun i a b hi hj=>by
 have h1:=(qq.1 hj).1;have:=h.ord (i+1) h1;unfold ordB at this;rw [zeh hj,qy6,zeh hi] at this
 simpa using this
theorem Ok.srt {t:Tb}(h:Ok t):Srt t.rs:=zhz h.strict
theorem zwn {s:ByteArray}{l:List Rc}(h:fnd s l<l.length):(get l (fnd s l)).nm=s:=by
 have h1:decide ((get l (fnd s l)).nm≠s)=false:=zst (fun r=>decide (r.nm≠s)) (get_lt h)
 simpa using h1
theorem Ok.ids {t:Tb}(h:Ok t){i j:Nat}(hi:i<t.rs.length) (hj:j<t.rs.length) (e:(get t.rs i).id=(get t.rs j).id):i=j:=by
 have key:∀i j,i<j->j<t.rs.length->(get t.rs i).id≠(get t.rs j).id:=by
  intro i j hij hj;have hr:=h.rel j hj;unfold relB at hr;rw [qm,qb1] at hr;have hm:get t.rs i∈t.rs.take j:=qz.2 ⟨i,by rw [qa2 hij];exact get_lt oM⟩
  simpa using hr.1 _ hm
 rcases Nat.lt_trichotomy i j with h1|h1|h1
 ·exact absurd e (key i j h1 hj)
 ·exact h1
 ·exact absurd e.symm (key j i h1 hi)
theorem Ok.lt {t:Tb}(h:Ok t){i:Nat}(hi:i<t.rs.length):(get t.rs i).id<t.nx:=by
 have hr:=h.rel i hi;unfold relB at hr;rw [qm,qm,qs] at hr;exact hr.2.1
theorem Ok.kin {t:Tb}(h:Ok t){i:Nat}(hi:i<t.rs.length):kinB t.rs (get t.rs i)=true:=by
 have hr:=h.rel i hi;unfold relB at hr;rw [qm,qm] at hr;exact hr.2.2
theorem zqp {s:ByteArray}:∀{n i:Nat},zpe s i n=true-> ∀j,i<=j->j<i+n->okB j (byA s j)=true
 |0,_,_,j,h1,h2=>oM
 |n+1,i,h,j,h1,h2=>by
  unfold zpe at h;rw [qm] at h;rcases qf2 i j with h3|h3
  ·exact zqp h.2 j oM oM
  ·have:j=i:=oM
   subst this;exact h.1
theorem zgm1 {s:ByteArray}(h:partB s=true):cutF s=false:=by
 unfold partB at h;simp only [qm,qs] at h;unfold cutF at64;rw [Option.isSome_eq_false_iff,Option.isNone_iff_eq_none,List.find?_eq_none];intro i hi hc;have hi':=qc3.1 hi;have h1:=zqp h.2.2 i oM oM
 have h2:s[i]! =64:=by simpa using hc
 have h3:byA s i=64:=by
  unfold byA;have h4:s[i]! =s.data.getD i 0:=by
   have:i<s.data.size:=hi';rw [getElem!_pos s i hi',qm1,qs1 this];rfl
  rw [← h4,h2];rfl
 rw [h3] at h1;unfold okB at h1;simp at h1
theorem zsj {s:ByteArray}(h:snapB s=true):partB s=false:=by
 cases hp:partB s with
 |false=>rfl
 |true =>
  unfold snapB at h;rw [zgm1 hp] at h;cases h
theorem zzh {x:Rc}(h:aloneB x=true):(x.kd=1/\partB x.nm=true/\x.ow=0)\/(x.kd=2/\snapB x.nm=true/\1<=x.ow/\x.og=0):=by
 unfold aloneB wi at h;simp only [qm,qs] at h;obtain ⟨_,_,_,h⟩:=h;split at h
 ·next h1=>exact .inl ⟨h1,by simp only [qm,qs] at h;exact ⟨h.1,h.2.1⟩⟩
 ·split at h
  ·next h1=>exact .inr ⟨h1,by simp only [qm,qs] at h;exact ⟨h.1,h.2.1.1,h.2.2.1⟩⟩
  ·cases h
abbrev Res:=Option Tb×Int
def bad (e:Int):Res:=(none,e)
def good (t:Tb):Res:=(some t,0)
def roomE (t:Tb) (s:ByteArray):Int:=if hasB s t.rs then 7 else if t.rs.length>=16\/t.nx>=2147483648 then 8 else 0
def putT (t:Tb) (x:Rc):Tb:=⟨t.nx+1,layL {x with id:=t.nx} t.rs⟩
def makeT (t:Tb) (s:ByteArray) (n:Int):Res :=
 if ztb t && (partB s && wi n 1 64) then (if roomE t s=0 then good (putT t ⟨0,s,1,n,1,0,0,0,0⟩) else bad (roomE t s)) else bad 2
def snapT (t:Tb) (s:ByteArray):Res :=
 if ztb t && snapB s then
  (if hasB (splA s) t.rs then (if roomE t s=0 then good (putT t ⟨0,s,2,(get t.rs (fndI (splA s) t.rs)).sz,1,(get t.rs (fndI (splA s) t.rs)).id,0,0,0⟩) else bad (roomE t s)) else bad 6)
 else bad 2
def zxn (t:Tb) (s to:ByteArray):Res :=
 if ztb t && (snapB s && partB to) then
  (if hasB s t.rs then (if roomE t to=0 then good (putT t ⟨0,to,1,(get t.rs (fndI s t.rs)).sz,1,0,(get t.rs (fndI s t.rs)).id,0,0⟩) else bad (roomE t to)) else bad 6)
 else bad 2
def zrp (a b:Rc):Bool:=decide (a.md>b.md) || (decide (a.md=b.md) && decide (a.id>b.id))
def setSz (l:List Rc) (i:Nat) (n:Int):List Rc:=l.set i {get l i with sz:=n}
def rollT (t:Tb) (s:ByteArray):Res :=
 if ztb t && snapB s then
  (if hasB s t.rs then
   (if t.rs.any fun x=>decide (x.ow=(get t.rs (fndI s t.rs)).ow) && zrp x (get t.rs (fndI s t.rs)) then bad 17
    else good ⟨t.nx,setSz t.rs (fndI (splA s) t.rs) (get t.rs (fndI s t.rs)).sz⟩) else bad 6)
 else bad 2
def dropT (t:Tb) (s:ByteArray):Res :=
 if ztb t && (partB s || snapB s) then
  (if hasB s t.rs then
   (if t.rs.any fun x=>decide (x.ow=(get t.rs (fndI s t.rs)).id) || decide (x.og=(get t.rs (fndI s t.rs)).id) then bad 17
    else good ⟨t.nx,t.rs.eraseIdx (fndI s t.rs)⟩) else bad 6)
 else bad 2
def zkj (a b:ByteArray):Bool:=(partB a && partB b) || (snapB a && (snapB b && decide (splA a=splA b)))
def ren (s to:ByteArray) (x:Rc):Rc:=if x.nm=s then {x with nm:=to} else if snapB x.nm && decide (splA x.nm=s) then {x with nm:=joinB to (splB x.nm)} else x
def renT (t:Tb) (s to:ByteArray):Res :=
 if ztb t && zkj s to then (if hasB s t.rs then (if hasB to t.rs then bad 7 else good ⟨t.nx,sortL (t.rs.map (ren s to))⟩) else bad 6) else bad 2
def zrd (t:Tb) (s:ByteArray) (fine:Bool) (f:Rc->Rc):Res :=
 if ztb t && (fine && (partB s || snapB s)) then
  (if hasB s t.rs then (if (get t.rs (fndI s t.rs)).kd=2 then bad 18 else good ⟨t.nx,t.rs.set (fndI s t.rs) (f (get t.rs (fndI s t.rs)))⟩) else bad 6)
 else bad 2
def sizeT (t:Tb) (s:ByteArray) (n:Int):Res:=zrd t s (wi n 1 64) fun x=> {x with sz:=n}
def limT (t:Tb) (s:ByteArray) (q r:Int):Res:=zrd t s (wi q 0 64 && wi r 0 64) fun x=> {x with qu:=q,rs:=r}
def renD (id:Int) (s to:ByteArray) (x:Rc):Rc:=if x.nm=s then {x with nm:=to} else if (partB s && partB to) && (snapB x.nm && decide (x.ow=id)) then {x with nm:=to ++ sign ++ splB x.nm} else x
theorem splA_of {s:ByteArray}(h:snapB s=true):partB (splA s)=true/\partB (splB s)=true:=by
 have h':=h;unfold snapB at h';rw [qm,qm] at h';unfold splA splB;rw [qj h,qj h];exact h'.2
theorem ren_eq {t:Tb}(hk:Ok t){s to:ByteArray}(ha:zkj s to=true) (hs:hasB s t.rs=true){i:Nat}(hi:i<t.rs.length) :
  ren s to (get t.rs i)=renD (get t.rs (fndI s t.rs)).id s to (get t.rs i):=by
 unfold ren renD;by_cases h1:(get t.rs i).nm=s
 ·rw [qj h1,qj h1]
 rw [qg h1,qg h1];unfold hasB at hs;rw [qs] at hs;have hfi:fndI s t.rs=fnd s t.rs:=by unfold fndI;rw [qj hs]
 rw [hfi];have hks:=hk.alone i hi;cases hsn:snapB (get t.rs i).nm with
 |false=>simp
 |true =>
  have hp:=splA_of hsn;have hkd:(get t.rs i).kd=2:=by
   rcases zzh hks with ⟨h2,h3,_⟩|⟨h2,_⟩
   ·rw [zsj hsn] at h3;cases h3
   ·exact h2
  have hkin:=hk.kin hi;unfold kinB at hkin;rw [qj hkd,qm,qs] at hkin;obtain ⟨hh,hid⟩:=hkin;unfold hasB at hh;rw [qs] at hh;have hvi:fndI (splA (get t.rs i).nm) t.rs=fnd (splA (get t.rs i).nm) t.rs:=by unfold fndI;rw [qj hh]
  rw [hvi] at hid;simp only [qo2];by_cases hv:splA (get t.rs i).nm=s
  ·have hps:partB s=true:=by rw [← hv];exact hp.1
   have hpt:partB to=true:=by
    unfold zkj at ha;cases h5:snapB s with
    |true=>rw [zsj h5] at hps;cases hps
    |false=>rw [h5] at ha;simp at ha;exact ha.2
   rw [hv] at hid;rw [hps,hpt];simp only [hv,hid,qz3,qp2,qc5];unfold joinB;rw [hpt,hp.2];rfl
  ·have hne:(get t.rs i).ow≠(get t.rs (fnd s t.rs)).id:=by
    rw [← hid];intro e;have:=hk.ids hh hs e;have h6:=zwn hh;rw [this,zwn hs] at h6;exact hv h6.symm
   simp only [hv,hne,qu3,ql3,qj1,qq3]
theorem zoi1 {t:Tb}(hk:Ok t){s to:ByteArray}(ha:zkj s to=true) (hs:hasB s t.rs=true) :
  t.rs.map (ren s to)=t.rs.map (renD (get t.rs (fndI s t.rs)).id s to):=by
 refine qm3 fun i=> ?_
 rw [qi1,qi1];rcases qf2 i t.rs.length with h|h
 ·rw [get_lt h];exact qj4 some (ren_eq hk ha hs h)
 ·rw [qx1 h];rfl
theorem zhm1 {t:Tb}(hk:Ok t){s:ByteArray}(hsn:snapB s=true) (hs:hasB s t.rs=true) :
  (t.rs.any fun x=>decide (x.ow=(get t.rs (fndI s t.rs)).ow) && zrp x (get t.rs (fndI s t.rs))) =
  (t.rs.any fun x=>decide (x.kd=2) && (decide (x.ow=(get t.rs (fndI s t.rs)).ow) && zrp x (get t.rs (fndI s t.rs)))):=by
 have hs':=hs;unfold hasB at hs;rw [qs] at hs;have hfi:fndI s t.rs=fnd s t.rs:=by unfold fndI;rw [qj hs]
 rw [hfi];have h1:=hk.alone _ hs;have hnm:=zwn hs;have how:1<=(get t.rs (fnd s t.rs)).ow:=by
  rcases zzh h1 with ⟨_,h3,_⟩|⟨_,_,h3,_⟩
  ·rw [hnm,zsj hsn] at h3;cases h3
  ·exact h3
 rw [ql2,qf4,qf4];constructor
 ·rintro ⟨x,hx,h2⟩
  refine ⟨x,hx,?_⟩;obtain ⟨i,hi⟩:=qz.1 hx;have hil:=(qq.1 hi).1;have h3:=hk.alone i hil;rw [zeh hi] at h3;rw [qm,qs] at h2;have:x.kd=2:=by
   rcases zzh h3 with ⟨_,_,h4⟩|⟨h4,_⟩
   ·rw [← h2.1,h4] at how;omega
   ·exact h4
  rw [qm,qm,qs,qs];exact ⟨this,h2⟩
 ·rintro ⟨x,hx,h2⟩
  rw [qm] at h2;exact ⟨x,hx,h2.2⟩
theorem zim1 {t:Tb}(hk:Ok t) (x:Rc):layL x t.rs=sortL (t.rs ++ [x]):=by rw [zrj,zfr _ hk.strict]
structure Od where
 op:Int
 nm:ByteArray
 to:ByteArray
 n:Int
 m:Int
 l:List ByteArray
 b:List Nat
def usesO (op:Int):Bool×Bool×Bool×Bool×Bool×Bool :=
 if op=1\/op=7 then (true,false,true,false,false,false)
 else if op=2\/op=4\/op=5\/op=9\/op=15\/op=16 then (true,false,false,false,false,false)
 else if op=3\/op=6\/op=10 then (true,true,false,false,false,false)
 else if op=8\/op=12\/op=14 then (true,false,true,true,false,false)
 else if op=11 then (false,false,false,false,true,false)
 else if op=13 then (true,false,true,false,false,true)
 else if op=18\/op=20\/op=21 then (false,false,true,false,false,false)
 else (false,false,false,false,false,false)
def ordOk (o:Od):Bool :=
 let u:=usesO o.op
 wi o.op 1 24 && (wi o.n 0 maxN && (wi o.m 0 maxN && (decide (o.l.length<=16) && (decide (o.b.length<=16384) && (decide (o.nm.size<=48) && (decide (o.to.size<=48) && ((o.l.all fun s=>decide (s.size<=48)) &&
  ((decide (o.nm.size=0) || u.1) && ((decide (o.to.size=0) || u.2.1) && ((decide (o.n=0) || u.2.2.1) && ((decide (o.m=0) || u.2.2.2.1) && ((decide (o.l.length=0) || u.2.2.2.2.1) && (decide (o.b.length=0) || u.2.2.2.2.2)))))))))))))
abbrev Bk:=List Nat
def zeroB:Bk:=List.replicate 16384 0
def atB (b:Bk) (k:Nat):List Nat:=(b.drop (256*k)).take 256
def noB:List Nat:=List.replicate 256 0
def zig (b:Bk):Nat->Nat->Nat
 |_,0=>0
 |k,n+1=>(if atB b k=noB then 0 else 1)+zig b (k+1) n
def usedB (b:Bk):Nat:=zig b 0 64
def putB (b:Bk) (at_:Nat) (x:List Nat):Bk:=b.take at_ ++ x ++ b.drop (at_+x.length)
def cutK (b:Bk) (i:Nat) (n:Nat):Bk:=putB b (256*i) (List.replicate (256*n) 0)
structure Ms where
 t:Tb
 b:Int->Bk
def setK (b:Int->Bk) (i:Int) (x:Bk):Int->Bk:=fun j=>if j=i then x else b j
def M0:Ms:=⟨⟨1, []⟩,fun _=>zeroB⟩
def chgT (t:Tb) (o:Od):Res :=
 if o.op=1 then makeT t o.nm o.n else if o.op=2 then snapT t o.nm else if o.op=3 then zxn t o.nm o.to else if o.op=4 then rollT t o.nm
 else if o.op=5 then dropT t o.nm else if o.op=6 then renT t o.nm o.to else if o.op=7 then sizeT t o.nm o.n else limT t o.nm o.n o.m
def recO (t:Tb) (s:ByteArray):Rc:=if hasB s t.rs then get t.rs (fndI s t.rs) else Rc0
def chgB (del:Bool) (s:Ms) (o:Od):Int->Bk :=
 let x:=recO s.t o.nm
 let v:=recO s.t (splA o.nm)
 if o.op=1 then setK s.b s.t.nx zeroB else if o.op=2 then setK s.b s.t.nx (s.b v.id) else if o.op=3 then setK s.b s.t.nx (s.b x.id)
 else if o.op=4 then setK s.b v.id (s.b x.id) else if o.op=5 then (if del then setK s.b x.id zeroB else s.b)
 else if o.op=7 then setK s.b x.id (cutK (s.b x.id) o.n.toNat (64 - o.n.toNat)) else s.b
structure Rp where
 err:Int
 n:List Int
 b:List Nat
def er (e:Int):Rp:=⟨e, [], []⟩
def someB (b:Bk) (i n:Nat):List Nat:=(b.drop (256*i)).take (256*n)
def zie (del:Bool) (s:Ms) (o:Od):Rp×Ms:=match chgT s.t o with
 |(some t,_)=>(er 0,⟨t,chgB del s o⟩)
 |(none,e)=>(er e,s)
def zyk (s:Ms) (but:ByteArray):Int :=
 s.t.rs.foldl (fun n x=>if x.kd=1/\x.nm≠but then n+max (x.rs - (usedB (s.b x.id):Int)) 0 else n) 0
def zuf (s:Ms) (o:Od) (x:Rc):Rp×Ms :=
 let to:Int:=if o.op=13 then o.n+((o.b.length / 256:Nat):Int) else o.m
 if x.kd=2 then (er 18,s) else if o.n>to\/to>x.sz then (er 5,s) else
 let next:=putB (cutK (s.b x.id) o.n.toNat (to.toNat - o.n.toNat)) (256*o.n.toNat) o.b
 if o.op=13/\usedB next>usedB (s.b x.id)/\x.qu>0/\(usedB next:Int)>x.qu then (er 16,s) else (er 0,⟨s.t,setK s.b x.id next⟩)
def asksM (s:Ms) (o:Od):Rp×Ms :=
 if (o.op=13/\(o.b.length=0\/o.b.length%256≠0))\/(partB o.nm || snapB o.nm)=false then (er 2,s)
 else if hasB o.nm s.t.rs=false then (er 6,s)
 else
  let x:=recO s.t o.nm
  if o.op=12 then (if o.n>x.sz\/o.m>x.sz - o.n then er 5 else ⟨0, [],someB (s.b x.id) o.n.toNat o.m.toNat⟩,s)
  else if o.op=15 then (⟨0, [(usedB (s.b x.id):Int)], []⟩,s)
  else zuf s o x
def zyd (del:Bool) (s:Ms) (o:Od):Rp×Bool×Ms :=
 if ordOk o then
  (if o.op<=8 then ((zie del s o).1,true,(zie del s o).2)
   else if o.op=16 then (⟨0, [zyk s o.nm], []⟩,true,s)
   else if 12<=o.op/\o.op<=15 then ((asksM s o).1,true,(asksM s o).2)
   else (er 0,false,s))
 else (er 2,true,s)
def sameM (a b:Ms):Bool :=
 decide (a.t.rs.length=b.t.rs.length) && (List.range a.t.rs.length).all fun i =>
  decide ((get a.t.rs i).nm=(get b.t.rs i).nm) && (decide ((get a.t.rs i).kd=(get b.t.rs i).kd) && (decide ((get a.t.rs i).sz=(get b.t.rs i).sz) &&
   (decide ((get a.t.rs i).qu=(get b.t.rs i).qu) && (decide ((get a.t.rs i).rs=(get b.t.rs i).rs) && decide (a.b (get a.t.rs i).id=b.b (get b.t.rs i).id)))))
structure Like (s w:Ms):Prop where
 t:s.t=w.t
 b:∀i,i<s.t.rs.length->s.b (get s.t.rs i).id=w.b (get s.t.rs i).id
 sz:∀i,i<s.t.rs.length->1<=(get s.t.rs i).sz/\(get s.t.rs i).sz<=64
theorem like0:Like M0 M0:=⟨rfl,fun _ _=>rfl,fun i h=>by cases h⟩
theorem ztj {a b c d:Ms}(h:Like a c) (k:Like b d):sameM a b=sameM c d:=by
 unfold sameM;rw [← h.t,← k.t];by_cases hl:a.t.rs.length=b.t.rs.length
 ·rw [qo hl,qo2,qo2,ql2,qb1,qb1]
  refine forall_congr' fun i=>forall_congr' fun hi=> ?_
  have hi':=qc3.1 hi;rw [h.b i hi',k.b i (hl▸hi')]
 ·rw [qp hl];rfl
theorem zte1 (a:Ms):sameM a a=true:=by
 unfold sameM;simp
theorem zeb {s:ByteArray}{l:List Rc}(h:hasB s l=true):fndI s l<l.length/\(get l (fndI s l)).nm=s:=by
 unfold hasB at h;rw [qs] at h;unfold fndI;rw [qj h];exact ⟨h,zwn h⟩
theorem zjz {t:Tb}(x:Rc){i:Nat}(hi:i<(putT t x).rs.length):get (putT t x).rs i= {x with id:=t.nx}\/ ∃j,j<t.rs.length/\get (putT t x).rs i=get t.rs j:=by
 have h:=get_lt hi;have hm:get (putT t x).rs i∈layL {x with id:=t.nx} t.rs:=qz.2 ⟨i,h⟩
 unfold layL at hm;rcases qs2.1 hm with h1|h1
 ·obtain ⟨j,hj⟩:=qz.1 (qd5 h1)
  exact .inr ⟨j,(qq.1 hj).1,(zeh hj).symm⟩
 ·rcases qe1.1 h1 with h2|h2
  ·exact .inl h2
  ·obtain ⟨j,hj⟩:=qz.1 (qn3 h2)
   exact .inr ⟨j,(qq.1 hj).1,(zeh hj).symm⟩
theorem zgr {s w:Ms}(h:Like s w) (hk:Ok s.t){x:Rc}(hx:1<=x.sz/\x.sz<=64){z z':Bk}(hz:z=z') :
  Like ⟨putT s.t x,setK s.b s.t.nx z⟩ ⟨putT w.t x,setK w.b w.t.nx z'⟩:=by
 subst hz;rw [← h.t];refine ⟨rfl,fun i hi=> ?_,fun i hi=> ?_⟩
 ·rcases zjz x hi with h1|⟨j,hj,h1⟩
  ·show setK s.b s.t.nx z (get (putT s.t x).rs i).id=setK w.b s.t.nx z (get (putT s.t x).rs i).id
   rw [h1];unfold setK;rw [qj rfl,qj rfl]
  ·show setK s.b s.t.nx z (get (putT s.t x).rs i).id=setK w.b s.t.nx z (get (putT s.t x).rs i).id
   rw [h1];have:=hk.lt hj;unfold setK;rw [qg oM,qg oM]
   exact h.b j hj
 ·rcases zjz x hi with h1|⟨j,hj,h1⟩
  ·show 1<=(get (putT s.t x).rs i).sz/\_
   rw [h1];exact hx
  ·show 1<=(get (putT s.t x).rs i).sz/\_
   rw [h1];exact h.sz j hj
theorem zhr {s w:Ms}(h:Like s w){l:List Rc}(hl:∀i,i<l.length-> ∃j,j<s.t.rs.length/\(get l i).id=(get s.t.rs j).id)
  (hsz:∀i,i<l.length->1<=(get l i).sz/\(get l i).sz<=64){b b':Int->Bk}(hb:∀j,j<s.t.rs.length->b (get s.t.rs j).id=b' (get s.t.rs j).id) (n:Int) :
  Like ⟨⟨n,l⟩,b⟩ ⟨⟨n,l⟩,b'⟩:=by
 refine ⟨rfl,fun i hi=> ?_,hsz⟩
 obtain ⟨j,hj,e⟩:=hl i hi;show b (get l i).id=b' (get l i).id
 rw [e];exact hb j hj
theorem get_set {l:List Rc}{k i:Nat}{x:Rc}(hi:i<(l.set k x).length):(i=k/\get (l.set k x) i=x)\/(i≠k/\get (l.set k x) i=get l i):=by
 rw [qm2] at hi;by_cases e:i=k
 ·subst e
  exact .inl ⟨rfl,zeh (by rw [qg4 hi])⟩
 ·exact .inr ⟨e,zeh (by rw [qe5 (fun h=>e h.symm)];exact get_lt hi)⟩
theorem zkz {x y:Rc}{l:List Rc}(h:y∈layL x l):y=x\/y∈l:=by
 unfold layL at h;rcases qs2.1 h with h|h
 ·exact .inr (qd5 h)
 ·rcases qe1.1 h with h|h
  ·exact .inl h
  ·exact .inr (qn3 h)
theorem zlz {y:Rc}:∀(l out:List Rc),y∈l.foldl (fun out x=>layL x out) out->y∈l\/y∈out
 | [],out,h=>.inr h
 |x::l,out,h=>by
  rcases zlz l (layL x out) h with h|h
  ·exact .inl (qh1 _ h)
  ·rcases zkz h with h|h
   ·exact .inl (h▸qt1)
   ·exact .inr h
theorem zyn {y:Rc}{l:List Rc}(h:y∈sortL l):y∈l:=by
 rcases zlz l [] h with h|h
 ·exact h
 ·cases h
theorem zya {c:Prop}[Decidable c]{e:Int}{r:Res}{t:Tb}{z:Int}(h:(if c then r else bad e)=(some t,z)):c/\r=(some t,z):=by
 split at h
 ·next hc=>exact ⟨hc,h⟩
 ·cases h
theorem zjg {c:Prop}[Decidable c]{e:Int}{r:Res}{t:Tb}{z:Int}(h:(if c then bad e else r)=(some t,z)):¬c/\r=(some t,z):=by
 split at h
 ·cases h
 ·next hc=>exact ⟨hc,h⟩
theorem zed {t t':Tb}{z:Int}(h:good t'=(some t,z)):t'=t:=by cases h;rfl
theorem znf {t:Tb}{s:ByteArray}(h:hasB s t.rs=true):recO t s=get t.rs (fndI s t.rs):=qj h
theorem zmz {s w:Ms}(h:Like s w) (o:Od){t:Tb}{z:Int}(hc:chgT s.t o=(some t,z)):Like ⟨t,chgB true s o⟩ ⟨t,chgB false w o⟩:=by
 unfold chgT at hc;unfold chgB;simp only;by_cases e1:o.op=1
 ·rw [qj e1] at hc ⊢;rw [qj e1]
  unfold makeT at hc;obtain ⟨c1,hc⟩:=zya hc;obtain ⟨c2,hc⟩:=zya hc;simp only [qm] at c1;have:=zed hc;subst this;have c3:=c1.2.2;unfold wi at c3;rw [qs] at c3;have:=zgr h (checkB_ok.1 c1.1) (x:=⟨0,o.nm,1,o.n,1,0,0,0,0⟩) ⟨c3.1,c3.2⟩ (z:=zeroB) rfl;rw [← h.t] at this ⊢
  exact this
 rw [qg e1] at hc ⊢;rw [qg e1];by_cases e2:o.op=2
 ·rw [qj e2] at hc ⊢;rw [qj e2]
  unfold snapT at hc;obtain ⟨c1,hc⟩:=zya hc;obtain ⟨c2,hc⟩:=zya hc;obtain ⟨c3,hc⟩:=zya hc;simp only [qm] at c1;have:=zed hc;subst this;obtain ⟨m1,m2⟩:=zeb c2;have:=zgr h (checkB_ok.1 c1.1) (x:=⟨0,o.nm,2,(get s.t.rs (fndI (splA o.nm) s.t.rs)).sz,1,(get s.t.rs (fndI (splA o.nm) s.t.rs)).id,0,0,0⟩) (h.sz _ m1) (h.b _ m1);rw [← h.t] at this ⊢
  rw [znf c2];exact this
 rw [qg e2] at hc ⊢;rw [qg e2];by_cases e3:o.op=3
 ·rw [qj e3] at hc ⊢;rw [qj e3]
  unfold zxn at hc;obtain ⟨c1,hc⟩:=zya hc;obtain ⟨c2,hc⟩:=zya hc;obtain ⟨c3,hc⟩:=zya hc;simp only [qm] at c1;have:=zed hc;subst this;obtain ⟨m1,m2⟩:=zeb c2;have:=zgr h (checkB_ok.1 c1.1) (x:=⟨0,o.to,1,(get s.t.rs (fndI o.nm s.t.rs)).sz,1,0,(get s.t.rs (fndI o.nm s.t.rs)).id,0,0⟩) (h.sz _ m1) (h.b _ m1);rw [← h.t] at this ⊢
  rw [znf c2];exact this
 rw [qg e3] at hc ⊢;rw [qg e3];by_cases e4:o.op=4
 ·rw [qj e4] at hc ⊢;rw [qj e4]
  unfold rollT at hc;obtain ⟨c1,hc⟩:=zya hc;obtain ⟨c2,hc⟩:=zya hc;obtain ⟨c3,hc⟩:=zjg hc;have:=zed hc;subst this;obtain ⟨m1,m2⟩:=zeb c2;rw [← h.t,znf c2];have hx:=h.b _ m1;refine zhr h (fun i hi=> ?_) (fun i hi=> ?_) (fun j hj=> ?_) _
  ·rcases get_set hi with ⟨e0,e⟩|⟨_,e⟩
   ·have hi':i<s.t.rs.length:=by unfold setSz at hi;rwa [qm2] at hi
    refine ⟨fndI (splA o.nm) s.t.rs,by rw [← e0];exact hi',?_⟩
    show (get (setSz _ _ _) i).id=_
    unfold setSz;rw [e]
   ·have hi':i<s.t.rs.length:=by unfold setSz at hi;rwa [qm2] at hi
    exact ⟨i,hi',by show (get (setSz _ _ _) i).id=_;unfold setSz;rw [e]⟩
  ·have hi':i<s.t.rs.length:=by unfold setSz at hi;rwa [qm2] at hi
   rcases get_set hi with ⟨_,e⟩|⟨_,e⟩
   ·show 1<=(get (setSz _ _ _) i).sz/\(get (setSz _ _ _) i).sz<=64
    unfold setSz;rw [e];exact h.sz _ m1
   ·show 1<=(get (setSz _ _ _) i).sz/\(get (setSz _ _ _) i).sz<=64
    unfold setSz;rw [e];exact h.sz _ hi'
  ·unfold setK
   split
   ·exact hx
   ·exact h.b j hj
 rw [qg e4] at hc ⊢;rw [qg e4];by_cases e5:o.op=5
 ·rw [qj e5] at hc ⊢;rw [qj e5]
  unfold dropT at hc;obtain ⟨c1,hc⟩:=zya hc;obtain ⟨c2,hc⟩:=zya hc;obtain ⟨c3,hc⟩:=zjg hc;have:=zed hc;subst this;simp only [qm] at c1;have hk:=checkB_ok.1 c1.1;obtain ⟨m1,m2⟩:=zeb c2;rw [znf c2];generalize fndI o.nm s.t.rs=k at *
  have key:∀i,i<(s.t.rs.eraseIdx k).length-> ∃j,j<s.t.rs.length/\j≠k/\get (s.t.rs.eraseIdx k) i=get s.t.rs j:=by
   intro i hi;have hg:=get_lt hi;rw [List.getElem?_eraseIdx] at hg;split at hg
   ·next hlt=>exact ⟨i,oM,oM,(zeh hg).symm⟩
   ·next hlt=>exact ⟨i+1,(qq.1 hg).1,oM,(zeh hg).symm⟩
  refine ⟨rfl,fun i hi=> ?_,fun i hi=> ?_⟩
  ·obtain ⟨j,hj,hne,e⟩:=key i hi
   show setK s.b (get s.t.rs k).id zeroB (get (s.t.rs.eraseIdx k) i).id=w.b (get (s.t.rs.eraseIdx k) i).id
   rw [e];unfold setK;rw [qg fun e=>hne (hk.ids hj m1 e)]
   exact h.b j hj
  ·obtain ⟨j,hj,_,e⟩:=key i hi
   show 1<=(get (s.t.rs.eraseIdx k) i).sz/\_
   rw [e];exact h.sz j hj
 rw [qg e5] at hc ⊢;rw [qg e5];by_cases e6:o.op=6
 ·rw [qj e6] at hc
  rw [qg oM,qg oM]
  unfold renT at hc;obtain ⟨c1,hc⟩:=zya hc;obtain ⟨c2,hc⟩:=zya hc;obtain ⟨c3,hc⟩:=zjg hc;have:=zed hc;subst this;have key:∀i,i<(sortL (s.t.rs.map (ren o.nm o.to))).length-> ∃j,j<s.t.rs.length/\(get (sortL (s.t.rs.map (ren o.nm o.to))) i).id=(get s.t.rs j).id/\(get (sortL (s.t.rs.map (ren o.nm o.to))) i).sz=(get s.t.rs j).sz:=by
   intro i hi;have hm:=zyn (qz.2 ⟨i,get_lt hi⟩);obtain ⟨y,hy,e⟩:=qd3.1 hm;obtain ⟨j,hj⟩:=qz.1 hy;refine ⟨j,(qq.1 hj).1,?_⟩;rw [← e,zeh hj];unfold ren;split
   ·exact ⟨rfl,rfl⟩
   ·split<;>exact ⟨rfl,rfl⟩
  refine zhr h (fun i hi=> ?_) (fun i hi=> ?_) (fun j hj=>h.b j hj) _
  ·obtain ⟨j,hj,e,_⟩:=key i hi;exact ⟨j,hj,e⟩
  ·obtain ⟨j,hj,_,e⟩:=key i hi;rw [e];exact h.sz j hj
 rw [qg e6] at hc;have chg:∀(fine:Bool) (f:Rc->Rc),(∀x,(f x).id=x.id)->(∀x,fine=true->1<=x.sz/\x.sz<=64->1<=(f x).sz/\(f x).sz<=64)-> ∀b b':Int->Bk,(hasB o.nm s.t.rs=true-> ∀j,j<s.t.rs.length->b (get s.t.rs j).id=b' (get s.t.rs j).id) ->
   zrd s.t o.nm fine f=(some t,z)->Like ⟨t,b⟩ ⟨t,b'⟩:=by
  intro fine f hf hsz b b' hb hc;unfold zrd at hc;obtain ⟨c1,hc⟩:=zya hc;obtain ⟨c2,hc⟩:=zya hc;obtain ⟨c3,hc⟩:=zjg hc;have:=zed hc;subst this;simp only [qm] at c1;obtain ⟨m1,m2⟩:=zeb c2;refine zhr h (fun i hi=> ?_) (fun i hi=> ?_) (hb c2) _
  ·rcases get_set hi with ⟨e0,e⟩|⟨_,e⟩
   ·exact ⟨_,m1,by rw [e,hf]⟩
   ·rw [qm2] at hi;exact ⟨i,hi,by rw [e]⟩
  ·rcases get_set hi with ⟨e0,e⟩|⟨_,e⟩
   ·rw [e];exact hsz _ c1.2.1 (h.sz _ m1)
   ·rw [qm2] at hi;rw [e];exact h.sz i hi
 by_cases e7:o.op=7
 ·rw [qj e7] at hc ⊢;rw [qj e7]
  refine chg (wi o.n 1 64) (fun x=> {x with sz:=o.n}) (fun x=>rfl) (fun x hf _=> ?_) _ _ (fun hh j hj=> ?_) hc
  ·unfold wi at hf
   rw [qs] at hf;exact ⟨hf.1,hf.2⟩
  ·obtain ⟨m1,_⟩:=zeb hh
   rw [← h.t,znf hh,← h.b _ m1];unfold setK;split
   ·rfl
   ·exact h.b j hj
 ·rw [qg e7] at hc ⊢;rw [qg e7]
  exact chg (wi o.n 0 64 && wi o.m 0 64) (fun x=> {x with qu:=o.n,rs:=o.m}) (fun x=>rfl) (fun x _ hx=>hx) _ _ (fun _ j hj=>h.b j hj) hc
theorem znz {s w:Ms}(h:Like s w) (o:Od) (hh:hasB o.nm s.t.rs=true):(zuf s o (recO s.t o.nm)).1=(zuf w o (recO w.t o.nm)).1/\Like (zuf s o (recO s.t o.nm)).2 (zuf w o (recO w.t o.nm)).2:=by
 obtain ⟨m1,_⟩:=zeb hh;rw [← h.t,znf hh];unfold zuf;simp only;rw [← h.b _ m1];generalize (if o.op=13 then o.n+((o.b.length / 256:Nat):Int) else o.m)=to
 split
 ·exact ⟨rfl,h⟩
 split
 ·exact ⟨rfl,h⟩
 split
 ·exact ⟨rfl,h⟩
 ·refine ⟨rfl,?_⟩
  have:w.t=s.t:=h.t.symm;refine ⟨this.symm,fun i hi=> ?_,h.sz⟩
  show setK s.b _ _ (get s.t.rs i).id=setK w.b _ _ (get s.t.rs i).id
  unfold setK;split
  ·rfl
  ·exact h.b i hi
theorem zoz {s w:Ms}(h:Like s w) (but:ByteArray):zyk s but=zyk w but:=by
 unfold zyk;rw [← h.t];have key:∀(l:List Rc) (n:Int),(∀x,x∈l->s.b x.id=w.b x.id) ->
   l.foldl (fun n x=>if x.kd=1/\x.nm≠but then n+max (x.rs - (usedB (s.b x.id):Int)) 0 else n) n=l.foldl (fun n x=>if x.kd=1/\x.nm≠but then n+max (x.rs - (usedB (w.b x.id):Int)) 0 else n) n:=by
  intro l
  induction l with
  |nil=>intro n _;rw [List.foldl_nil,List.foldl_nil]
  |cons x l ih =>
   intro n hx;rw [qs6,qs6,hx x qt1];exact ih _ fun y hy=>hx y (qh1 _ hy)
 refine key _ _ fun x hx=> ?_
 obtain ⟨i,hi⟩:=qz.1 hx;have:=h.b i (qq.1 hi).1
 rwa [zeh hi] at this
theorem zsp {s w:Ms}(h:Like s w) (o:Od):(zyd true s o).1=(zyd false w o).1/\(zyd true s o).2.1=(zyd false w o).2.1/\Like (zyd true s o).2.2 (zyd false w o).2.2:=by
 unfold zyd;split
 ·split
  ·unfold zie
   rw [← h.t];cases hc:chgT s.t o with
   |mk r z =>
    cases r with
    |none=>exact ⟨rfl,rfl,h⟩
    |some t=>exact ⟨rfl,rfl,zmz h o hc⟩
  ·split
   ·exact ⟨by rw [zoz h],rfl,h⟩
   ·split
    ·unfold asksM
     rw [← h.t];split
     ·exact ⟨rfl,rfl,h⟩
     ·split
      ·exact ⟨rfl,rfl,h⟩
      ·next hn =>
       have hh:hasB o.nm s.t.rs=true:=by simpa using hn
       obtain ⟨m1,_⟩:=zeb hh;have hb:=h.b _ m1;have hw:=znz h o hh;rw [← h.t] at hw;rw [znf hh] at hw ⊢
       simp only;rw [← hb];split
       ·exact ⟨rfl,trivial,h⟩
       ·split
        ·exact ⟨rfl,trivial,h⟩
        ·exact ⟨hw.1,trivial,hw.2⟩
    ·exact ⟨rfl,rfl,h⟩
 ·exact ⟨rfl,rfl,h⟩
end HS.Md
namespace Go.Ev
open HS.Md
section
variable {α:Type}{f:α->List AV}{z:Nat}
def encC (f:α->List AV) (l:List α):List AV:=l.flatMap f
theorem zod (a:α) (l:List α):encC f (a::l)=f a ++ encC f l:=by simp [encC]
theorem zui (l m:List α):encC f (l ++ m)=encC f l ++ encC f m:=by simp [encC]
theorem znc (hf:∀a,(f a).length=z) (l:List α):(encC f l).length=l.length*z:=by
 induction l with
 |nil=>simp [encC]
 |cons a l ih=>rw [zod,qy,hf,ih,qi2,qy4,qo6,qn7]
theorem zof (hf:∀a,(f a).length=z):∀(l:List α) (k:Nat),(encC f l).drop (k*z)=encC f (l.drop k)
 |l,0=>by simp
 | [],k+1=>by simp [encC]
 |a::l,k+1=>by
  have h1:(f a ++ encC f l).drop z=encC f l:=by
   have:=List.drop_left (l₁:=f a) (l₂:=encC f l)
   rwa [hf] at this
  rw [zod,qy4,qo6,qn7,← qk3,h1,zof hf l k];rfl
theorem zqe (hf:∀a,(f a).length=z):∀(l:List α) (k:Nat),(encC f l).take (k*z)=encC f (l.take k)
 |l,0=>by simp [encC]
 | [],k+1=>by simp [encC]
 |a::l,k+1=>by
  rw [zod,qy4,qo6,qn7,← hf a,List.take_length_add_append,hf a,zqe hf l k,List.take_succ_cons,zod]
theorem zpf (hf:∀a,(f a).length=z){l:List α}{k:Nat}{a:α}(h:l[k]? =some a):((encC f l).drop (k*z)).take z=f a:=by
 rw [zof hf];obtain ⟨hk,rfl⟩:=qq.1 h;rw [qu6 hk,zod,qj3 (by rw [hf];exact qn _),qx (by rw [hf];exact qn _)]
theorem zvi (hf:∀a,(f a).length=z){l:List α}{k j:Nat}{a:α}(h:l[k]? =some a) (hj:j<z):(encC f l)[k*z+j]? =(f a)[j]? :=by
 rw [← zpf hf h,qa2 hj,qj2]
theorem zpz (hf:∀a,(f a).length=z){l:List α}{k:Nat}(b:α) (h:k<l.length):(encC f l).take (k*z) ++ f b ++ (encC f l).drop (k*z+z)=encC f (l.set k b):=by
 rw [zqe hf,show k*z+z=(k+1)*z from by rw [qy4,qo6],zof hf,qq4,qj h,zui,zod,qg1]
theorem zai (hf:∀a,(f a).length=z){l:List α}{k j:Nat}{a b:α}{x:AV}(h:l[k]? =some a) (hj:j<z) (hb:(f a).set j x=f b):(encC f l).set (k*z+j) x=encC f (l.set k b):=by
 obtain ⟨hk,rfl⟩:=qq.1 h;rw [← zpz hf b hk,← hb];have hl:=znc hf l;have hkz:k*z+z<=(encC f l).length:=by
  rw [hl];have:(k+1)*z<=l.length*z:=qd2 z hk;rw [qy4,qo6] at this;exact this
 refine qm3 fun i=> ?_
 have hp:=zpf hf h;have htk:((encC f l).take (k*z)).length=k*z:=by rw [qd1];omega
 have hfl:((f l[k]).set j x).length=z:=by rw [qm2,hf]
 rcases qf2 i (k*z) with h1|h1
 ·rw [qe5 oM,qg1,qr1 oM,qa2 h1]
 ·rcases qf2 i (k*z+z) with h2|h2
  ·rw [qg1,qw1 oM,htk,qr1 oM]
   by_cases h3:i=k*z+j
   ·subst h3
    rw [qg4 oM,Nat.add_sub_cancel_left,qg4 (by rw [hf];exact hj)]
   ·rw [qe5 (fun e=>h3 e.symm),qe5 oM,← hp,qa2 oM,qj2,show k*z+(i - k*z)=i from oM]
  ·rw [qe5 oM,qw1 (by rw [qy];omega),qy,htk,hfl,qj2,show k*z+z+(i - (k*z+z))=i from oM]
def SlE (f:α->List AV) (z:Nat) (H:AH) (v:AV) (l:List α):Prop:=SlZ H v l.length z (encC f l)
theorem SlE.is {H:AH}{v:AV}{l:List α}(h:SlE f z H v l):IsSl H v l.length:=SlZ.is h
theorem SlE.hx {H H':AH}{v:AV}{l:List α}(h:SlE f z H v l) (hx:HX H H'):SlE f z H' v l:=SlZ.hx h hx
theorem SlE.rd {H:AH}{v:AV}{l:List α}(hf:∀a,(f a).length=z) (h:SlE f z H v l){k j:Nat}{a:α}{x:AV}(hk:l[k]? =some a) (hj:j<z) (hx:(f a)[j]? =some x):ld1 (elB z v k j) H=some x :=
 SlZ.rd h (qq.1 hk).1 hj ((zvi hf hk hj).trans hx)
theorem SlE.rdN {H:AH}{v:AV}{l:List α}(hf:∀a,(f a).length=z) (h:SlE f z H v l){k:Nat}{a:α}(hk:l[k]? =some a):∃c:Ce,ldN z (elA z v k) H=some c.toV/\c.l=f a:=by
 obtain ⟨c,h1,h2⟩:=SlZ.rdN h (qq.1 hk).1;exact ⟨c,h1,by rw [h2,zpf hf hk]⟩
end
def z32:List AV:=List.replicate 32 (.int .u8 0)
def rcL (p:AV×Rc):List AV:= [.int .i64 p.2.id,.str p.2.nm,.int .i64 p.2.kd,.int .i64 p.2.sz,p.1,.int .i64 0,.int .i64 0] ++ (z32 ++ [.int .i64 p.2.md,.int .i64 p.2.ow,.int .i64 p.2.og,.int .i64 p.2.qu,.int .i64 p.2.rs])
theorem zqa (p:AV×Rc):(rcL p).length=44:=rfl
theorem zbc (p:AV×Rc) (h:p.1.oneCell=true):(rcL p).all AV.oneCell=true:=by
 show (true && (true && (true && (true && (p.1.oneCell && _)))))=true
 rw [h];rfl
def roL (a:AV):List AV:= [a,.int .i64 0,.int .i64 0] ++ z32
theorem zqz (a:AV):(roL a).length=35:=rfl
theorem len_c {a:AV}{l:List AV}:(a::l).length=l.length+1:=rfl
theorem len_n:([]:List AV).length=0:=rfl
theorem zpi1:z32.length=32:=rfl
abbrev lens:=qa @zqa (qa @zqz (qa zpi1 (qa @len_c @len_n)))
structure SlRc (H:AH) (v:AV) (l:List (AV×Rc)):Prop where
 sl:SlE rcL 44 H v l
 hole:∀p,p∈l->IsSl H p.1 0
 cap:∀i o n c op,v= .sl i o n c op->n<=c
theorem SlRc.hx {H H':AH}{v:AV}{l:List (AV×Rc)}(h:SlRc H v l) (hx:HX H H'):SlRc H' v l:=⟨h.sl.hx hx,fun p hp=>(h.hole p hp).hx hx,h.cap⟩
theorem SlRc.nil (H:AH):SlRc H .nilSl []:=⟨⟨by simp [encC],.inl ⟨rfl,rfl⟩⟩,fun p hp=>(by cases hp),fun _ _ _ _ _ h=>(by cases h)⟩
theorem SlRc.holeAt {H:AH}{v:AV}{l:List (AV×Rc)}(h:SlRc H v l){k:Nat}{p:AV×Rc}(hk:l[k]? =some p):IsSl H p.1 0:=h.hole p (qz.2 ⟨k,hk⟩)
theorem SlRc.pre {L:Lk}{t e:Nat}(ht:L.under t=some (.slice e)) (hz:L.size e=some 44){H:AH}{v:AV}{l:List (AV×Rc)}(h:SlRc H v l){k:Nat}(hk:k<l.length):∃v',zxa L t false true false [v,.int .i64 (k:Int)]=some v'/\SlRc H v' (l.take k):=by
 rcases h.sl.hv with ⟨rfl,h0⟩|⟨i,o,c,op,ro,op',e2,z',row,rfl,hi,hr,hl,hc⟩
 ·omega
 ·have hcap:=h.cap _ _ _ _ _ rfl
  refine ⟨.sl i o k c op,?_,⟨⟨?_,.inr ⟨i,o,c,op,ro,op',e2,z',row,?_,hi,hr,?_,?_⟩⟩,fun p hp=>h.hole p (qd5 hp),?_⟩⟩
  ·show zfb L t (.sl i o l.length c op) none (some (.int .i64 (k:Int))) none=_
   unfold zfb;simp only [maxOk,bndOf,ht,hz,natOf];rw [show Nat.ble 0 k=true from qh (qh2 _),show Nat.ble k c=true from qh oM]
   cases op with
   |false =>
    show some (AV.sl i (offOf c 0 o 44) (k - 0) (c - 0) false)=_
    have:offOf c 0 o 44=o:=by unfold offOf;split<;>omega
    rw [this];rfl
   |true =>
    show (match Nat.beq c 0 with|true=>_|false=>some (AV.sl i (o+0*44) (k - 0) (c - 0) true))=_
    rw [show Nat.beq c 0=false from by cases c with|zero=>omega|succ c=>rfl]
    show some (AV.sl i (o+0*44) (k - 0) (c - 0) true)=_
    rw [ql4];rfl
  ·rw [znc zqa]
  ·rw [qd1,qs3 oM]
  ·rw [qd1,qs3 oM]
   have:k*44<=l.length*44:=qd2 44 oM
   omega
  ·rw [qd1,qs3 oM,← zqe zqa,← hc,qj5,qs3 (qd2 44 oM)]
  ·intro i2 o2 n2 c2 op2 he
   cases he;omega
theorem SlRc.is {H:AH}{v:AV}{l:List (AV×Rc)}(h:SlRc H v l):IsSl H v l.length:=h.sl.is
theorem SlRc.agg {H:AH}{v:AV}{l:List (AV×Rc)}(h:SlRc H v l){k:Nat}{p:AV×Rc}(hk:l[k]? =some p):ldN 44 (elA 44 v k) H=some (.agg (rcL p)):=by
 obtain ⟨c,h1,h2⟩:=SlE.rdN zqa h.sl hk;rw [h1,zot (x:=.int .i64 p.2.id) (l:=(rcL p).tail) (by rw [h2];rfl) (fun n hn=>by cases hn)]
 rfl
theorem SlRc.fld {H:AH}{v:AV}{l:List (AV×Rc)}(h:SlRc H v l){k j:Nat}{p:AV×Rc}{x:AV}(hk:l[k]? =some p) (hx:(rcL p)[j]? =some x):ld1 (elB 44 v k j) H=some x :=
 SlE.rd zqa h.sl hk (by have:=(qq.1 hx).1;rwa [zqa] at this) hx
abbrev Es:=List (AV×AV×Nat)
def IsM (es:Es) (kv:List (Int×AV)):Prop:=es.map (fun e=>(e.1,e.2.1))=kv.map fun p=>(AV.int .i64 p.1,p.2)
def idxK (k:Int):List (Int×AV)->Option Nat
 | []=>none
 |p::l=>if p.1=k then some 0 else (idxK k l).map (·+ 1)
def lkK (k:Int):List (Int×AV)->Option AV
 | []=>none
 |p::l=>if p.1=k then some p.2 else lkK k l
def upK (k:Int) (x:AV):List (Int×AV)->List (Int×AV)
 | []=> [(k,x)]
 |p::l=>if p.1=k then (k,x)::l else p::upK k x l
def delK (k:Int):List (Int×AV)->List (Int×AV)
 | []=> []
 |p::l=>if p.1=k then l else p::delK k l
theorem lkK_up (k:Int) (x:AV):∀(l:List (Int×AV)) (j:Int),lkK j (upK k x l)=if j=k then some x else lkK j l
 | [],j=>by
  show (if k=j then some x else none)=_
  by_cases h:j=k
  ·rw [qj h.symm,qj h]
  ·rw [qg fun e=>h e.symm,qg h];rfl
 |p::l,j=>by
  unfold upK;by_cases hp:p.1=k
  ·rw [qj hp]
   show (if k=j then some x else lkK j l)=if j=k then some x else if p.1=j then some p.2 else lkK j l
   by_cases h:j=k
   ·rw [qj h.symm,qj h]
   ·rw [qg fun e=>h e.symm,qg h,hp,qg fun e=>h e.symm]
  ·rw [qg hp]
   show (if p.1=j then some p.2 else lkK j (upK k x l))=if j=k then some x else if p.1=j then some p.2 else lkK j l
   rw [lkK_up k x l j];by_cases h:p.1=j
   ·rw [qj h,qj h,qg (by rw [← h];exact hp)]
   ·rw [qg h,qg h]
theorem mem_up {k:Int}{x:AV}{j:Int}:∀{l:List (Int×AV)},j∈(upK k x l).map (·.1)->j=k\/j∈l.map (·.1)
 | [],h=>by simpa [upK] using h
 |p::l,h=>by
  unfold upK at h;split at h
  ·next hp=>simp only [qp1,qe1] at h ⊢;rcases h with h|h<;>simp [h]
  ·simp only [qp1,qe1] at h ⊢
   rcases h with h|h
   ·exact .inr (.inl h)
   ·rcases mem_up h with h|h
    ·exact .inl h
    ·exact .inr (.inr h)
def NdK (l:List (Int×AV)):Prop:=(l.map (·.1)).Nodup
theorem NdK.up {k:Int}{x:AV}:∀{l:List (Int×AV)},NdK l->NdK (upK k x l)
 | [],_=>by simp [NdK,upK]
 |p::l,h=>by
  unfold NdK at h ⊢
  simp only [qp1,qe4] at h;unfold upK;split
  ·next hp=>simp only [qp1,qe4];rw [← hp];exact h
  ·next hp =>
   simp only [qp1,qe4];refine ⟨fun hm=> ?_,NdK.up h.2⟩
   rcases mem_up hm with h1|h1
   ·exact hp h1
   ·exact h.1 h1
theorem zrz {j:Int}:∀{l:List (Int×AV)},j ∉ l.map (·.1)->lkK j l=none
 | [],_=>rfl
 |p::l,h=>by
  simp only [qp1,qe1,not_or] at h;unfold lkK;rw [qg fun e=>h.1 e.symm,zrz h.2]
theorem zqi1 (k:Int):∀(l:List (Int×AV)),NdK l-> ∀j:Int,lkK j (delK k l)=if j=k then none else lkK j l
 | [],_,j=>by unfold delK lkK;split<;>rfl
 |p::l,h,j=>by
  unfold NdK at h;simp only [qp1,qe4] at h;unfold delK;by_cases hp:p.1=k
  ·rw [qj hp]
   show _=if j=k then none else if p.1=j then some p.2 else lkK j l
   by_cases hj:j=k
   ·rw [qj hj,hj,← hp,zrz h.1]
   ·rw [qg hj,hp,qg fun e=>hj e.symm]
  ·rw [qg hp]
   show (if p.1=j then some p.2 else lkK j (delK k l))=if j=k then none else if p.1=j then some p.2 else lkK j l
   rw [zqi1 k l h.2 j];by_cases hj:p.1=j
   ·rw [qj hj,qj hj,qg (by rw [← hj];exact hp)]
   ·rw [qg hj,qg hj]
theorem zri1 {k j:Int}:∀{l:List (Int×AV)},j∈(delK k l).map (·.1)->j∈l.map (·.1)
 | [],h=>h
 |p::l,h=>by
  unfold delK at h;split at h
  ·exact qh1 _ h
  ·simp only [qp1,qe1] at h ⊢
   rcases h with h|h
   ·exact .inl h
   ·exact .inr (zri1 h)
theorem NdK.del {k:Int}:∀{l:List (Int×AV)},NdK l->NdK (delK k l)
 | [],h=>h
 |p::l,h=>by
  unfold NdK at h ⊢
  simp only [qp1,qe4] at h;unfold delK;split
  ·exact h.2
  ·simp only [qp1,qe4]
   exact ⟨fun hm=>h.1 (zri1 hm),NdK.del h.2⟩
theorem zut (k:Int):∀{es:Es}{kv:List (Int×AV)}(h:IsM es kv) (i:Nat),findKey (.int .i64) (.int .i64 k) es i=some ((idxK k kv).map fun j=>(i+j,(lkK k kv).getD .undef))
 | [], [],_,_=>rfl
 | [],p::kv,h,_=>by cases h
 |e::es, [],h,_=>by cases h
 |e::es,p::kv,h,i=>by
  have h0:(e.1,e.2.1)=(AV.int .i64 p.1,p.2)/\IsM es kv:=by
   unfold IsM at h;rw [qp1,qp1] at h
   injection h with h1 h2
   exact ⟨h1,h2⟩
  obtain ⟨h1,h2⟩:=h0
  injection h1 with h1 h3
  have ih:=zut k h2 (i+1);unfold findKey at ih ⊢
  rw [zta,h1];have hs:zqf (.int .i64) (.int .i64 k) (.int .i64 p.1)=some (k == p.1):=rfl;rw [hs];unfold idxK lkK;by_cases hp:p.1=k
  ·rw [qj hp,qj hp,hp,show (k == k)=true from beq_self_eq_true k,h3]
   rfl
  ·rw [qg hp,qg hp,show (k == p.1)=false from by simpa using fun e=>hp e.symm]
   show _=_
   refine ih.trans ?_;cases idxK k kv with
   |none=>rfl
   |some j=>show some (some (i+1+j,_))=some (some (i+(j+1),_));rw [show i+1+j=i+(j+1) from oM]
theorem zue1 {L:Lk}{t:TypeId}(ht:L.under t=some (.int .i64)) (k:Int){es:Es}{kv:List (Int×AV)}(h:IsM es kv) :
  zrf L t (.int .i64 k) es=some ((idxK k kv).map fun j=>(j,(lkK k kv).getD .undef)):=by
 unfold zrf;rw [ht];show (match zqf (.int .i64) (.int .i64 k) (.int .i64 k) with|some _=>findKey (.int .i64) (.int .i64 k) es 0|none=>none)=_
 rw [show zqf (.int .i64) (.int .i64 k) (.int .i64 k)=some (k == k) from rfl]
 show findKey _ _ _ _=_
 rw [zut k h 0];congr 1;cases idxK k kv<;>simp
theorem idx_lk {k:Int}{kv:List (Int×AV)}:(idxK k kv=none↔lkK k kv=none):=by
 induction kv with
 |nil=>exact ⟨fun _=>rfl,fun _=>rfl⟩
 |cons p l ih =>
  unfold idxK lkK;by_cases hp:p.1=k
  ·rw [qj hp,qj hp];exact ⟨fun h=>(by cases h),fun h=>(by cases h)⟩
  ·rw [qg hp,qg hp,qk7];exact ih
theorem zjm1 {L:Lk}{t kt et:TypeId}{z:AV}{i c:Nat}{H:AH}(ht:L.under t=some (.map kt et)) (hk:L.under kt=some (.int .i64)) (hz:L.zero et=some z) (k:Int){es:Es}{kv:List (Int×AV)}(hg:H.get i=some (.map es c)) (h:IsM es kv) :
  zjb L t (.map i) (.int .i64 k) false H=some ((lkK k kv).getD z):=by
 unfold zjb;simp only [ht,hz,hg];rw [zue1 hk k h];cases hi:idxK k kv with
 |none=>rw [idx_lk.1 hi];rfl
 |some j =>
  cases hl:lkK k kv with
  |none=>rw [idx_lk.2 hl] at hi;cases hi
  |some v=>rfl
def brn (es:Es) (j:Nat):Nat:=match es[j]? with|some e=>e.2.2|none=>0
theorem IsM.up {es:Es}{kv:List (Int×AV)}(h:IsM es kv) (k:Int) (x:AV) (c:Nat):IsM (match idxK k kv with|some j=>es.set j (.int .i64 k,x,brn es j)|none=>es ++ [(.int .i64 k,x,c)]) (upK k x kv):=by
 unfold IsM at *
 induction kv generalizing es with
 |nil =>
  cases es with
  |nil=>rfl
  |cons e es=>cases h
 |cons p l ih =>
  cases es with
  |nil=>cases h
  |cons e es =>
   rw [qp1,qp1] at h
   injection h with h1 h2
   unfold idxK upK;by_cases hp:p.1=k
   ·rw [qj hp,qj hp]
    show _::_=_::_
    rw [h2]
   ·rw [qg hp,qg hp]
    have:=ih h2;cases hi:idxK k l with
    |none =>
     rw [hi] at this;show (e.1,e.2.1)::(es ++ [_]).map _=_::_
     rw [h1];exact qj4 _ this
    |some j =>
     rw [hi] at this;show (e.1,e.2.1)::(es.set j _).map _=_::_
     rw [h1];exact qj4 _ this
theorem IsM.del {es:Es}{kv:List (Int×AV)}(h:IsM es kv) (k:Int):IsM (match idxK k kv with|some j=>es.eraseIdx j|none=>es) (delK k kv):=by
 unfold IsM at *
 induction kv generalizing es with
 |nil=>exact h
 |cons p l ih =>
  cases es with
  |nil=>cases h
  |cons e es =>
   rw [qp1,qp1] at h
   injection h with h1 h2
   unfold idxK delK;by_cases hp:p.1=k
   ·rw [qj hp,qj hp];exact h2
   ·rw [qg hp,qg hp]
    have:=ih h2;cases hi:idxK k l with
    |none =>
     rw [hi] at this;show (e.1,e.2.1)::es.map _=_::_
     rw [h1];exact qj4 _ this
    |some j =>
     rw [hi] at this;show (e.1,e.2.1)::(es.eraseIdx j).map _=_::_
     rw [h1];exact qj4 _ this
theorem IsM.len {es:Es}{kv:List (Int×AV)}(h:IsM es kv):es.length=kv.length:=by
 have:=qj4 List.length h
 simpa using this
theorem idx_lt {k:Int}:∀{kv:List (Int×AV)}{j:Nat},idxK k kv=some j->j<kv.length
 | [],j,h=>by cases h
 |p::l,j,h=>by
  unfold idxK at h;split at h
  ·cases h;exact qm7 _
  ·cases hi:idxK k l with
   |none=>rw [hi] at h;cases h
   |some q=>rw [hi] at h;cases h;exact Nat.succ_lt_succ (idx_lt hi)
theorem zlw {L:Lk}{t kt et:TypeId}{i c:Nat}{H:AH}(ht:L.under t=some (.map kt et)) (hk:L.under kt=some (.int .i64)) (k:Int) (x:AV){es:Es}{kv:List (Int×AV)}(hg:H.get i=some (.map es c)) (hlo:H.lo<=i) (h:IsM es kv) :
  ∃es' c',zoa L t (.map i) (.int .i64 k) x H=some (H.put i (.map es' c'))/\IsM es' (upK k x kv):=by
 unfold zoa;rw [ht];simp only;rw [show Nat.ble H.lo i=true from qh hlo,hg]
 simp only;rw [zue1 hk k h];have hup:=h.up k x c;cases hi:idxK k kv with
 |none=>rw [hi] at hup;exact ⟨_,_,rfl,hup⟩
 |some j =>
  rw [hi] at hup;have hj:j<es.length:=by rw [h.len];exact idx_lt hi
  have hn:nth es j=some es[j]:=by rw [zcg,qr hj]
  have ho:zgd [((AV.int .i64 k,x,es[j].2.2):AV×AV×Nat)] es j=some (es.set j (.int .i64 k,x,es[j].2.2)):=by
   refine (zyb _ _ _ _).2 ⟨by show j+1<=es.length;omega,?_⟩
   rw [qq4,qj hj];simp
  show ∃es' c',(match nth es j with|some e=>(match zgd [((AV.int .i64 k,x,e.2.2):AV×AV×Nat)] es j with|some es'=>some (H.put i (.map es' c))|none=>none)|none=>none)=some (H.put i (.map es' c'))/\_
  rw [hn];simp only;rw [ho];refine ⟨_,_,rfl,?_⟩;have:brn es j=es[j].2.2:=by unfold brn;rw [qr hj]
  replace hup:IsM (es.set j (.int .i64 k,x,brn es j)) (upK k x kv):=hup
  rw [this] at hup;exact hup
open Go.RowKit
def zuj:XFn:=fun args H=>match args with
 | [.ifc t (.map i)]=>(match H.get i with|some (.map es clock)=>some (.ifc t (.map H.next),H.new (.map es clock))|_=>none)
 |_=>none
theorem zir {P:Program}{B:Nat}{f:FuncId}(hf:Bare P f Extern.MapsClone.clone):XOk P B f zuj:=by
 intro args H p hp E w us hw hS hus;unfold zuj at hp;split at hp
 ·next t i =>
  split at hp
  ·next es clock hg =>
   cases hp
   have hu:=hus E (Agree.refl _ _);subst hu;have hm:=hS.self.map hg;obtain ⟨h1,h2,h3⟩:=zav hw hS (.map es clock) (.map (es.map (entryOf E)).toArray clock) 0 (fun E' hE he=>by
    show (wNew w _).heap[(E' H.next).blk]? =some (.map (es.map (entryOf E')).toArray clock)
    rw [he,map_E hw hS hg hE];exact zog)
   have hc:(callFunc f (concL E [.ifc t (.map i)]).toArray).run P w= .ok (.value (.iface t (.map (some w.heap.size)))) (wNew w (.map (es.map (entryOf E)).toArray clock)):=by
    refine hf.run ?_;show (Extern.MapsClone.clone #[.iface t (.map (some (E i).blk))]).run P w=_
    have hi:Extern.MapsClone.clone #[Value.iface t (.map (some (E i).blk))]=(do
      let .map entries clock ← getObj (E i).blk | stuck "maps.clone: a map expected"
      pure (.iface t (.map (some (← newObj (.map entries clock)))))):=rfl
    rw [hi];simp only [qk];rw [zqc hm (fun _ _ _=>by simp)]
    rfl
   unfold CallOk;rw [hc];refine ⟨_,fun E' hE=> ?_,h1,h2,h3⟩
   have:E' H.next=⟨w.heap.size,0,0⟩:=(hE H.next (qc1 _)).trans (Env.add_self _ _ _);show _=Value.iface t (.map (some (E' H.next).blk))
   rw [this]
  ·cases hp
 ·cases hp
def CallN (P:Program) (B:Nat) (E:Env) (H:AH) (w:World) (f:FuncId) (us:List Value) (R:AV->AH->Prop):Prop :=
 match (callFunc f us.toArray).run P w with
 | .ok (.value u) w1=> ∃v H1,R v H1/\Done B E H w v H1 u w1
 | .ok (.enter g vs) w'=>CallsIn Fence.wide 0 P g vs w' fun e w1=> ∃u v H1,e= .returned u/\R v H1/\Done B E H w v H1 u w1
 |_=>False
def FnN (P:Program) (B:Nat) (f:FuncId) (args:List AV) (H:AH) (R:AV->AH->Prop):Prop :=
 ∀E w us,H.Wf->St B E H w->StL E H.next args us->CallN P B E H w f us R
section
variable {L:Lk}{P:Program}{B:Nat}{rec:Rec}{F:Fence}{H:AH}{T:Tr AV}
theorem CallN.mono {E:Env}{w:World}{f:FuncId}{us:List Value}{R R':AV->AH->Prop}(h:CallN P B E H w f us R) (hR:∀v H',R v H'->R' v H'):CallN P B E H w f us R':=by
 unfold CallN at h ⊢
 revert h
 cases (callFunc f us.toArray).run P w with
 |ok nx w1 =>
  cases nx with
  |value u=>exact fun ⟨v,H1,h1,h2⟩=>⟨v,H1,hR _ _ h1,h2⟩
  |enter g vs=>exact fun hc=>CallsIn.mono hc fun e w1 ⟨u,v,H1,he,h1,h2⟩=>⟨u,v,H1,he,hR _ _ h1,h2⟩
  |_=>exact fun hc=>hc
 |_=>exact fun hc=>hc
theorem CallOk.n {E:Env}{w:World}{f:FuncId}{us:List Value}{R:AV->AH->Prop}{v:AV}{H1:AH}(h:CallOk P B E H w f us v H1) (hR:R v H1):CallN P B E H w f us R:=by
 unfold CallOk at h;unfold CallN
 revert h
 cases (callFunc f us.toArray).run P w with
 |ok nx w1 =>
  cases nx with
  |value u=>exact fun h=>⟨v,H1,hR,h⟩
  |enter g vs=>exact fun hc=>CallsIn.mono hc fun e w1 ⟨u,he,h2⟩=>⟨u,v,H1,he,hR,h2⟩
  |_=>exact fun hc=>hc
 |_=>exact fun hc=>hc
theorem CallN.ok {E E0:Env}{H0:AH}{w:World}{f:FuncId}{us:List Value}{R:AV->AH->Prop}{v:AV}{H1:AH}(h:CallN P B E0 H0 w f us R)
  (hD:∀v' H' u w1,R v' H'->Done B E0 H0 w v' H' u w1->Done B E H w v H1 u w1):CallOk P B E H w f us v H1:=by
 unfold CallN at h;unfold CallOk
 revert h
 cases (callFunc f us.toArray).run P w with
 |ok nx w1 =>
  cases nx with
  |value u=>exact fun ⟨v',H',h1,h2⟩=>hD _ _ _ _ h1 h2
  |enter g vs=>exact fun hc=>CallsIn.mono hc fun e w1 ⟨u,v',H',he,h1,h2⟩=>⟨u,he,hD _ _ _ _ h1 h2⟩
  |_=>exact fun hc=>hc
 |_=>exact fun hc=>hc
theorem fnN_of (hL:LOk L P) (hX:ExtOk L P B){f:FuncId}{args:List AV}{R:AV->AH->Prop}(h:FnE L f args H R):FnN P B f args H R:=by
 intro E w us hw hS hus;obtain ⟨v,H',hR,n,hn⟩:=h.h;have ho:=hn n (qn _);rw [zul1] at ho;exact ((zzq hL hX n).call f args H _ ho E w us hw hS hus).n hR
end
end Go.Ev
open Go Go.Ev Go.Proofs Go.RowKit
namespace HS
set_option maxRecDepth 100000
def look:Lk:=lkZ Tryz.prog (Tr.ofList Tryz.prog.funcs.toList) (Tr.ofList Tryz.prog.types.toList) [] [(79,32)]
end HS
namespace Go.Ev
open Go.RowKit
section
variable {P:Program}{B:Nat}{E E1:Env}{H H':AH}{w w1:World}
theorem BRel.carry {E0 E2:Env}{i:Nat}{b:ABlk}(h0:BRel E0 i b w) (h2:BRel E2 i b w) (he:E0 i=E2 i) (h:BRel E0 i b w1):BRel E2 i b w1:=by
 cases b with
 |cells vs e z op ro =>
  obtain ⟨cs,e1,fz1,a1,a2,a3⟩:=h0;obtain ⟨cs',e2,fz2,b1,b2,b3⟩:=h2;rw [he,b1] at a1;cases a1;obtain ⟨ds,e3,fz3,c1,c2,c3⟩:=h;refine ⟨ds,e3,fz3,by rw [← he];exact c1,fun j v hv=> ?_,fun hr=>by rw [← he];exact c3 hr⟩
  have h1:=a2 j v hv;have h2:=b2 j v hv;rw [he,h2] at h1;rw [← he,c2 j v hv,qr3 h1]
 |map es k =>
  have h0:w.heap[(E0 i).blk]? =_:=h0;have h2:w.heap[(E2 i).blk]? =_:=h2;rw [he,h2] at h0;have hq:es.map (entryOf E2)=es.map (entryOf E0):=by simpa using h0
  show w1.heap[(E2 i).blk]? =_
  rw [← he,hq];exact h
 |loop st p T n ps a bd =>
  obtain ⟨r,a1,a2,a3,a4,a5⟩:=h0;obtain ⟨r',b1,b2,b3,b4,b5⟩:=h2;rw [he,b1] at a1;cases a1;obtain ⟨q,c1,c2,c3,c4,c5⟩:=h;refine ⟨q,by rw [← he];exact c1,c2,c3,fun t=> ?_,c5⟩
  rw [c4 t,← a4 t,b4 t]
 |miter m s n l =>
  obtain ⟨a1,a2⟩:=h0;obtain ⟨b1,b2⟩:=h2;obtain ⟨c1,c2⟩:=h;rw [he,b2] at a2;have hm:(E2 m).blk=(E0 m).blk:=by simpa using a2
  exact ⟨b1,by rw [← he,hm];exact c2⟩
 |chan c buf =>
  obtain ⟨s,r,a1⟩:=h0;obtain ⟨s',r',b1⟩:=h2;rw [he,b1] at a1;have hb:concL E2 buf=concL E0 buf:=by
   have:=a1;simp only [qz1,Obj.chan.injEq,Array.mk.injEq] at this
   simpa using this.2.1
  obtain ⟨s2,r2,c1⟩:=h;exact ⟨s2,r2,by rw [← he,hb];exact c1⟩
 |glob g v =>
  obtain ⟨_,cs,e,fz,a1,a2⟩:=h0;obtain ⟨b0,ds,e',fz',b1,b2⟩:=h2;rw [he,b1] at a1;cases a1;obtain ⟨_,q,e2,fz2,c1,c2⟩:=h;exact ⟨b0,q,e2,fz2,by rw [← he];exact c1,by rw [c2,← a2,b2]⟩
 |defd=>trivial
structure HW (H H':AH):Prop where
 next:H.next<=H'.next
 lo:H'.lo=H.lo
 hide:H'.hide=H.hide
 old:∀i,i<H.next->H'.tree.get i=H.tree.get i
theorem HX.hw (h:HX H H'):HW H H':=⟨h.next,h.lo,h.hide,h.old⟩
theorem HW.mz (h:HW H H') (z:Bool):HW H {H' with fz:=z}:=⟨h.next,h.lo,h.hide,h.old⟩
theorem HW.get (h:HW H H'){i:Nat}(hi:i<H.next):H'.get i=H.get i:=by
 unfold AH.get;rw [h.old i hi];unfold AH.vis;rw [h.hide]
theorem old_blk (hw:H.Wf) (hS:St B E H w) (hS1:St B E1 H' w1) (hP:Post E H w E1 H' w1) (hh:HW H H'){E':Env}(hE:Agree H.next E E'){i:Nat}{b:ABlk}(hg:H.get i=some b):BRel E' i b w1:=by
 have hi:=hw.get_lt hg;have hA1:Agree H.next E E1:=hP.ext;have h0:=(hS E1 hA1).blk i b hg;have h2:=(hS E' hE).blk i b hg;have h1:=hS1.self.blk i b (by rw [hh.get hi];exact hg)
 exact h0.carry h2 ((hA1 i hi).trans (hE i hi).symm) h1
theorem drop_st (hw:H.Wf) (hS:St B E H w) (hS1:St B E1 H' w1) (hP:Post E H w E1 H' w1) (hh:HW H H') (z:Bool):St B E {H with fz:=z} w1:=fun E' hE=>by
 have hE:Agree H.next E E':=hE;have hb:∀i,i<H.next->E' i=E1 i:=fun i hi=>(hE i hi).trans (hP.ext i hi).symm
 have r:=hS1.self;refine ⟨fun i b hg=>old_blk hw hS hS1 hP hh hE hg,fun i j b c hi hj hne ho hl=> ?_,fun i b hg ho=> ?_,r.size⟩
 ·replace hi:H.get i=some b:=hi
  replace hj:H.get j=some c:=hj
  rw [hb i (hw.get_lt hi),hb j (hw.get_lt hj)];exact r.inj i j b c (by rw [hh.get (hw.get_lt hi)];exact hi) (by rw [hh.get (hw.get_lt hj)];exact hj) hne ho hl
 ·replace hg:H.get i=some b:=hg
  rw [hb i (hw.get_lt hg)];exact r.base i b (by rw [hh.get (hw.get_lt hg)];exact hg) ho
theorem zve1 (hw:H.Wf) (hP:Post E H w E1 H' w1){z:Bool}(hz:z=false->H'.fz=false/\H.fz=false):Post E H w E {H with fz:=z} w1 :=
 ⟨Agree.refl _ _,qn _,rfl,rfl,hP.tape,hP.os,hP.output,hP.size,hP.frame,fun c h=>.inl h,fun _ _=>rfl,hP.loops,fun h=>⟨(hz h).2,(hP.froz (hz h).1).2⟩,fun c h=>.inl h,hP.dr⟩
theorem Done.drop {v:AV}{u:Value}(hw:H.Wf) (hS:St B E H w) (h:Done B E H w v H' u w1) (hh:HW H H') (hv:∀E E':Env,conc E v=conc E' v){z:Bool}(hz:z=false->H'.fz=false/\H.fz=false):Done B E H w v {H with fz:=z} u w1:=by
 obtain ⟨E1,h1,h2,h3,h4⟩:=h;exact ⟨E,fun E' _=>by rw [h1.self];exact hv _ _,drop_st hw hS h2 h3 hh z,zve1 hw h3 hz,hw.tree,hw.lo,hw.hide⟩
end
section
variable {P:Program}{B:Nat}{E E1:Env}{H H':AH}{w w1:World}
theorem zug {b:Nat}{o:Obj}(h:w.heap[b]? =some o):zvc w b o=w:=by
 unfold zvc;have:w.heap.setIfInBounds b o=w.heap:=by
  refine qw6 fun j=> ?_
  rw [qa3];split
  ·next hj =>
   subst hj;split
   ·exact h.symm
   ·next hb=>exact absurd (qn2.1 h).1 hb
  ·rfl
 rw [this]
theorem zsz (hw:H.Wf) (hS:St B E H w){i:Nat}{b0:ABlk}(hg0:H.get i=some b0) (hown:b0.own=true) (hlo:H.lo<=i) (b:ABlk)
  (hb:∀E',Agree H.next E E'->BRel E' i b w):St B E (H.put i b) w/\Post E H w E (H.put i b) w/\(H.put i b).Wf:=by
 have hl:b0.live=true:=by cases b0<;>first|rfl|(simp [ABlk.own] at hown)
 have hlt:=(hS.self.blk i b0 hg0).obj hl;have ho:w.heap[(E i).blk]? =some w.heap[(E i).blk]:=qs1 hlt;have key:=zsm hw hS hg0 hown hlo b w.heap[(E i).blk] (fun r hr=>⟨r,by rw [ho] at hr;exact qr3 hr⟩) (fun x off hx=>by rw [ho] at hx;cases hx;rfl) (by rw [zug ho];exact hb)
 rw [zug ho] at key;exact key
theorem zwe1 (hw:H.Wf) (hS:St B E H w){i:Nat}{c:Ce}{e z:Nat}(hg:H.get i=some (.cells c e z true false)) (hlo:H.lo<=i) :
  ∃rs:List AV,rs.length=(E i).extra*z/\(∀E',concL E' rs=concL E rs) /\
   St B E (H.put i (.cells (.lst (c.l ++ rs)) e z false false)) w/\Post E H w E (H.put i (.cells (.lst (c.l ++ rs)) e z false false)) w/\(H.put i (.cells (.lst (c.l ++ rs)) e z false false)).Wf:=by
 have hi:=hw.get_lt hg;obtain ⟨cs,e',fz,h1,h2,h3⟩:=hS.self.blk i _ hg;obtain ⟨hf,hsz,hfl,hmk⟩:=h3 rfl;simp only [qc5] at hsz;have hx:∀k,k<(E i).extra*z-> ∃v:AV,∀E',cs[(E i).off+c.l.length+k]? =some (conc E' v):=fun k hk=>by
  have hlt:(E i).off+c.l.length+k<cs.size:=by rw [hsz];omega
  obtain ⟨v,hv⟩:=hfl rfl _ _ oM (qs1 hlt)
  exact ⟨v,fun E'=>by rw [hv E'];exact qs1 hlt⟩
 obtain ⟨g,hgk⟩:∃g:Nat->AV,∀k,k<(E i).extra*z-> ∀E',cs[(E i).off+c.l.length+k]? =some (conc E' (g k)) :=
  ⟨fun k=>if h:k<(E i).extra*z then (hx k h).choose else .undef,fun k hk=>by
   simp only [dif_pos hk];exact (hx k hk).choose_spec⟩
 have hrl:((List.range ((E i).extra*z)).map g).length=(E i).extra*z:=by simp
 have hrg:∀j v,((List.range ((E i).extra*z)).map g)[j]? =some v->j<(E i).extra*z/\v=g j:=fun j v hv=>by
  have hj:j<(E i).extra*z:=by
   have:=(qq.1 hv).1
   rwa [hrl] at this
  rw [qi1,qz4 hj] at hv;exact ⟨hj,(qr3 hv).symm⟩
 refine ⟨(List.range ((E i).extra*z)).map g,hrl,fun E'=> ?_,zsz hw hS hg rfl hlo _ fun E' hE=> ?_⟩
 ·refine qm3 fun j=> ?_
  rw [zma?,zma?];cases hv:((List.range ((E i).extra*z)).map g)[j]? with
  |none=>rfl
  |some v =>
   obtain ⟨hj,rfl⟩:=hrg j v hv;have:=(hgk j hj E').symm.trans (hgk j hj E);exact this
 ·have hei:E' i=E i:=hE i hi
  obtain ⟨cs2,e2,fz2,k1,k2,k3⟩:=(hS E' hE).blk i _ hg;rw [hei,h1] at k1;cases k1;refine ⟨cs,e',fz,by rw [hei];exact h1,fun j v hv=> ?_,fun _=>⟨hf,?_,(fun h=>by cases h),hmk⟩⟩
  ·have hv:(c.l ++ (List.range ((E i).extra*z)).map g)[j]? =some v:=hv
   by_cases hj:j<c.l.length
   ·rw [qr1 hj] at hv
    exact k2 j v hv
   ·rw [qw1 oM] at hv
    obtain ⟨hj2,rfl⟩:=hrg _ _ hv;have:=hgk _ hj2 E';rw [hei];rw [show (E i).off+j=(E i).off+c.l.length+(j - c.l.length) from oM]
    exact this
  ·rw [hsz,hei]
   show _=(E i).off+(c.l ++ (List.range ((E i).extra*z)).map g).length+0
   rw [qy,hrl];omega
theorem St.ext (hn:H'.next=H.next) (hg:∀i,H'.get i=H.get i) (h:St B E H w):St B E H' w:=fun E' hE=>by
 have r:=h E' (by rw [← hn];exact hE)
 exact ⟨fun i b hi=>r.blk i b (by rw [← hg];exact hi),fun i j b c hi hj=>r.inj i j b c (by rw [← hg];exact hi) (by rw [← hg];exact hj),fun i b hi=>r.base i b (by rw [← hg];exact hi),r.size⟩
theorem Post.ext2 {E0:Env}{H0:AH}{w0:World}(hn:H'.next=H.next) (hl:H'.lo=H.lo) (hh:H'.hide=H.hide) (hz:H'.fz=H.fz) (ht:∀i,H'.tree.get i=H.tree.get i) (h:Post E0 H0 w0 E H w):Post E0 H0 w0 E H' w:=by
 have hg:∀i,H'.get i=H.get i:=fun i=>by unfold AH.get AH.vis;rw [hh,ht]
 refine ⟨h.ext,by rw [hn];exact h.next,hl.trans h.lo,hh.trans h.hide,h.tape,h.os,h.output,h.size,h.frame,fun c hc=>h.own c ?_,fun i hi=>(ht i).trans (h.keep i hi),h.loops,fun hf=>h.froz (by rw [← hz];exact hf),fun c hc=>h.lives c ?_,h.dr⟩
 ·obtain ⟨x,b,h1,h2,h3,h4⟩:=hc
  exact ⟨x,b,by rw [← hg];exact h1,h2,by rw [← hl];exact h3,h4⟩
 ·obtain ⟨x,b,h1,h2,h3⟩:=hc
  exact ⟨x,b,by rw [← hg];exact h1,h2,h3⟩
end
def xOver:XFn:=fun args H=>match args with
 | [.sl i o _ _ _,.sl j _ _ _ _]=>(match Nat.beq i j,H.get i,H.get j with
  |false,some (.cells ci _ zi _ false),some (.cells cj _ _ _ false)=>(match Nat.beq zi 1,Nat.blt o ci.len,Nat.blt 0 cj.len with
   |false,true,true=>some (.bool false,H)
   |_,_,_=>none)
  |_,_,_=>none)
 |_=>none
theorem zkm1 {P:Program}{B:Nat}{f tS tR e size:Nat}(hf:Bare P f (Extern.SlicesOverlaps.overlaps #[tS,tS] #[tR])) (ht:P.underlying tS=some (.slice e)) (hz:∀w,(Go.sizeOf e).run P w= .ok size w):XOk P B f xOver:=by
 intro args H p hp E w us hw hS hus;unfold xOver at hp;split at hp
 ·next i o n c op j p' m d oq =>
  split at hp
  ·next ci ei zi opi cj ej zj opj hij hgi hgj =>
   split at hp
   ·next hz1 ho hl =>
    cases hp
    have hu:=hus E (Agree.refl _ _);subst hu;have hne:i≠j:=fun h=>by subst h;rw [qr2] at hij;cases hij
    have hzn:zi≠1:=fun h=>by subst h;cases hz1
    rw [qa5,Ce.len_l] at ho hl;obtain ⟨cs,e1,fz,a1,a2,a3⟩:=hS.self.blk i _ hgi;obtain ⟨⟨hf1,hf2⟩,hsz,_,hmk⟩:=a3 rfl;obtain ⟨cs2,e2,fz2,b1,b2,b3⟩:=hS.self.blk j _ hgj;obtain ⟨_,hsz2,_,_⟩:=b3 rfl;have hblk:(E i).blk≠(E j).blk:=hS.self.inj i j _ _ hgi hgj hne rfl rfl;have hsa:w.shape? (E i).blk=some (e1,cs.size):=by unfold World.shape?;rw [a1]
    have hsb:w.shape? (E j).blk=some (e2,cs2.size):=by unfold World.shape?;rw [b1]
    unfold CallOk;have key:=Go.Lib.run_overlaps_apart (P:=P) w tS tR e ht size hz ⟨(E i).blk,(E i).off+o,none⟩ ⟨(E j).blk,(E j).off+p',none⟩ n (c+if op then (E i).extra else 0) m (d+if oq then (E j).extra else 0) hblk e1 e2 cs.size cs2.size hsa hsb oM
     (by
      rw [zke];simp only [a1];have:=hf2 ((E i).off+o) oM
      simpa [objFz] using this)
     (by
      rw [zke];simp only [a1];have:=hmk.1 hzn
      simpa [objFz] using this)
    have:(callFunc f (concL E [.sl i o n c op,.sl j p' m d oq]).toArray).run P w= .ok (.value (.bool false)) w:=hf.run key;rw [this];exact Done.same hw hS (fun _ _=>rfl)
   ·cases hp
  ·cases hp
 ·cases hp
end Go.Ev
namespace HS.Ins
set_option maxRecDepth 100000
theorem bOv:Bare Tryz.prog 187 (Extern.SlicesOverlaps.overlaps #[49,49] #[4]):=⟨Tryz.f187,Tryz.func187,kR,kR,kR,kR⟩
def lookI:Lk:=lkZ Tryz.prog (Tr.ofList Tryz.prog.funcs.toList) (Tr.ofList Tryz.prog.types.toList) [(187,xOver)] []
theorem lookI_ok:LOk lookI Tryz.prog:=zvl1 kR kR kR
theorem noextI:lookI.ext 175=none:=rfl
def zoc:Code:=bodyN lookI 175
def f175r0:K2 :=
 .mv (.con .nilSl) (some (sOf 6)) <|
 .done
def f175r1:K2 :=
 .mv (tO 0) (some (sOf 10)) <|
 .mv (tO 1) (some (sOf 11)) <|
 .ls (fun xs _=>zxa lookI 49 true false false xs) [(tO 10),(tO 11)] (opN zoc 1 2) (some (sOf 12)) <|
 .done
def f175r2:K2 :=
 .mv (tO 2) (some (sOf 13)) <|
 .ln (fun xs H=>fstO (zea .len lookI [49] xs H)) [(tO 13)] (some (sOf 14)) <|
 .mv (tO 14) (some (sOf 7)) <|
 .done
def f175r3:K2 :=
 .mv (tO 7) (some (sOf 15)) <|
 .p2 (binF .eql (evBin lookI .eql 3 (.tmp 15) (.const (.int .i64 (0))))) (tO 15) (.con (.int .i64 (0))) (some (sOf 16)) <|
 .done
def f175r4:K2 :=
 .mv (tO 0) (some (sOf 17)) <|
 .mv (tO 17) (some (sOf 6)) <|
 .done
def f175r5:K2 :=
 .mv (tO 0) (some (sOf 18)) <|
 .ln (fun xs H=>fstO (zea .len lookI [49] xs H)) [(tO 18)] (some (sOf 19)) <|
 .mv (tO 19) (some (sOf 8)) <|
 .done
def f175r6:K2 :=
 .mv (tO 1) (some (sOf 20)) <|
 .mv (tO 8) (some (sOf 21)) <|
 .p2 (binF .eql (evBin lookI .eql 3 (.tmp 20) (.tmp 21))) (tO 20) (tO 21) (some (sOf 22)) <|
 .done
def f175r7:K2 :=
 .mv (tO 0) (some (sOf 23)) <|
 .mv (tO 2) (some (sOf 24)) <|
 .hn false (appX 84 44 152) [(tO 23),(tO 24)] (some (sOf 25)) <|
 .mv (tO 25) (some (sOf 6)) <|
 .done
def f175r8:K2 :=
 .mv (tO 8) (some (sOf 26)) <|
 .mv (tO 7) (some (sOf 27)) <|
 .p2 (binF .add (evBin lookI .add 3 (.tmp 26) (.tmp 27))) (tO 26) (tO 27) (some (sOf 28)) <|
 .mv (tO 0) (some (sOf 29)) <|
 .ln (fun xs H=>fstO (zea .cap lookI [49] xs H)) [(tO 29)] (some (sOf 30)) <|
 .p2 (binF .gtr (evBin lookI .gtr 3 (.tmp 28) (.tmp 30))) (tO 28) (tO 30) (some (sOf 31)) <|
 .done
def f175r9:K2 :=
 .mv (tO 0) (some (sOf 32)) <|
 .mv (tO 1) (some (sOf 33)) <|
 .ls (fun xs _=>zxa lookI 49 false true false xs) [(tO 32),(tO 33)] (opN zoc 9 2) (some (sOf 34)) <|
 .mv (tO 8) (some (sOf 35)) <|
 .mv (tO 7) (some (sOf 36)) <|
 .p2 (binF .add (evBin lookI .add 3 (.tmp 35) (.tmp 36))) (tO 35) (tO 36) (some (sOf 37)) <|
 .mv (tO 1) (some (sOf 38)) <|
 .p2 (binF .sub (evBin lookI .sub 3 (.tmp 37) (.tmp 38))) (tO 37) (tO 38) (some (sOf 39)) <|
 .hn false (zea .append lookI [49,3]) [(tO 34),(tO 39)] (some (sOf 40)) <|
 .mv (tO 40) (some (sOf 9)) <|
 .done
def f175r10:K2 :=
 .mv (tO 9) (some (sOf 41)) <|
 .mv (tO 1) (some (sOf 42)) <|
 .ls (fun xs _=>zxa lookI 49 true false false xs) [(tO 41),(tO 42)] (opN zoc 10 2) (some (sOf 43)) <|
 .mv (tO 2) (some (sOf 44)) <|
 .hn false (zea .copy lookI [49,49]) [(tO 43),(tO 44)] (some (sOf 45)) <|
 .done
def f175r11:K2 :=
 .mv (tO 9) (some (sOf 46)) <|
 .mv (tO 1) (some (sOf 47)) <|
 .mv (tO 7) (some (sOf 48)) <|
 .p2 (binF .add (evBin lookI .add 3 (.tmp 47) (.tmp 48))) (tO 47) (tO 48) (some (sOf 49)) <|
 .ln (fun xs _=>zxa lookI 49 true false false xs) [(tO 46),(tO 49)] (some (sOf 50)) <|
 .mv (tO 0) (some (sOf 51)) <|
 .mv (tO 1) (some (sOf 52)) <|
 .ln (fun xs _=>zxa lookI 49 true false false xs) [(tO 51),(tO 52)] (some (sOf 53)) <|
 .hn false (zea .copy lookI [49,49]) [(tO 50),(tO 53)] (some (sOf 54)) <|
 .done
def f175r12:K2 :=
 .mv (tO 9) (some (sOf 55)) <|
 .mv (tO 55) (some (sOf 6)) <|
 .done
def f175r13:K2 :=
 .mv (tO 0) (some (sOf 56)) <|
 .mv (tO 8) (some (sOf 57)) <|
 .mv (tO 7) (some (sOf 58)) <|
 .p2 (binF .add (evBin lookI .add 3 (.tmp 57) (.tmp 58))) (tO 57) (tO 58) (some (sOf 59)) <|
 .ls (fun xs _=>zxa lookI 49 false true false xs) [(tO 56),(tO 59)] (opN zoc 13 4) (some (sOf 60)) <|
 .mv (tO 60) (some (sOf 0)) <|
 .done
def f175r14:K2 :=
 .mv (tO 2) (some (sOf 61)) <|
 .mv (tO 0) (some (sOf 62)) <|
 .mv (tO 1) (some (sOf 63)) <|
 .mv (tO 7) (some (sOf 64)) <|
 .p2 (binF .add (evBin lookI .add 3 (.tmp 63) (.tmp 64))) (tO 63) (tO 64) (some (sOf 65)) <|
 .ls (fun xs _=>zxa lookI 49 true false false xs) [(tO 62),(tO 65)] (opN zoc 14 5) (some (sOf 66)) <|
 .cl false 187 [(tO 61),(tO 66)] (some (sOf 67)) <|
 .p1 notF (tO 67) (some (sOf 68)) <|
 .done
def f175r15:K2 :=
 .mv (tO 0) (some (sOf 69)) <|
 .mv (tO 1) (some (sOf 70)) <|
 .mv (tO 7) (some (sOf 71)) <|
 .p2 (binF .add (evBin lookI .add 3 (.tmp 70) (.tmp 71))) (tO 70) (tO 71) (some (sOf 72)) <|
 .ln (fun xs _=>zxa lookI 49 true false false xs) [(tO 69),(tO 72)] (some (sOf 73)) <|
 .mv (tO 0) (some (sOf 74)) <|
 .mv (tO 1) (some (sOf 75)) <|
 .ln (fun xs _=>zxa lookI 49 true false false xs) [(tO 74),(tO 75)] (some (sOf 76)) <|
 .hn false (zea .copy lookI [49,49]) [(tO 73),(tO 76)] (some (sOf 77)) <|
 .done
def f175r16:K2 :=
 .mv (tO 0) (some (sOf 78)) <|
 .mv (tO 1) (some (sOf 79)) <|
 .ls (fun xs _=>zxa lookI 49 true false false xs) [(tO 78),(tO 79)] (opN zoc 16 2) (some (sOf 80)) <|
 .mv (tO 2) (some (sOf 81)) <|
 .hn false (zea .copy lookI [49,49]) [(tO 80),(tO 81)] (some (sOf 82)) <|
 .done
def f175r17:K2 :=
 .mv (tO 0) (some (sOf 83)) <|
 .mv (tO 83) (some (sOf 6)) <|
 .done
def f175r18:K2 :=
 .mv (tO 0) (some (sOf 84)) <|
 .mv (tO 8) (some (sOf 85)) <|
 .ls (fun xs _=>zxa lookI 49 true false false xs) [(tO 84),(tO 85)] (opN zoc 18 2) (some (sOf 86)) <|
 .mv (tO 2) (some (sOf 87)) <|
 .hn false (zea .copy lookI [49,49]) [(tO 86),(tO 87)] (some (sOf 88)) <|
 .done
def f175r19:K2 :=
 .mv (tO 0) (some (sOf 89)) <|
 .mv (tO 1) (some (sOf 90)) <|
 .ls (fun xs _=>zxa lookI 49 true false false xs) [(tO 89),(tO 90)] (opN zoc 19 2) (some (sOf 91)) <|
 .mv (tO 7) (some (sOf 92)) <|
 .cl false 188 [(tO 91),(tO 92)] (some (sOf 93)) <|
 .done
def f175r20:K2 :=
 .mv (tO 0) (some (sOf 94)) <|
 .mv (tO 94) (some (sOf 6)) <|
 .done
def f175c:C2:=(.seq (.reg f175r0)
 (.seq (.reg f175r1)
 (.seq (.reg f175r2)
 (.seq (.seq (.reg f175r3)
 (.cond (tO 16) (.seq (.reg f175r4)
 .ret) .skip))
 (.seq (.reg f175r5)
 (.seq (.seq (.reg f175r6)
 (.cond (tO 22) (.seq (.reg f175r7)
 .ret) .skip))
 (.seq (.seq (.reg f175r8)
 (.cond (tO 31) (.seq (.reg f175r9)
 (.seq (.reg f175r10)
 (.seq (.reg f175r11)
 (.seq (.reg f175r12)
 .ret)))) .skip))
 (.seq (.reg f175r13)
 (.seq (.seq (.reg f175r14)
 (.cond (tO 68) (.seq (.reg f175r15)
 (.seq (.reg f175r16)
 (.seq (.reg f175r17)
 .ret))) .skip))
 (.seq (.reg f175r18)
 (.seq (.reg f175r19)
 (.seq (.reg f175r20)
 .ret))))))))))))
theorem zvt:fnF lookI 175=some ⟨95,f175c, [.tmp 6]⟩:=kR
open Go Go.Proofs Go.RowKit
open Go.Ev
open Ra Rb Rc Rd Re Rf Rg Rh Ri Rj Rk Rl Rm Rn Ro Rp Rq Rr
theorem app_z {L:Lk}{t t' e z b:Nat}{zv:AV}{H:AH}(ht:L.under t=some (.slice e)) (ht':L.under t'=some (.int .i64)) (hz:L.size e=some z) (hb:L.bytes e=some b) (hzv:L.zero e=some zv) (hzl:zv.cells.length=z) (hz0:0<z)
  {i o l c n:Nat}{ro op':Bool}{e' z':Nat}{row:List AV}(hr:Row H i ro op' e' z' row) (hl:o+l*z<=row.length) (hc:c<l+n) (hbb:(l+n)*b<=140737488355328) (hm:l+n<=9223372036854775807) (hone:(Ce.repC zv.cells n).one=true) (hh:H.hide= []) :
  ∃H',zea .append L [t,t'] [.sl i o l c false,.int .i64 (n:Nat)] H=some (.sl H.next 0 (l+n) (l+n) true,H')/\HX H H'/\H'.next=H.next+1/\Row H' H.next false true e z ((row.drop o).take (l*z) ++ (Ce.repC zv.cells n).l):=by
 obtain ⟨cc,h2,rfl⟩:=hr;obtain ⟨old,h3,h4⟩:=Ce.sub_ex (c:=cc) (o:=o) (n:=l*z) hl;have hnb:n*b<=140737488355328:=qx2 (qd2 b (Nat.le_add_left n l)) hbb;refine ⟨H.new (.cells (Ce.app old (Ce.repC zv.cells n)) e z true false),?_,HX.new _ _,rfl,?_⟩
 ·show (match L.under t' with
   |some (.slice _)=>zzc L t (.sl i o l c false) (.int .i64 (n:Nat)) H
   |some .string=>zzc L t (.sl i o l c false) (.int .i64 (n:Nat)) H
   |some (.int _)=>zje L t (.sl i o l c false) (.int .i64 (n:Nat)) H
   |_=>none)=_
  rw [ht'];show zje L t (.sl i o l c false) (.int .i64 (.ofNat n)) H=_
  unfold zje;rw [ht];simp only [hz,hb,hzv];rw [show (Nat.beq z 0 || !Nat.beq (len zv.cells) z)=false from by
   rw [zse,hzl,qr2];cases z with
   |zero=>omega
   |succ z=>rfl]
  rw [show Nat.ble (n*b) 140737488355328=true from qh hnb,show Nat.ble n 9223372036854775807=true from qh oM]
  simp only [qp2,hone];unfold zql;simp only;rw [show Nat.ble (l+n) c=false from by cases h:Nat.ble (l+n) c with|false=>rfl|true=>have:=qf1 h;omega]
  simp only;rw [show Nat.ble ((l+n)*b) 140737488355328=true from qh hbb,show Nat.ble (l+n) 9223372036854775807=true from qh hm]
  have:H.subC i o (l*z)=some old:=by unfold AH.subC;rw [h2];exact h3
  rw [this];rfl
 ·have:=Row.new hh (Ce.app old (Ce.repC zv.cells n)) e z true false
  rwa [Ce.app_l,h4] at this
theorem uR:lookI.under 49=some (.slice 84):=kR
theorem uN:lookI.under 3=some (.int .i64):=kR
theorem zR:lookI.size 84=some 44:=kR
theorem bR:lookI.bytes 84=some 152:=kR
abbrev zv:AV:=match lookI.zero 84 with|some v=>v|none=>.undef
theorem zvR:lookI.zero 84=some zv:=kR
theorem zlR:zv.cells.length=44:=kR
theorem zoR:zv.cells.all AV.oneCell=true:=kR
theorem zjh1 (n:Nat):(Ce.repC zv.cells n).one=true:=by
 unfold Ce.repC;split
 ·rfl
 ·show (rep zv.cells n).all AV.oneCell=true
  induction n with
  |zero=>rfl
  |succ n ih=>rw [zgi,qd6,zoR,ih];rfl
theorem ln (i o n c:Nat) (op:Bool) (H:AH):fstO (zea .len lookI [49] [.sl i o n c op] H)=some (.int .i64 (n:Nat)):=kR
theorem cp (i n:Nat) (H:AH) (c:Nat):fstO (zea .cap lookI [49] [.sl i 0 n c false] H)=some (.int .i64 ((c:Nat):Int)):=kR
theorem zlm1 {c l o z:Nat}(h:l<c):offOf c l o z=o+l*z:=by
 unfold offOf;have:Nat.beq c l=false:=by
  cases hb:Nat.beq c l with
  |false=>rfl
  |true=>have:=qi hb;omega
 rw [this]
theorem sl_lo {L:Lk}{t e z:Nat}{i o n c:Nat}{op:Bool}{p:Nat}(ht:L.under t=some (.slice e)) (hz:L.size e=some z) (h0:p<=n) (h1:n<=c) (h2:p<c) :
  zxa L t true false false [.sl i o n c op,.int .i64 (p:Nat)]=some (.sl i (o+p*z) (n - p) (c - p) op):=by
 show zfb L t (.sl i o n c op) (some (.int .i64 (.ofNat p))) none none=_
 unfold zfb;rw [ht];show (match L.size e with|none=>none|some z=>(match some n with
    |none=>none
    |some h=>match Nat.ble p h && Nat.ble h c with
      |true=>(match op with
       |false=>some (AV.sl i (offOf c p o z) (h - p) (c - p) false)
       |true=>match Nat.beq c p with
        |true=>(match Nat.beq o 0 with|true=>some (.ext 1 i (c*z+1))|false=>none)
        |false=>some (AV.sl i (o+p*z) (h - p) (c - p) true))
      |false=>none))=_
 rw [hz];simp only;rw [show Nat.ble p n=true from qh h0,show Nat.ble n c=true from qh h1]
 have hb:Nat.beq c p=false:=by
  cases hb:Nat.beq c p with
  |false=>rfl
  |true=>have:=qi hb;omega
 cases op with
 |false=>simp only [qp2,zlm1 h2]
 |true=>simp only [qp2,hb]
theorem insA (H:AH) (b n p j q c2:Nat) (op2:Bool) (l:List AV) (cv:Ce) (hp:p<n) (hl:l.length=n*44) (hn:(n+1)*152<=140737488355328) (hr:Row H b false false 84 44 l) (hb:b<H.next) (hv:H.subC j q 44=some cv) (hcl:cv.l.length=44) (hone:cv.one=true) (hj:j<H.next) (hone2:l.all AV.oneCell=true) (hlo:H.lo<=H.next) (hh:H.hide= []) :
  FnE lookI 175 [.sl b 0 n n false,.int .i64 (p:Nat),.sl j q 1 c2 op2] H fun r H'=>r= .sl H.next 0 (n+1) (n+1) true/\Row H' H.next false true 84 44 (l.take (p*44) ++ cv.l ++ l.drop (p*44))/\HX H H'/\H'.next=H.next+1:=by
 refine zud zvt noextI rfl ?_;unfold f175c;obtain ⟨H1,ha,hx1,hn1,hr1⟩:=app_z (L:=lookI) (t:=49) (t':=3) (H:=H) (i:=b) (o:=0) (l:=p) (c:=n) (n:=n+1 - p) uR uN zR bR zvR zlR dC hr (by rw [hl];omega) oM (by rw [show p+(n+1 - p)=n+1 from oM];exact hn) oM (zjh1 _) hh
 rw [show p+(n+1 - p)=n+1 from oM] at ha
 have hcast:((n+1 - p:Nat):Int)=(n:Int)+1 - (p:Int):=oM
 rw [hcast] at ha;have hx01:H.next<H1.next:=oM
 have hh1:H1.hide= []:=hx1.hide.trans hh;have hA:(l.take (p*44)).length=p*44:=by rw [qd1,hl];omega
 obtain ⟨zs,hzs,hzl⟩:∃zs,zs=(Ce.repC zv.cells (n+1 - p)).l/\zs.length=(n+1 - p)*44:=⟨_,rfl,by rw [Ce.repC_l,zuc,zlR]⟩
 rw [← hzs,qt2] at hr1;have min1:minN 1 (n+1 - p)=1:=by unfold minN;rw [show Nat.ble 1 (n+1 - p)=true from qh oM]
 have hsv:zhb 44 (.sl j q 1 c2 op2) (minN 1 (n+1 - p)) H1=some cv:=by
  rw [min1];show AH.subC H1 j q (1*44)=_
  rw [qo6,← hv];unfold AH.subC;rw [hx1.get hj]
 obtain ⟨H2,hc1,hr2,hp2,hn2⟩:=zge1 (L:=lookI) (ts:= []) (t:=49) (t':=49) (e:=84) (H:=H1) (i:=H.next) (o:=p*44) (n:=n+1 - p) (c:=n+1 - p) (op:=true) (x:=.sl j q 1 c2 op2) (m:=1) (new:=cv) uR zR rfl hsv hr1 hh1 (by rw [hx1.lo];exact hlo) hone (by rw [qy,hA,hzl,hcl];omega)
 have er2:(l.take (p*44) ++ zs).take (p*44) ++ cv.l ++ (l.take (p*44) ++ zs).drop (p*44+cv.l.length)=l.take (p*44) ++ cv.l ++ zs.drop 44:=by
  rw [qj3 oM,qx oM,List.drop_append,qq5 oM,hA,hcl]
  simp
 rw [er2] at hr2;have hh2:H2.hide= []:=hp2.hide.trans hh1;have hrb:Row H2 b false false 84 44 l:=(hr.hx hx1 hb).hp hp2 oM oM
 obtain ⟨nw,hs2,hnl⟩:=znp (z:=44) (i:=b) (o:=p*44) (n:=n - p) (m:=n - p) (c:=n - p) (op:=false) hrb (by rw [hl];omega)
 have hnl:nw.l=l.drop (p*44):=by
  rw [hnl,qx];rw [qb2,hl];omega
 have hnll:nw.l.length=(n - p)*44:=by rw [hnl,qb2,hl];omega
 have one2:nw.one=true:=by
  cases nw with
  |lst x =>
   have hx:x=l.drop (p*44):=hnl;show x.all AV.oneCell=true
   rw [hx,qb1];exact fun v hv=>qb1.1 hone2 v (qn3 hv)
  |byt n N=>rfl
 have min2:minN (n - p) (n+1 - (p+1))=n - p:=by unfold minN;rw [show Nat.ble (n - p) (n+1 - (p+1))=true from qh oM]
 obtain ⟨H3,hc2,hr3,hp3,hn3⟩:=zge1 (L:=lookI) (ts:= []) (t:=49) (t':=49) (e:=84) (H:=H2) (i:=H.next) (o:=(p+1)*44) (n:=n+1 - (p+1)) (c:=n+1 - (p+1)) (op:=true) (x:=.sl b (p*44) (n - p) (n - p) false) (m:=n - p) (new:=nw) uR zR rfl (by rw [min2];exact hs2) hr2 hh2 (by rw [hp2.lo,hx1.lo];exact hlo) one2 (by rw [qy,qy,hA,qb2,hzl,hcl,hnll];omega)
 have er3:(l.take (p*44) ++ cv.l ++ zs.drop 44).take ((p+1)*44) ++ nw.l ++ (l.take (p*44) ++ cv.l ++ zs.drop 44).drop ((p+1)*44+nw.l.length)=l.take (p*44) ++ cv.l ++ l.drop (p*44):=by
  have h1:(l.take (p*44) ++ cv.l).length=(p+1)*44:=by rw [qy,hA,hcl];omega
  rw [qj3 oM,qx oM,qq5 (by rw [qy,h1,qb2,hzl,hnll];omega),hnl,qy1]
 rw [er3] at hr3;have hx3:HX H H3:=(((hx1.hp fun _=>True).trans hp2 (r:=fun _=>True) fun i hi _=>⟨trivial,oM⟩).trans hp3 (r:=fun _=>True) fun i hi _=>⟨trivial,oM⟩).hx fun _ _=>trivial
 have qc:=fun H'=>cp b n H' n
 have ql:=ln;have q1:zxa lookI 49 true false false [.sl b 0 n n false,.int .i64 (p:Nat)]=some (.sl b (p*44) (n - p) (n - p) false):=by
  rw [sl_lo uR zR oM (qn _) hp,qu1]
 have q2:zxa lookI 49 false true false [.sl b 0 n n false,.int .i64 (p:Nat)]=some (.sl b 0 p n false):=by
  rw [sl_hi uR zR oM oM];rfl
 have q3:zxa lookI 49 true false false [.sl H.next 0 (n+1) (n+1) true,.int .i64 (p:Nat)]=some (.sl H.next (p*44) (n+1 - p) (n+1 - p) true):=by
  rw [sl_lo uR zR oM (qn _) oM,qu1]
 have q4:zxa lookI 49 true false false [.sl H.next 0 (n+1) (n+1) true,.int .i64 ((p:Int)+((1:Nat):Int))]=some (.sl H.next ((p+1)*44) (n+1 - (p+1)) (n+1 - (p+1)) true):=by
  have:= @sl_lo lookI 49 84 44 H.next 0 (n+1) (n+1) true (p+1) uR zR oM (qn _) oM
  rw [qu1] at this;exact this
 (repeat' (first|refine Z ?_|refine Zq ?_|refine zgg dC ?_|((first|refine' Y ?_ ?_|refine' X ?_ ?_ ?_);rotate_left;(·(first|(simp (disch:=omega) only [evl,Nat.reduceEqDiff,Nat.reduceAdd,reduceIte,reduceCtorEq,qc,ql,q1,q2,q3,q4]<;>exact rfl)|exact rfl));all_goals try (refine fun (hb:_=_)=> ?_;try simp only [Zu,ne_eq,reduceCtorEq] at hb))|(apply zfj;·simp [evl])))
 refine rk_hn (by (simp (disch:=omega) only [evl,Nat.reduceEqDiff,Nat.reduceAdd,reduceIte,reduceCtorEq]);exact ha) ?_
 simp only [zml]
 (repeat' (first|refine Z ?_|refine Zq ?_|refine zgg dC ?_|((first|refine' Y ?_ ?_|refine' X ?_ ?_ ?_);rotate_left;(·(first|(simp (disch:=omega) only [evl,Nat.reduceEqDiff,Nat.reduceAdd,reduceIte,reduceCtorEq,qc,ql,q1,q2,q3,q4]<;>exact rfl)|exact rfl));all_goals try (refine fun (hb:_=_)=> ?_;try simp only [Zu,ne_eq,reduceCtorEq] at hb))|(apply zfj;·simp [evl])))
 refine rk_hn (by (simp (disch:=omega) only [evl,Nat.reduceEqDiff,Nat.reduceAdd,reduceIte,reduceCtorEq]);exact hc1) ?_
 simp only [zml]
 (repeat' (first|refine Z ?_|refine Zq ?_|refine zgg dC ?_|((first|refine' Y ?_ ?_|refine' X ?_ ?_ ?_);rotate_left;(·(first|(simp (disch:=omega) only [evl,Nat.reduceEqDiff,Nat.reduceAdd,reduceIte,reduceCtorEq,qc,ql,q1,q2,q3,q4]<;>exact rfl)|exact rfl));all_goals try (refine fun (hb:_=_)=> ?_;try simp only [Zu,ne_eq,reduceCtorEq] at hb))|(apply zfj;·simp [evl])))
 refine rk_hn (by (simp (disch:=omega) only [evl,Nat.reduceEqDiff,Nat.reduceAdd,reduceIte,reduceCtorEq]);exact hc2) ?_
 simp only [zml]
 (repeat' (first|refine Z ?_|refine Zq ?_|refine zgg dC ?_|((first|refine' Y ?_ ?_|refine' X ?_ ?_ ?_);rotate_left;(·(first|(simp (disch:=omega) only [evl,Nat.reduceEqDiff,Nat.reduceAdd,reduceIte,reduceCtorEq]<;>exact rfl)|exact rfl));all_goals try (refine fun (hb:_=_)=> ?_;try simp only [Zu,ne_eq,reduceCtorEq] at hb))|(apply zfj;·simp [evl])))
 refine zxl1 ?_;refine zjw (ziw _ _) ⟨?_,hr3,hx3,oM⟩
 (simp (disch:=omega) only [evl,Nat.reduceEqDiff,Nat.reduceAdd,reduceIte,reduceCtorEq])
theorem ovF (H:AH) (i o n c j p m d:Nat) (op oq:Bool){ci cj:Ce}{ei ej zi zj:Nat}{opi opj:Bool}(hij:i≠j) (hi:H.get i=some (.cells ci ei zi opi false)) (hj:H.get j=some (.cells cj ej zj opj false)) (hz:zi≠1) (ho:o<ci.l.length) (hl:0<cj.l.length) :
  FnE lookI 187 [.sl i o n c op,.sl j p m d oq] H fun r H'=>r= .bool false/\H'=H:=by
 refine zcm (show lookI.ext 187=some xOver from rfl) ?_
 have h1:Nat.beq i j=false:=by
  cases hb:Nat.beq i j with
  |false=>rfl
  |true=>exact absurd (qi hb) hij
 have h2:Nat.beq zi 1=false:=by
  cases hb:Nat.beq zi 1 with
  |false=>rfl
  |true=>exact absurd (qi hb) hz
 show (match Nat.beq i j,H.get i,H.get j with
  |false,some (.cells ci _ zi _ false),some (.cells cj _ _ _ false)=>(match Nat.beq zi 1,Nat.blt o ci.len,Nat.blt 0 cj.len with
   |false,true,true=>some (AV.bool false,H)
   |_,_,_=>none)
  |_,_,_=>none)=_
 rw [h1,hi,hj];simp only;rw [h2,show Nat.blt o ci.len=true from by rw [qa5,Ce.len_l];exact ho,show Nat.blt 0 cj.len=true from by rw [qa5,Ce.len_l];exact hl]
theorem insB (H:AH) (b n p x j q c2:Nat) (op2:Bool) (l rs:List AV) (cv cj:Ce) (ej zj:Nat) (opj:Bool) (hp:p<n) (hx:0<x) (hl:l.length=n*44) (hrs:rs.length=x*44) (hbig:n<=1000000) (hr:Row H b false false 84 44 (l ++ rs)) (hv:H.subC j q 44=some cv) (hcl:cv.l.length=44) (hone:cv.one=true) (hjg:H.get j=some (.cells cj ej zj opj false)) (hjz:zj≠1) (hq:q<cj.l.length) (hjb:j≠b) (hbn:b<H.next) (hjn:j<H.next) (hone2:l.all AV.oneCell=true) (hlo:H.lo<=b) (hh:H.hide= []) :
  FnE lookI 175 [.sl b 0 n (n+x) false,.int .i64 (p:Nat),.sl j q 1 c2 op2] H fun r H'=>r= .sl b 0 (n+1) (n+x) false/\Row H' b false false 84 44 (l.take (p*44) ++ cv.l ++ l.drop (p*44) ++ rs.drop 44)/\HP (·≠ b) H H'/\H'.next=H.next:=by
 refine zud zvt noextI rfl ?_;unfold f175c;have hA:(l.take (p*44)).length=p*44:=by rw [qd1,hl];omega
 have hD:(l.drop (p*44)).length=(n - p)*44:=by rw [qb2,hl];omega
 have min2:minN (n+1 - p) (n+1 - (p+1))=n - p:=by
  unfold minN;split
  ·next h=>have:=qf1 h;omega
  ·omega
 obtain ⟨nw,hs2,hnl⟩:=znp (z:=44) (i:=b) (o:=p*44) (n:=n - p) (m:=n+1 - p) (c:=n+x - p) (op:=false) hr (by rw [qy,hl,hrs];omega)
 have hnl:nw.l=l.drop (p*44):=by
  rw [hnl,qf6 oM,qj3 oM,qx oM]
 have hnll:nw.l.length=(n - p)*44:=by rw [hnl,hD]
 have one2:nw.one=true:=by
  cases nw with
  |lst y =>
   have hy:y=l.drop (p*44):=hnl;show y.all AV.oneCell=true
   rw [hy,qb1];exact fun v hv=>qb1.1 hone2 v (qn3 hv)
  |byt n N=>rfl
 obtain ⟨H2,hc1,hr2,hp2,hn2⟩:=zge1 (L:=lookI) (ts:= []) (t:=49) (t':=49) (e:=84) (H:=H) (i:=b) (o:=(p+1)*44) (n:=n+1 - (p+1)) (c:=n+x - (p+1)) (op:=false) (x:=.sl b (p*44) (n+1 - p) (n+x - p) false) (m:=n+1 - p) (new:=nw) uR zR rfl (by rw [min2];exact hs2) hr hh hlo one2 (by rw [qy,hl,hrs,hnll];omega)
 have hh2:H2.hide= []:=hp2.hide.trans hh;have hT:((l ++ rs).take ((p+1)*44)).length=(p+1)*44:=by rw [qd1,qy,hl,hrs];omega
 have min1:minN 1 (n+1 - p)=1:=by unfold minN;rw [show Nat.ble 1 (n+1 - p)=true from qh oM]
 have hsv:zhb 44 (.sl j q 1 c2 op2) (minN 1 (n+1 - p)) H2=some cv:=by
  rw [min1];show AH.subC H2 j q (1*44)=_
  rw [qo6,← hv];unfold AH.subC;rw [hp2.get hjn hjb]
 obtain ⟨H3,hc2,hr3,hp3,hn3⟩:=zge1 (L:=lookI) (ts:= []) (t:=49) (t':=49) (e:=84) (H:=H2) (i:=b) (o:=p*44) (n:=n+1 - p) (c:=n+x - p) (op:=false) (x:=.sl j q 1 c2 op2) (m:=1) (new:=cv) uR zR rfl hsv hr2 hh2 (by rw [hp2.lo];exact hlo) hone (by rw [qy,qy,hT,hnll,hcl];omega)
 have er:((l ++ rs).take ((p+1)*44) ++ nw.l ++ (l ++ rs).drop ((p+1)*44+nw.l.length)).take (p*44) ++ cv.l ++ ((l ++ rs).take ((p+1)*44) ++ nw.l ++ (l ++ rs).drop ((p+1)*44+nw.l.length)).drop (p*44+cv.l.length)=l.take (p*44) ++ cv.l ++ l.drop (p*44) ++ rs.drop 44:=by
  have e1:((l ++ rs).take ((p+1)*44) ++ nw.l ++ (l ++ rs).drop ((p+1)*44+nw.l.length)).take (p*44)=l.take (p*44):=by
   rw [qg1,qj3 oM,qj5,qs3 oM,qj3 oM]
  have e2:((l ++ rs).take ((p+1)*44) ++ nw.l ++ (l ++ rs).drop ((p+1)*44+nw.l.length)).drop (p*44+cv.l.length)=l.drop (p*44) ++ rs.drop 44:=by
   rw [hcl,show p*44+44=(p+1)*44 from oM,qg1,qf6 oM,qq5 oM,qk1,hnl,hD]
   congr 1
   rw [List.drop_append,qq5 oM,qk1]
   congr 1
   omega
  rw [e1,e2,qg1];simp [qg1]
 rw [er] at hr3;obtain ⟨cb,hbg,hbl⟩:=hr;have hov:=ovF H j q 1 c2 b ((p+1)*44) (n+1 - (p+1)) (n+x - (p+1)) op2 false hjb hjg hbg hjz hq (by rw [hbl,qy,hl];omega)
 have qc:=fun H'=>cp b n H' (n+x)
 have ql:=ln;have q1:zxa lookI 49 true false false [.sl b 0 n (n+x) false,.int .i64 (p:Nat)]=some (.sl b (p*44) (n - p) (n+x - p) false):=by
  rw [sl_lo uR zR oM oM oM,qu1]
 have q5:zxa lookI 49 false true false [.sl b 0 n (n+x) false,.int .i64 ((n:Int)+((1:Nat):Int))]=some (.sl b 0 (n+1) (n+x) false):=by
  rw [sl_hi uR zR oM oM];rfl
 have q6:zxa lookI 49 true false false [.sl b 0 (n+1) (n+x) false,.int .i64 ((p:Int)+((1:Nat):Int))]=some (.sl b ((p+1)*44) (n+1 - (p+1)) (n+x - (p+1)) false):=by
  have:= @sl_lo lookI 49 84 44 b 0 (n+1) (n+x) false (p+1) uR zR oM oM oM
  rw [qu1] at this;exact this
 have q7:zxa lookI 49 true false false [.sl b 0 (n+1) (n+x) false,.int .i64 (p:Nat)]=some (.sl b (p*44) (n+1 - p) (n+x - p) false):=by
  rw [sl_lo uR zR oM oM oM,qu1]
 (repeat' (first|refine Z ?_|refine Zq ?_|refine zgg dC ?_|((first|refine' Y ?_ ?_|refine' X ?_ ?_ ?_);rotate_left;(·(first|(simp (disch:=omega) only [evl,Nat.reduceEqDiff,Nat.reduceAdd,reduceIte,reduceCtorEq,qc,ql,q1,q5,q6,q7]<;>exact rfl)|exact rfl));all_goals try (refine fun (hb:_=_)=> ?_;try simp only [Zu,ne_eq,reduceCtorEq] at hb))|(apply zfj;·simp [evl])))
 refine rk_cl (by (simp (disch:=omega) only [evl,Nat.reduceEqDiff,Nat.reduceAdd,reduceIte,reduceCtorEq]);exact hov) ?_
 rintro r H1 ⟨rfl,rfl⟩;simp only [zml]
 (repeat' (first|refine Z ?_|refine Zq ?_|refine zgg dC ?_|((first|refine' Y ?_ ?_|refine' X ?_ ?_ ?_);rotate_left;(·(first|(simp (disch:=omega) only [evl,Nat.reduceEqDiff,Nat.reduceAdd,reduceIte,reduceCtorEq,qc,ql,q1,q5,q6,q7]<;>exact rfl)|exact rfl));all_goals try (refine fun (hb:_=_)=> ?_;try simp only [Zu,ne_eq,reduceCtorEq] at hb))|(apply zfj;·simp [evl])))
 refine rk_hn (by (simp (disch:=omega) only [evl,Nat.reduceEqDiff,Nat.reduceAdd,reduceIte,reduceCtorEq]);exact hc1) ?_
 simp only [zml]
 (repeat' (first|refine Z ?_|refine Zq ?_|refine zgg dC ?_|((first|refine' Y ?_ ?_|refine' X ?_ ?_ ?_);rotate_left;(·(first|(simp (disch:=omega) only [evl,Nat.reduceEqDiff,Nat.reduceAdd,reduceIte,reduceCtorEq,qc,ql,q1,q5,q6,q7]<;>exact rfl)|exact rfl));all_goals try (refine fun (hb:_=_)=> ?_;try simp only [Zu,ne_eq,reduceCtorEq] at hb))|(apply zfj;·simp [evl])))
 refine rk_hn (by (simp (disch:=omega) only [evl,Nat.reduceEqDiff,Nat.reduceAdd,reduceIte,reduceCtorEq]);exact hc2) ?_
 simp only [zml]
 (repeat' (first|refine Z ?_|refine Zq ?_|refine zgg dC ?_|((first|refine' Y ?_ ?_|refine' X ?_ ?_ ?_);rotate_left;(·(first|(simp (disch:=omega) only [evl,Nat.reduceEqDiff,Nat.reduceAdd,reduceIte,reduceCtorEq]<;>exact rfl)|exact rfl));all_goals try (refine fun (hb:_=_)=> ?_;try simp only [Zu,ne_eq,reduceCtorEq] at hb))|(apply zfj;·simp [evl])))
 refine zxl1 ?_;refine zjw (ziw _ _) ⟨?_,hr3,hp2.trans hp3 fun _ _ h=>⟨h,h⟩,oM⟩
 (simp (disch:=omega) only [evl,Nat.reduceEqDiff,Nat.reduceAdd,reduceIte,reduceCtorEq])
def insL (l v:List AV) (k:Nat):List AV:=l.take k ++ v ++ l.drop k
def xInsert:XFn:=fun args H=>match args with
 | [.sl b 0 n c true,.int .i64 (.ofNat p),.sl j q 1 c2 op2]=>(match H.hide with
  | []=>(match Nat.ble H.lo b,Nat.beq j b,H.get b,H.get j,H.subC j q 44 with
   |true,false,some (.cells cb e z true false),some (.cells cj ej zj opj false),some cv =>
    (match (Nat.beq n c && Nat.blt p n && Nat.beq e 84 && Nat.beq z 44 && Nat.beq cb.len (n*44)) && (!Nat.beq zj 1 && Nat.beq cv.len 44 && cv.one && cb.l.all AV.oneCell && Nat.blt q cj.len && Nat.ble n 1000000) with
    |true=>some (.sl H.next 0 (n+1) (n+1) true,(H.drop b).new (.cells (.lst (insL cb.l cv.l (p*44))) 84 44 true false))
    |false=>none)
   |_,_,_,_,_=>none)
  |_::_=>none)
 |_=>none
theorem puR:Tryz.prog.underlying 49=some (.slice 84):=kR
theorem pzR (w:World):(Go.sizeOf 84).run Tryz.prog w= .ok 44 w:=zlb lookI_ok.toLOk0 zR w
theorem overR (B:Nat):XOk Tryz.prog B 187 xOver:=by
 have h:= @zkm1 Tryz.prog B 187 49 4 84 44 bOv puR pzR;exact h
theorem zwt (B:Nat):ExtOk lookI Tryz.prog B:=by
 exact zon (fun p hp=>by
  rcases qn1.1 hp with rfl
  exact overR B)
theorem BRel.cells_l {E:Env}{i e z:Nat}{op ro:Bool}{c c':Ce}{w:World}(h:BRel E i (.cells c e z op ro) w) (hc:c'.l=c.l):BRel E i (.cells c' e z op ro) w:=by
 obtain ⟨cs,e',fz,h1,h2,h3⟩:=h;refine ⟨cs,e',fz,h1,?_,?_⟩
 ·rw [hc];exact h2
 ·rw [hc];exact h3
theorem zxt {H HB H':AH}{b:Nat}{X:ABlk}(hw:H.Wf) (hw2:H'.Wf) (hb:b<H.next) (h1:∀k,k<H.next->k≠b->H'.tree.get k=H.tree.get k) (hn:H'.next<=H.next+1) (k:Nat) :
  ((H.drop b).new X).tree.get k=if k=H.next then some X else if k=b then some .defd else (if k<H.next then H'.tree.get k else none):=by
 show ((H.tree.set b .defd).set H.next X).get k=_
 rw [Tr.get_set,Tr.get_set];split
 ·rfl
 ·next hk =>
  split
  ·rfl
  ·next hk2 =>
   split
   ·next hk3=>rw [h1 k hk3 hk2]
   ·next hk3 =>
    cases hx:H.tree.get k with
    |none=>rfl
    |some y=>exact absurd (hw.tree k y hx) oM
theorem xInsert_ok (B:Nat):XOk Tryz.prog B 175 xInsert:=by
 intro args H pp hp E w us hw hS hus;unfold xInsert at hp;split at hp
 ·next b n c p j q c2 op2 =>
  split at hp
  ·next hh =>
   split at hp
   ·next cb e z cj ej zj opj cv hlo hji hg hgj hsub =>
    split at hp
    ·next hcond =>
     cases hp
     simp only [qm,qh4] at hcond;obtain ⟨⟨⟨⟨⟨hnc,hpn⟩,he⟩,hz⟩,hlen⟩,⟨⟨⟨⟨⟨hzj,hcl⟩,hone⟩,hone2⟩,hq⟩,hbig⟩⟩:=hcond;have hnc:=qi hnc;have he:=qi he;have hz:=qi hz;have hlen:=qi hlen;have hcl:=qi hcl;rw [Ce.len_l] at hlen hcl;rw [qa5] at hpn hq;rw [Ce.len_l] at hq;have hbig:=qf1 hbig;have hlo:=qf1 hlo;have hzj:zj≠1:=fun h=>by subst h;rw [qr2] at hzj;cases hzj
     have hjb:j≠b:=fun h=>by subst h;rw [qr2] at hji;cases hji
     subst hnc he hz;have hi:=hw.get_lt hg;have hj:=hw.get_lt hgj;have hvis:=(AH.get_some.1 hg).1;obtain ⟨rs,hrl,hrE,hS1,hP1,hw1⟩:=zwe1 hw hS hg hlo;have hgB:∀k,(H.put b (.cells (.lst (cb.l ++ rs)) 84 44 false false)).get k=if k=b then some (.cells (.lst (cb.l ++ rs)) 84 44 false false) else H.get k:=fun k=>AH.put_get hvis _ k
     have hnB:(H.put b (.cells (.lst (cb.l ++ rs)) 84 44 false false)).next=H.next:=rfl;have hlB:(H.put b (.cells (.lst (cb.l ++ rs)) 84 44 false false)).lo=H.lo:=rfl;have hhB:(H.put b (.cells (.lst (cb.l ++ rs)) 84 44 false false)).hide= []:=hh;have hzB:(H.put b (.cells (.lst (cb.l ++ rs)) 84 44 false false)).fz=H.fz:=rfl;have hpB:HP (·≠ b) H (H.put b (.cells (.lst (cb.l ++ rs)) 84 44 false false)):=HP.put _ _ _;generalize H.put b (.cells (.lst (cb.l ++ rs)) 84 44 false false)=HB at *
     have hr:Row HB b false false 84 44 (cb.l ++ rs):=⟨_,(hgB b).trans (qj rfl),rfl⟩;have hsB:HB.subC j q 44=some cv:=by
      unfold AH.subC at hsub ⊢
      rw [hgB j,qg hjb];exact hsub
     have hgjB:HB.get j=some (.cells cj ej zj opj false):=(hgB j).trans ((qg hjb).trans hgj);have hcc:(Ce.lst (insL cb.l cv.l (p*44))).l=cb.l.take (p*44) ++ cv.l ++ cb.l.drop (p*44):=rfl;have hil:(insL cb.l cv.l (p*44)).length=(n+1)*44:=by
      unfold insL;rw [qy,qy,qd1,qb2,hlen,hcl];omega
     rcases qp3 (E b).extra with hx0|hx0
     ·-- no room
      have hrs:rs= []:=ql1 (by rw [hrl,hx0,ql4])
      subst hrs;rw [qy1] at hr;have hus':StL E HB.next [.sl b 0 n n false,.int .i64 (p:Nat),.sl j q 1 c2 op2] us:=fun E' hE=>by
       rw [hus E' (by rw [hnB] at hE;exact hE)]
       have hei:E' b=E b:=hE b (by rw [hnB];exact hi)
       show [Value.slice (some ⟨(E' b).blk,(E' b).off+0,none⟩) n (n+(E' b).extra),_,_]= [Value.slice (some ⟨(E' b).blk,(E' b).off+0,none⟩) n (n+0),_,_]
       rw [hei,hx0];rfl
      refine (fnN_of lookI_ok (zwt B) (insA HB b n p j q c2 op2 cb.l cv hpn hlen oM hr (by rw [hnB];exact hi) hsB hcl hone (by rw [hnB];exact hj) hone2 (by rw [hlB,hnB];exact hw.lo) hhB) E w us hw1 hS1 hus').ok ?_
      rintro v' H' u w1 ⟨rfl,⟨cc,hg',hcc'⟩,hp',hn'⟩ ⟨E1,hv,hS2,hP2,hw2⟩;rw [hnB] at hg' hn' hv;have hh':H'.hide= []:=hp'.hide.trans hhB;have hlo':H'.lo=H.lo:=hp'.lo.trans hlB;obtain ⟨cb',hgb,_⟩:=(hr.hx hp' (by rw [hnB];exact hi))
      obtain ⟨hS3,hP3,hw3⟩:=zsz hw2 hS2 hg' rfl (by rw [hlo'];exact hw.lo) (.cells (.lst (insL cb.l cv.l (p*44))) 84 44 true false) (fun E' hE=>BRel.cells_l ((hS2 E' hE).blk _ _ hg') (hcc.trans hcc'.symm))
      have hvn:H'.vis H.next=true:=(AH.get_some.1 hg').1;have hgb3:(H'.put H.next (.cells (.lst (insL cb.l cv.l (p*44))) 84 44 true false)).get b=some (.cells cb' 84 44 false false):=by
       rw [AH.put_get hvn,qg oM];exact hgb
      obtain ⟨hS4,hP4,hw4⟩:=zvg1 hw3 hS3 hgb3 (by show H'.lo<=b;rw [hlo'];exact hlo)
      have hold:∀k,k<H.next->k≠b->H'.tree.get k=H.tree.get k:=fun k hk hkb=>by
       rw [hp'.old k (by rw [hnB];exact hk),hpB.old k hk hkb]
      have htree:∀k,((H.drop b).new (.cells (.lst (insL cb.l cv.l (p*44))) 84 44 true false)).tree.get k=((H'.put H.next (.cells (.lst (insL cb.l cv.l (p*44))) 84 44 true false)).drop b).tree.get k:=fun k=>by
       rw [zxt (HB:=H') hw hw2 hi hold oM k]
       show _=((H'.tree.set H.next _).set b .defd).get k
       rw [Tr.get_set,Tr.get_set];by_cases hk:k=H.next
       ·rw [qj hk,qg oM,qj hk]
       ·rw [qg hk]
        by_cases hk2:k=b
        ·rw [qj hk2,qj hk2]
        ·rw [qg hk2,qg hk2,qg hk]
         split
         ·rfl
         ·next hk3 =>
          cases hx:H'.tree.get k with
          |none=>rfl
          |some y=>exact absurd (hw2.tree k y hx) oM
      have hne:((H.drop b).new (.cells (.lst (insL cb.l cv.l (p*44))) 84 44 true false)).next=((H'.put H.next (.cells (.lst (insL cb.l cv.l (p*44))) 84 44 true false)).drop b).next:=hn'.symm;have hle:((H.drop b).new (.cells (.lst (insL cb.l cv.l (p*44))) 84 44 true false)).lo=((H'.put H.next (.cells (.lst (insL cb.l cv.l (p*44))) 84 44 true false)).drop b).lo:=hlo'.symm;have hhe:((H.drop b).new (.cells (.lst (insL cb.l cv.l (p*44))) 84 44 true false)).hide=((H'.put H.next (.cells (.lst (insL cb.l cv.l (p*44))) 84 44 true false)).drop b).hide:=hh.trans hh'.symm;have hze:((H.drop b).new (.cells (.lst (insL cb.l cv.l (p*44))) 84 44 true false)).fz=((H'.put H.next (.cells (.lst (insL cb.l cv.l (p*44))) 84 44 true false)).drop b).fz:=(hp'.fz.trans hzB).symm
      have hget:∀k,((H.drop b).new (.cells (.lst (insL cb.l cv.l (p*44))) 84 44 true false)).get k=((H'.put H.next (.cells (.lst (insL cb.l cv.l (p*44))) 84 44 true false)).drop b).get k:=fun k=>by
       unfold AH.get AH.vis;rw [hhe,htree]
      have hwd:(H.drop b).Wf:=AH.put_wf hw hi _;refine ⟨E1,fun E' hE=>hv E' fun k hk=>hE k (by rw [hne];exact hk),hS4.ext hne hget,(((hP1.trans hP2).trans hP3).trans hP4).ext2 hne hle hhe hze htree,AH.new_wf hwd _⟩
     ·-- room
      obtain ⟨x,hx⟩:∃x,x=(E b).extra:=⟨_,rfl⟩
      rw [← hx] at hrl hx0;have hus':StL E HB.next [.sl b 0 n (n+x) false,.int .i64 (p:Nat),.sl j q 1 c2 op2] us:=fun E' hE=>by
       rw [hus E' (by rw [hnB] at hE;exact hE)]
       have hei:E' b=E b:=hE b (by rw [hnB];exact hi)
       show [Value.slice (some ⟨(E' b).blk,(E' b).off+0,none⟩) n (n+(E' b).extra),_,_]= [Value.slice (some ⟨(E' b).blk,(E' b).off+0,none⟩) n (n+x+0),_,_]
       rw [hei,hx];rfl
      refine (fnN_of lookI_ok (zwt B) (insB HB b n p x j q c2 op2 cb.l rs cv cj ej zj opj hpn hx0 hlen hrl hbig hr hsB hcl hone hgjB hzj hq hjb (by rw [hnB];exact hi) (by rw [hnB];exact hj) hone2 (by rw [hlB];exact hlo) hhB) E w us hw1 hS1 hus').ok ?_
      rintro v' H' u w1 ⟨rfl,⟨cc,hg',hcc'⟩,hp',hn'⟩ ⟨E1,hv,hS2,hP2,hw2⟩;rw [hnB] at hn';have hh':H'.hide= []:=hp'.hide.trans hhB;have hlo':H'.lo=H.lo:=hp'.lo.trans hlB;have hei:E1 b=E b:=hP2.ext b (by rw [hnB];exact hi)
      obtain ⟨cs,e0,fz,a1,a2,a3⟩:=hS2.self.blk b _ hg';have hrlen:(rs.drop 44).length=(x - 1)*44:=by rw [qb2,hrl];omega
      have hmv:=zzg1 hw2 hS2 hg' rfl (by rw [hlo'];exact hlo) (.cells (.lst (insL cb.l cv.l (p*44))) 84 44 true false) (.cells cs e0 fz) ⟨(E1 b).blk,(E1 b).off,x - 1⟩ rfl (fun r hr=>by rw [a1] at hr;cases hr) (fun y off hy=>by rw [a1] at hy;cases hy;rfl) (fun E' hE hn=>by
       have hEb:E' b=E1 b:=hE b (by rw [hn'];exact hi)
       rw [zug a1];obtain ⟨ds,e2,fz2,k1,k2,k3⟩:=(hS2 E' hE).blk b _ hg';rw [hEb,a1] at k1;cases k1;obtain ⟨hf,hsz,_,hmk⟩:=k3 rfl;rw [hEb] at hsz k2;have hsz:cs.size=(E1 b).off+cc.l.length+0:=hsz;have hcl2:cc.l=insL cb.l cv.l (p*44) ++ rs.drop 44:=hcc';refine ⟨cs,e0,fz,by rw [hn];exact a1,fun k v hk=> ?_,fun _=>⟨hf,?_,fun _ k u hk hu=> ?_,hmk⟩⟩
       ·have hk:(insL cb.l cv.l (p*44))[k]? =some v:=hk
        rw [hn];refine k2 k v ?_;rw [hcl2,qr1 (qq.1 hk).1];exact hk
       ·rw [hsz,hcl2,qy,hn,hrlen]
        show _=(E1 b).off+(insL cb.l cv.l (p*44)).length+(x - 1)*44
        omega
       ·rw [hn] at hk
        have hk:(E1 b).off+(insL cb.l cv.l (p*44)).length<=k:=hk;have hlt:=(qn2.1 hu).1;rw [hsz,hcl2,qy] at hlt;obtain ⟨d,hd⟩:∃d,k=(E1 b).off+((insL cb.l cv.l (p*44)).length+d):=⟨k - (E1 b).off - (insL cb.l cv.l (p*44)).length,oM⟩
        have hdl:d<(rs.drop 44).length:=oM
        have hget:cc.l[(insL cb.l cv.l (p*44)).length+d]? =some ((rs.drop 44)[d]):=by
         rw [hcl2,qw1 oM]
         rw [show (insL cb.l cv.l (p*44)).length+d - (insL cb.l cv.l (p*44)).length=d from oM]
         exact qr hdl
        have h4:=k2 _ _ hget;rw [← hd,hu] at h4;refine ⟨(rs.drop 44)[d],fun E2=> ?_⟩
        have hfl:∀Ea Eb:Env,concL Ea (rs.drop 44)=concL Eb (rs.drop 44):=fun Ea Eb=>by
         have:=(hrE Ea).trans (hrE Eb).symm;rw [zkd,zkd] at this ⊢
         rw [qn5,qn5,this]
        have h5:=qj4 (fun l=>l[d]?) (hfl E2 E')
        simp only [zma?] at h5;rw [qr hdl] at h5;exact (qr3 h5).trans (qr3 h4).symm)
      rw [zug a1] at hmv;obtain ⟨hS3,hP3,hw3⟩:=hmv;have hold:∀k,k<H.next->k≠b->H'.tree.get k=H.tree.get k:=fun k hk hkb=>by
       rw [hp'.old k (by rw [hnB];exact hk) hkb,hpB.old k hk hkb]
      have htree:∀k,((H.drop b).new (.cells (.lst (insL cb.l cv.l (p*44))) 84 44 true false)).tree.get k=((H'.drop b).new (.cells (.lst (insL cb.l cv.l (p*44))) 84 44 true false)).tree.get k:=fun k=>by
       rw [zxt (HB:=H') hw hw2 hi hold oM k]
       show _=((H'.tree.set b .defd).set H'.next _).get k
       rw [Tr.get_set,Tr.get_set,hn'];split
       ·rfl
       ·split
        ·rfl
        ·split
         ·rfl
         ·next hk3 =>
          cases hx:H'.tree.get k with
          |none=>rfl
          |some y=>exact absurd (hw2.tree k y hx) oM
      have hne:((H.drop b).new (.cells (.lst (insL cb.l cv.l (p*44))) 84 44 true false)).next=((H'.drop b).new (.cells (.lst (insL cb.l cv.l (p*44))) 84 44 true false)).next:=by
       show H.next+1=H'.next+1
       rw [hn']
      have hle:((H.drop b).new (.cells (.lst (insL cb.l cv.l (p*44))) 84 44 true false)).lo=((H'.drop b).new (.cells (.lst (insL cb.l cv.l (p*44))) 84 44 true false)).lo:=hlo'.symm;have hhe:((H.drop b).new (.cells (.lst (insL cb.l cv.l (p*44))) 84 44 true false)).hide=((H'.drop b).new (.cells (.lst (insL cb.l cv.l (p*44))) 84 44 true false)).hide:=hh.trans hh'.symm;have hze:((H.drop b).new (.cells (.lst (insL cb.l cv.l (p*44))) 84 44 true false)).fz=((H'.drop b).new (.cells (.lst (insL cb.l cv.l (p*44))) 84 44 true false)).fz:=(hp'.fz.trans hzB).symm;have hget:∀k,((H.drop b).new (.cells (.lst (insL cb.l cv.l (p*44))) 84 44 true false)).get k=((H'.drop b).new (.cells (.lst (insL cb.l cv.l (p*44))) 84 44 true false)).get k:=fun k=>by
       unfold AH.get AH.vis;rw [hhe,htree]
      have hwd:(H.drop b).Wf:=AH.put_wf hw hi _;refine ⟨_,fun E' hE=> ?_,hS3.ext hne hget,((hP1.trans hP2).trans hP3).ext2 hne hle hhe hze htree,AH.new_wf hwd _⟩
      have hE2:Agree (H'.next+1) (E1.add H'.next ⟨(E1 b).blk,(E1 b).off,x - 1⟩) E':=fun k hk=>hE k (by rw [hne];exact hk)
      have hEn:E' H.next=⟨(E1 b).blk,(E1 b).off,x - 1⟩:=by
       rw [← hn'];exact (hE2 H'.next (qc1 _)).trans (Env.add_self _ _ _)
      rw [hv E1 (Agree.refl _ _)];show Value.slice (some ⟨(E1 b).blk,(E1 b).off+0,none⟩) (n+1) (n+x+0)=Value.slice (some ⟨(E' H.next).blk,(E' H.next).off+0,none⟩) (n+1) (n+1+(E' H.next).extra)
      rw [hEn];show Value.slice (some ⟨(E1 b).blk,(E1 b).off+0,none⟩) (n+1) (n+x+0)=Value.slice (some ⟨(E1 b).blk,(E1 b).off+0,none⟩) (n+1) (n+1+(x - 1))
      rw [show n+x+0=n+1+(x - 1) from oM]
    ·cases hp
   ·cases hp
  ·cases hp
 ·cases hp
end HS.Ins
namespace HS
set_option maxRecDepth 100000
theorem bIx:Bare Tryz.prog 105 Extern.BytealgIndexByte.indexByte:=⟨Tryz.f105,Tryz.func105,kR,kR,kR,kR⟩
theorem bCm:Bare Tryz.prog 197 Extern.BytealgCompare.compare:=⟨Tryz.f197,Tryz.func197,kR,kR,kR,kR⟩
theorem bMc:Bare Tryz.prog 69 Extern.MapsClone.clone:=⟨Tryz.f69,Tryz.func69,kR,kR,kR,kR⟩
def tabJ:List (Nat×XFn):= [(105,zwh),(197,zpn),(69,zuj),(175,HS.Ins.xInsert)]
def zlM:List (Nat×Nat):= [(89,256),(90,16384),(91,16384),(100,16384)]
theorem zsi1 (B:Nat):∀p∈tabJ,XOk Tryz.prog B p.1 p.2:=by
 intro p hp;simp only [tabJ,qe1,qv4,qk6] at hp;rcases hp with rfl|rfl|rfl|rfl
 ·have h:= @zmp Tryz.prog B _ bIx;exact h
 ·have h:= @zgw Tryz.prog B _ bCm;exact h
 ·have h:= @zir Tryz.prog B _ bMc;exact h
 ·have h:=HS.Ins.xInsert_ok B;exact h
def lookJ:Lk:=lkZ Tryz.prog (Tr.ofList Tryz.prog.funcs.toList) (Tr.ofList Tryz.prog.types.toList) tabJ zlM
theorem zmm1:LOk lookJ Tryz.prog:=zvl1 kR kR kR
theorem zxe1 (B:Nat):ExtOk lookJ Tryz.prog B:=zon (zsi1 B)
theorem saysA:zin (evF lookJ 1000000 (.call 8 [] H0))=true:=kR
def tabM:List (Nat×XFn):=(8,xTrue)::tabJ
theorem tabM_ok (B:Nat):∀p∈tabM,XOk Tryz.prog B p.1 p.2:=by
 intro p hp;rcases qe1.1 hp with rfl|hp
 ·exact zyl1 zmm1 zxe1 (by rw [← zul1];exact saysA)
 ·exact zsi1 B p hp
def lookM:Lk:=lkZ Tryz.prog (Tr.ofList Tryz.prog.funcs.toList) (Tr.ofList Tryz.prog.types.toList) tabM zlM
theorem znm1:LOk lookM Tryz.prog:=zvl1 kR kR kR
theorem zye1 (B:Nat):ExtOk lookM Tryz.prog B:=zon (tabM_ok B)
end HS
end
