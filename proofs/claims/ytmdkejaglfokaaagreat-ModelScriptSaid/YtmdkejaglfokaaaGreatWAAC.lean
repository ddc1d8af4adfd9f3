import Derived.Test.YtmdkejaglfokaaaGreatWAAB
import Derived.OrdersIn
import Derived.LoopNIn
noncomputable section
set_option maxHeartbeats 8000000
set_option linter.unusedSimpArgs false
set_option linter.unusedVariables false
namespace Go.Ev
theorem zzx (T:Tr AV) (t:Nat):opnd T (.tmp t)=some (getT T t):=by
 show (match T.get t with|some v=>some v|none=>some AV.undef)=_
 unfold getT;cases T.get t<;>rfl
theorem zay {T T':Tr AV}(x:Operand) (h:∀t,x= .tmp t->getT T t=getT T' t):opnd T x=opnd T' x:=by
 cases x with
 |tmp t=>rw [zzx,zzx,h t rfl]
 |_=>rfl
theorem zuc1 {l:List Operand}{t:Nat}(h:Operand.tmp t∈l):t∈opdTs l:=by
 induction l with
 |nil=>cases h
 |cons x l ih =>
  show t∈(match x with| .tmp t=>t::opdTs l|_=>opdTs l)
  rcases qg1.1 h with rfl|h2
  ·exact qq1
  ·cases x with
   |tmp s=>exact qj1 _ (ih h2)
   |const v=>exact ih h2
   |global g=>exact ih h2
   |func f=>exact ih h2
theorem zhk {α β:Type}{f g:α->Option β}{l:List α}(h:∀a∈l,f a=g a):mapO f l=mapO g l:=by
 induction l with
 |nil=>rfl
 |cons a l ih =>
  show obind (f a) (fun b=>obind (mapO f l) fun bs=>some (b::bs))=obind (g a) (fun b=>obind (mapO g l) fun bs=>some (b::bs))
  rw [h a (by simp),ih fun a ha=>h a (by simp [ha])]
theorem zby {L:Lk}{T T':Tr AV}{o:Oper}{H:AH}(h:∀t∈opdTs (ztg o.op),getT T t=getT T' t):evOp L T o H=evOp L T' o H:=by
 have hx:∀x∈ztg o.op,opnd T x=opnd T' x:=fun x hx=>zay x fun t ht=>h t (zuc1 (ht▸hx))
 have hl:∀l:List Operand,(∀x∈l,x∈ztg o.op)->mapO (opnd T) l=mapO (opnd T') l:=fun l hl=>zhk fun a ha=>hx a (hl a ha)
 unfold evOp;generalize ho:o.op=op at *
 cases op with
 |build t ps =>
  simp only;rw [zhk fun (p:Nat×Operand) hp=>by rw [hx p.2 (qy2.2 ⟨p,hp,rfl⟩)]]
 |buildSlice t n ps =>
  simp only;rw [zhk fun (p:Nat×Operand) hp=>by rw [hx p.2 (qy2.2 ⟨p,hp,rfl⟩)]]
 |makeFunc fn a b =>
  simp only [opnds];rw [hl a.toList fun x hx=>List.mem_append_left _ hx,hl b.toList fun x hx=>List.mem_append_right _ hx]
 |slice t x lo hi mx =>
  simp only;rw [hx x (by simp [ztg]),hl lo.toList fun y hy=>by simp only [ztg,qg1,qp2];exact .inr (.inl hy),
   hl hi.toList fun y hy=>by simp only [ztg,qg1,qp2];exact .inr (.inr (.inl hy)),
   hl mx.toList fun y hy=>by simp only [ztg,qg1,qp2];exact .inr (.inr (.inr hy))]
 |call c =>
  simp only [opnds];obtain ⟨callee,args,ats⟩:=c;cases callee with
  |builtin b=>simp only;rw [hl args.toList fun x hx=>hx]
  |value f =>
   simp only;rw [hl args.toList fun x hx=>qj1 _ hx,hx f (by simp [ztg])]
  |invoke r m =>
   simp only;rw [hl args.toList fun x hx=>qj1 _ hx,hx r (by simp [ztg])]
 |_=>simp only [ztg,qg1,qf5,qj7,forall_eq_or_imp,forall_eq,implies_true] at hx<;>simp only [hx]
def Sub (H H':AH):Prop:= ∀i b,H.get i=some b->H'.get i=some b
theorem Sub.row {H H':AH}(hs:Sub H H'){i:Nat}{vs:List AV}(h:H.row i=some vs):H'.row i=some vs:=by
 unfold AH.row at *
 cases hg:H.get i with
 |none=>rw [hg] at h;cases h
 |some b=>rw [hg] at h;rw [hs i b hg];exact h
theorem Sub.subC {H H':AH}(hs:Sub H H'){i o n:Nat}{l:Ce}(h:H.subC i o n=some l):H'.subC i o n=some l:=by
 unfold AH.subC at h ⊢
 cases hg:H.get i with
 |none=>rw [hg] at h;cases h
 |some b=>rw [hs i b hg];rw [hg] at h;exact h
theorem Sub.read1 {H H':AH}(hs:Sub H H'){i o:Nat}{l:AV}(h:H.read1 i o=some l):H'.read1 i o=some l:=by
 unfold AH.read1 at *
 cases hg:H.row i with
 |none=>rw [hg] at h;cases h
 |some b=>rw [hg] at h;rw [hs.row hg];exact h
theorem Sub.load {L:Lk}{H H':AH}(hs:Sub H H'){t:TypeId}{a v:AV}(h:zub L t a H=some v):zub L t a H'=some v:=by
 unfold zub at *
 split at h
 ·split at h
  ·split at h
   ·split at h
    ·next hr=>rw [hs.subC hr];exact h
    ·cases h
   ·cases h
  ·exact hs.read1 h
  ·cases h
 ·cases h
theorem Sub.loadG {L:Lk}{H H':AH}(hs:Sub H H'){t:TypeId}{a v:AV}(h:zwe L t a H=some v):zwe L t a H'=some v:=by
 unfold zwe at *
 split at h
 ·split at h
  ·unfold ldG at *
   split at h
   ·split at h
    ·next hg=>rw [hs _ _ hg];exact h
    ·cases h
   ·cases h
  ·cases h
 ·exact hs.load h
theorem Sub.lookup {L:Lk}{H H':AH}(hs:Sub H H'){t:TypeId}{x k v:AV}{ok:Bool}(h:zob L t x k ok H=some v):zob L t x k ok H'=some v:=by
 unfold zob at *
 split at h
 ·split at h
  ·cases x with
   |map i =>
    simp only at h ⊢
    cases hg:H.get i with
    |none=>rw [hg] at h;cases h
    |some b=>rw [hg] at h;rw [hs i b hg];exact h
   |_=>exact h
  ·cases h
 ·cases h
theorem Sub.len {L:Lk}{H H':AH}(hs:Sub H H'){t:TypeId}{x v:AV}(h:evLen L t x H=some v):evLen L t x H'=some v:=by
 unfold evLen at *
 split at h
 ·exact h
 ·exact h
 ·exact h
 ·exact h
 ·cases x with
  |map i =>
   simp only at h ⊢
   cases hg:H.get i with
   |none=>rw [hg] at h;cases h
   |some b=>rw [hg] at h;rw [hs i b hg];exact h
  |_=>exact h
 ·cases x with
  |ext k i o =>
   simp only at h ⊢
   cases hk:Nat.beq k 1 && Nat.beq o 0 with
   |false=>rw [hk] at h;cases h
   |true =>
    rw [hk] at h;simp only at h ⊢
    cases hg:H.get i with
    |none=>rw [hg] at h;cases h
    |some b=>rw [hg] at h;rw [hs i b hg];exact h
  |_=>exact h
 ·cases h
theorem len_any {L:Lk}{H H':AH}{t:TypeId}{x v:AV}(ht:∀k e,L.under t≠some (.map k e)) (hc:∀k e,L.under t≠some (.chan k e)) (h:evLen L t x H=some v):evLen L t x H'=some v:=by
 unfold evLen at *
 split at h<;>first
  |exact h
  |(next hm=>exact absurd hm (ht _ _))
  |(next hm=>exact absurd hm (hc _ _))
  |cases h
theorem zlv {L:Lk}{b:Builtin}{ts:List TypeId}{args:List AV}{H:AH}{p:AV×AH}(hb:b= .cap\/b= .min\/b= .max) (h:zqb L b ts args H=some p) :
  p.2=H/\ ∀H',zqb L b ts args H'=some (p.1,H'):=by
 rcases hb with rfl|rfl|rfl<;>unfold zqb at* <;>simp only at h ⊢ <;>split at h<;>first|(cases h;done)|(split at h<;>first|(cases h;done)|(cases h;exact ⟨rfl,fun _=>rfl⟩))
theorem ztl {L:Lk}{ts:List TypeId}{args:List AV}{H:AH}{p:AV×AH}(h:zqb L .len ts args H=some p) :
  ∃t ts' x as',ts=t::ts'/\args=x::as'/\evLen L t x H=some p.1/\p.2=H:=by
 unfold zqb at h;simp only at h;split at h
 ·split at h
  ·next hl=>cases h;exact ⟨_,_,_,_,rfl,rfl,hl,rfl⟩
  ·cases h
 ·cases h
theorem zcy {L:Lk}{T:Tr AV}{o:Oper}{H:AH}{nx:Next1}(hp:zal L o.op=true) (h:evOp L T o H=some nx) :
  ∃v,nx= .val v H/\ ∀H',evOp L T o H'=some (.val v H'):=by
 unfold evOp at h ⊢
 generalize ho:o.op=op at *
 have key:∀x:Option AV,val1 x H=some nx-> ∃v,nx= .val v H/\ ∀H',val1 x H'=some (.val v H'):=by
  intro x hx;unfold val1 at hx;split at hx
  ·next v=>cases hx;exact ⟨v,rfl,fun _=>rfl⟩
  ·cases hx
 cases op with
 |sliceToArrayPointer t x=>cases h
 |convert s d x =>
  simp only at h ⊢
  simp only [zal] at hp;split at hp
  ·next ks kd hs hd =>
   split at h
   ·next v hv =>
    have hc:∀H',zmb L s d v H'=(match (generalizing:=false) v with| .int _ n=>some (.int kd (fwrap kd n),H')|_=>none):=fun H'=>by
     unfold zmb;simp only [hs,hd];cases v<;>rfl
    rw [hc] at h;cases v with
    |int k n =>
     cases h
     exact ⟨_,rfl,fun H'=>by rw [hc];rfl⟩
    |_=>cases h
   ·cases h
  ·cases hp
 |call c =>
  obtain ⟨callee,args,ats⟩:=c;cases callee with
  |builtin b =>
   simp only at h ⊢
   split at h
   ·cases h
   ·next as has =>
    unfold val2 at h;split at h
    ·next p hb =>
     cases h
     have fin:(b= .cap\/b= .min\/b= .max)-> ∃v,Next1.val p.1 p.2= .val v H/\ ∀H',val2 (zqb L b ats.toList as H')=some (.val v H'):=fun hc=>by
      obtain ⟨h1,h2⟩:=zlv hc hb;exact ⟨p.1,by rw [h1],fun H'=>by rw [h2 H'];rfl⟩
     cases b with
     |len =>
      obtain ⟨t,ts',x,as',e1,e2,hl,e3⟩:=ztl hb;refine ⟨p.1,by rw [e3],fun H'=> ?_⟩
      simp only [zal,e1] at hp;have:evLen L t x H'=some p.1:=len_any (fun k e hk=>by rw [hk] at hp;cases hp) (fun k e hk=>by rw [hk] at hp;cases hp) hl
      rw [e1,e2];unfold zqb;simp only [this];rfl
     |cap=>exact fin (.inl rfl)
     |min=>exact fin (.inr (.inl rfl))
     |max=>exact fin (.inr (.inr rfl))
     |_=>cases hp
    ·cases h
  |_=>cases hp
 |_=>first
  |(cases hp;done)
  |(simp only at h ⊢;exact key _ h)
  |(simp only at h ⊢;split at h<;>first|(cases h;done)|exact key _ h|(cases h;exact ⟨_,rfl,fun _=>rfl⟩))
theorem zdy {L:Lk}{T:Tr AV}{o:Oper}{H:AH}{nx:Next1}(hp:zsj o.op=true) (h:evOp L T o H=some nx) :
  ∃v,nx= .val v H/\ ∀H',Sub H H'->evOp L T o H'=some (.val v H'):=by
 unfold evOp at h ⊢
 generalize ho:o.op=op at *
 cases op with
 |load t x =>
  simp only at h ⊢
  split at h
  ·unfold val1 at h
   split at h
   ·next v hv=>cases h;exact ⟨v,rfl,fun H' hs=>by rw [hs.loadG hv];rfl⟩
   ·cases h
  ·cases h
 |lookup t x k ok =>
  simp only at h ⊢
  split at h
  ·unfold val1 at h
   split at h
   ·next v hv=>cases h;exact ⟨v,rfl,fun H' hs=>by rw [hs.lookup hv];rfl⟩
   ·cases h
  ·cases h
 |call c =>
  obtain ⟨callee,args,ats⟩:=c;cases callee with
  |builtin b =>
   cases b with
   |len =>
    simp only at h ⊢
    split at h
    ·cases h
    ·next as has =>
     unfold val2 at h;split at h
     ·next p hb =>
      cases h
      obtain ⟨t,ts',x,as',e1,e2,hl,e3⟩:=ztl hb;refine ⟨p.1,by rw [e3],fun H' hs=> ?_⟩
      have:=hs.len hl;rw [e1,e2];unfold zqb;simp only [this];rfl
     ·cases h
   |_=>cases hp
  |_=>cases hp
 |_=>cases hp
def zwo (all:List Oper) (D:Nat->Bool):Prop:= ∀i o,all[i]? =some o->D i=true-> ∀e∈o.after.toList,Region.binds .any e=true->D e.on=true
def Deps (o:Oper) (D:Nat->Bool):Prop:= ∀e∈o.after.toList,Region.binds .any e=true->D e.on=true
theorem zqq {o:Oper}{pre:List Ent}{j:Nat}(h:Nat.testBit (ancs o pre) j=true):∃e∈o.after.toList,Region.binds .any e=true/\(e.on=j\/Nat.testBit (ancOf pre e.on) j=true):=by
 unfold ancs at h;generalize o.after.toList=l at *
 induction l with
 |nil=>exact absurd h (by simp [lrec])
 |cons e l ih =>
  rw [zta] at h;split at h
  ·next hb =>
   have h:Nat.testBit (((1 <<< e.on) ||| ancOf pre e.on) ||| _) j=true:=h;rw [qc7,qc7,qa5,qa5] at h;rcases h with (h|h)|h
   ·refine ⟨e,by simp,hb,.inl ?_⟩
    rw [Nat.testBit_shiftLeft] at h;simp only [qm,qs,Nat.testBit_one_eq_true_iff_self_eq_zero] at h;omega
   ·exact ⟨e,by simp,hb,.inr h⟩
   ·obtain ⟨e',he',h'⟩:=ih h
    exact ⟨e',by simp [he'],h'⟩
  ·obtain ⟨e',he',h'⟩:=ih h
   exact ⟨e',by simp [he'],h'⟩
theorem zvc1 {pre:List Ent}{i j:Nat}(h:Nat.testBit (ancOf pre i) j=true):∃y∈pre,y.1=i/\Nat.testBit y.2.1 j=true:=by
 induction pre with
 |nil=>exact absurd h (by simp [ancOf,lrec])
 |cons y pre ih =>
  unfold ancOf at h;rw [zta] at h;split at h
  ·next hb=>exact ⟨y,by simp,qf hb,h⟩
  ·obtain ⟨y',h1,h2⟩:=ih h
   exact ⟨y',by simp [h1],h2⟩
def AncP (all:List Oper) (x:Ent):Prop:= ∀D,zwo all D->Deps x.2.2 D-> ∀j,Nat.testBit x.2.1 j=true->D j=true
theorem ancs_ok {all:List Oper}{pre:List Ent}(hpre:∀y∈pre,all[y.1]? =some y.2.2/\AncP all y){i:Nat}{o:Oper}:AncP all (i,ancs o pre,o):=by
 intro D hD hdep j hj;obtain ⟨e,he,hb,h⟩:=zqq hj;have hde:=hdep e he hb;rcases h with rfl|h
 ·exact hde
 ·obtain ⟨y,hy,hye,hyj⟩:=zvc1 h
  obtain ⟨h1,h2⟩:=hpre y hy;exact h2 D hD (fun e' he' hb'=>hD y.1 y.2.2 h1 (hye▸hde) e' he' hb') j hyj
structure OkPair (L:Lk) (all:List Oper) (y x:Ent):Prop where
 ne:y.1≠x.1
 apart:Nat.testBit x.2.1 y.1=false->clash all y.2.2 x.2.2=false
 mem:Nat.testBit x.2.1 y.1=false->zja L y.2.2=true->zxg L x.2.2=true\/zpd L x.2.2=true
theorem okAt_ok {L:Lk}{all:List Oper}{x:Ent}{pre:List Ent}(h:okAt L all x pre=true):∀y∈pre,OkPair L all y x:=by
 induction pre with
 |nil=>intro y hy;cases hy
 |cons z pre ih =>
  unfold okAt at h;rw [zta,qm] at h;intro y hy;rcases qg1.1 hy with rfl|hy
  ·obtain ⟨h1,_⟩:=h
   split at h1
   ·cases h1
   ·next hne =>
    refine ⟨qz4 hne,fun hf=> ?_,fun hf hh=> ?_⟩
    ·rw [hf] at h1
     simp only [qm,qm4] at h1;exact h1.1
    ·rw [hf] at h1
     simp only [qm,qm4,hh,qn3,qr5,qa5] at h1;exact h1.2
  ·exact ih h.2 y hy
theorem zwc1 {o:Oper}{pre:List Ent}(h:zbc1 o pre=true):∀e∈o.after.toList,Region.binds .any e=true-> ∃y∈pre,y.1=e.on:=by
 unfold zbc1 at h;generalize o.after.toList=l at *
 induction l with
 |nil=>intro e he;cases he
 |cons z l ih =>
  rw [zta] at h;intro e he hb;rcases qg1.1 he with rfl|he
  ·rw [hb] at h
   simp only [qm,qw3] at h;obtain ⟨⟨y,hy,hyb⟩,_⟩:=h;exact ⟨y,hy,qf hyb⟩
  ·split at h
   ·simp only [qm] at h
    exact ih h.2 e he hb
   ·exact ih h e he hb
theorem has_no {l:List Nat}{t:Nat}(h:has l t=false):t ∉ l:=by
 induction l with
 |nil=>exact fun h=>nomatch h
 |cons x l ih =>
  unfold has at h;rw [zta] at h;split at h
  ·cases h
  ·next hx =>
   intro hm;rcases qg1.1 hm with rfl|hm
   ·rw [qt2] at hx;cases hx
   ·exact ih h hm
theorem zxc1 {L:Lk}{x:Ent}(pre:List Ent):∀ds,zmk1 L x pre ds=false-> ∀p1 y p2,pre=p1 ++ y::p2->zyc L y.2.2=true->Nat.testBit x.2.1 y.1=false->False:=by
 induction pre with
 |nil=>intro ds _ p1 y p2 h;simp at h
 |cons z pre ih =>
  intro ds h p1 y p2 he hr hb;unfold zmk1 at h;rw [zta] at h;cases p1 with
  |nil =>
   simp only [qm1,qb3] at he;obtain ⟨rfl,rfl⟩:=he;rw [hr,hb] at h;cases h
  |cons q p1 =>
   simp only [qn2,qb3] at he;obtain ⟨rfl,rfl⟩:=he;split at h
   ·exact ih _ h p1 y p2 rfl hr hb
   ·cases h
theorem zyc1 {pl:List Ent}{n:Nat}(h:znk1 pl n=true):∀i,i<n-> ∃y∈pl,y.1=i:=by
 induction n with
 |zero=>intro i hi;omega
 |succ n ih =>
  have h':((pl.any fun y=>Nat.beq y.1 n) && znk1 pl n)=true:=h
  rw [qm,qw3] at h';obtain ⟨⟨y,hy,hyb⟩,h2⟩:=h';intro i hi;by_cases he:i=n
  ·subst he;exact ⟨y,hy,qf hyb⟩
  ·exact ih h2 i oM
theorem zhl1 {o:Oper}{pre:List Ent}:∀e∈o.after.toList,Region.binds .any e=true->Nat.testBit (ancs o pre) e.on=true:=by
 unfold ancs;generalize o.after.toList=l
 induction l with
 |nil=>intro e he;cases he
 |cons z l ih =>
  intro e he hb;rw [zta];rcases qg1.1 he with rfl|he
  ·rw [hb]
   show Nat.testBit (((1 <<< e.on) ||| ancOf pre e.on) ||| _) e.on=true
   rw [qc7,qc7,Nat.testBit_shiftLeft];simp
  ·split
   ·show Nat.testBit (((1 <<< z.on) ||| ancOf pre z.on) ||| _) e.on=true
    rw [qc7,ih e he hb,Bool.or_true]
   ·exact ih e he hb
theorem flOk_ok {L:Lk}{x:Ent}{pre:List Ent}(h:flOk L x pre=true):∀p1 y p2,pre=p1 ++ y::p2->zpd L y.2.2=true->Nat.testBit x.2.1 y.1=true-> ∀z∈p2,zja L z.2.2=true->Nat.testBit x.2.1 z.1=true:=by
 induction pre with
 |nil=>intro p1 y p2 he;simp at he
 |cons q pre ih =>
  unfold flOk at h;rw [zta,qm] at h;intro p1 y p2 he hf hb z hz hh;cases p1 with
  |nil =>
   simp only [qm1,qb3] at he;obtain ⟨rfl,rfl⟩:=he;have h1:=h.1;rw [hf,hb] at h1;simp only [qr2] at h1;have:=qb1.1 h1 z hz;rw [hh] at this
   simpa using this
  |cons r p1 =>
   simp only [qn2,qb3] at he;obtain ⟨rfl,rfl⟩:=he;exact ih h.2 p1 y p2 rfl hf hb z hz hh
structure Stp where
 x:Ent
 pre:List Ent
 T:Tr AV
 H:AH
 v:AV
 H':AH
def StepOk (L:Lk) (rec:Rec) (all:List Oper) (s:Stp):Prop :=
 (zac all s.T s.x.2.2=false/\(s.v= .undef/\s.H'=s.H)/\loose L s.x s.pre=false) \/
 (zac all s.T s.x.2.2=true /\
  ((zja L s.x.2.2=false/\(∃H2,zwa L rec s.T s.x.2.2 s.H=some (s.v,H2))/\s.H'=s.H) \/
   (zja L s.x.2.2=true/\zeh L s.x s.pre=false/\zwa L rec s.T s.x.2.2 s.H=some (s.v,s.H')) \/
   (zja L s.x.2.2=true/\far L s.T s.x s.pre=true/\zwa L rec s.T s.x.2.2 s.H=some (s.v,s.H')) \/
   (zja L s.x.2.2=true/\zeh L s.x s.pre=true/\zfd L rec s.T s.x s.pre s.H=some (s.v,s.H'))))
inductive Chain (L:Lk) (rec:Rec) (all:List Oper):List Ent->Tr AV->AH->List Stp->Tr AV->AH->Prop where
 |nil (pre T H):Chain L rec all pre T H [] T H
 |cons {s:Stp}{ss:List Stp}{T1:Tr AV}{H1:AH}(h:StepOk L rec all s) (hr:Chain L rec all (s.x::s.pre) (putT s.T s.x.2.2.dst s.v) s.H' ss T1 H1):Chain L rec all s.pre s.T s.H (s::ss) T1 H1
theorem zrq {L:Lk}{rec:Rec}{all:List Oper}(pl:List Ent):∀(pre:List Ent) (T:Tr AV) (H:AH) (T1:Tr AV) (H1:AH),ztj L rec all pl pre T H=some (T1,H1) ->
  ∃ss:List Stp,ss.map (·.x)=pl/\Chain L rec all pre T H ss T1 H1:=by
 induction pl with
 |nil=>intro pre T H T1 H1 h;cases h;exact ⟨[],rfl,.nil _ _ _⟩
 |cons x pl ih =>
  intro pre T H T1 H1 h;unfold ztj at h;rw [zta] at h;have fin:∀v H',StepOk L rec all ⟨x,pre,T,H,v,H'⟩->ztj L rec all pl (x::pre) (putT T x.2.2.dst v) H'=some (T1,H1)-> ∃ss:List Stp,ss.map (·.x)=x::pl/\Chain L rec all pre T H ss T1 H1:=by
   intro v H' hs he;obtain ⟨ss,e1,e2⟩:=ih _ _ _ _ _ he;exact ⟨⟨x,pre,T,H,v,H'⟩::ss,by simp [e1],.cons (s:=⟨x,pre,T,H,v,H'⟩) hs e2⟩
  split at h
  ·next hw =>
   split at h
   ·cases h
   ·next hlo=>exact fin _ _ (.inl ⟨hw,⟨rfl,rfl⟩,hlo⟩) h
  ·next hw =>
   split at h
   ·next hh =>
    split at h
    ·next r hr=>exact fin _ _ (.inr ⟨hw,.inl ⟨hh,⟨r.2,hr⟩,rfl⟩⟩) h
    ·cases h
   ·next hh =>
    split at h
    ·next hwt =>
     split at h
     ·next r hr=>exact fin _ _ (.inr ⟨hw,.inr (.inl ⟨hh,hwt,hr⟩)⟩) h
     ·cases h
    ·next hwt =>
     split at h
     ·next hf =>
      split at h
      ·next r hr=>exact fin _ _ (.inr ⟨hw,.inr (.inr (.inl ⟨hh,hf,hr⟩))⟩) h
      ·cases h
     ·split at h
      ·next r hr=>exact fin _ _ (.inr ⟨hw,.inr (.inr (.inr ⟨hh,hwt,hr⟩))⟩) h
      ·cases h
structure Known1 (L:Lk) (rec:Rec) (all:List Oper) (s:Stp):Prop where
 step:StepOk L rec all s
 op:all[s.x.1]? =some s.x.2.2
 anc:AncP all s.x
 bits:s.x.2.1=ancs s.x.2.2 s.pre
 fl:flOk L s.x s.pre=true
structure Known2 (L:Lk) (all:List Oper) (y s:Stp):Prop where
 pair:OkPair L all y.x s.x
theorem zmv {L:Lk}{rec:Rec}{all:List Oper}(l:List Nat):∀(pre:List Ent) (pl:List Ent) (T:Tr AV) (H:AH) (ss:List Stp) (T1:Tr AV) (H1:AH),annot L all l pre=some pl->ss.map (·.x)=pl->Chain L rec all pre T H ss T1 H1 ->
  (∀y∈pre,all[y.1]? =some y.2.2/\AncP all y) ->
  (∀s∈ss,Known1 L rec all s)/\ss.Pairwise (Known2 L all)/\(∀s∈ss,∀y∈pre,OkPair L all y s.x) /\
  (∀a s b,ss=a ++ s::b-> ∀e∈s.x.2.2.after.toList,Region.binds .any e=true->(∃y∈pre,y.1=e.on)\/ ∃y∈a,y.x.1=e.on):=by
 induction l with
 |nil =>
  intro pre pl T H ss T1 H1 ha hm hc _;cases ha;have:ss= []:=qn6.1 hm;subst this;exact ⟨fun _ h=>(nomatch h),.nil,fun _ h=>(nomatch h),fun a s b h=>by simp at h⟩
 |cons i l ih =>
  intro pre pl T H ss T1 H1 ha hm hc hpre;unfold annot at ha;rw [zta] at ha;split at ha
  ·cases ha
  ·next o ho =>
   rw [zug] at ho;split at ha
   ·next hok =>
    rw [qm,qm] at hok;obtain ⟨hok,hflo⟩:=hok;split at ha
    ·next r hr =>
     cases ha
     cases hc with
     |nil=>simp at hm
     |cons h hrest =>
      next s ss =>
      simp only [qp1,qb3] at hm;obtain ⟨hx,hm⟩:=hm;have hop:all[s.x.1]? =some s.x.2.2:=by rw [hx];exact ho
      have hanc:AncP all s.x:=by rw [hx];exact ancs_ok hpre
      have hpair:∀y∈s.pre,OkPair L all y s.x:=by
       have:=hok.2;rw [← hx] at this;exact okAt_ok this
      have hdep:zbc1 s.x.2.2 s.pre=true:=by rw [hx];exact hok.1
      rw [← hx] at hr;obtain ⟨k1,k2,k3,k4⟩:=ih (s.x::s.pre) r _ _ ss T1 H1 hr hm hrest (fun y hy=>by
       rcases qg1.1 hy with rfl|hy
       ·exact ⟨hop,hanc⟩
       ·exact hpre y hy)
      have hfl:flOk L s.x s.pre=true:=by rw [hx];exact hflo
      have hbits:s.x.2.1=ancs s.x.2.2 s.pre:=by rw [hx]
      refine ⟨fun s' hs'=> ?_,?_,fun s' hs' y hy=> ?_,fun a s' b hab=> ?_⟩
      ·rcases qg1.1 hs' with rfl|hs'
       ·exact ⟨h,hop,hanc,hbits,hfl⟩
       ·exact k1 s' hs'
      ·refine qw6.2 ⟨fun s' hs'=> ?_,k2⟩
       have:=k3 s' hs' s.x (by simp)
       exact ⟨this⟩
      ·rcases qg1.1 hs' with rfl|hs'
       ·exact hpair y hy
       ·exact k3 s' hs' y (by simp [hy])
      ·intro e he hb
       cases a with
       |nil =>
        simp only [qm1,qb3] at hab;obtain ⟨rfl,rfl⟩:=hab;exact .inl (zwc1 hdep e he hb)
       |cons z a =>
        simp only [qn2,qb3] at hab;obtain ⟨rfl,hab⟩:=hab;rcases k4 a s' b hab e he hb with ⟨y,hy,hye⟩|⟨y,hy,hye⟩
        ·rcases qg1.1 hy with rfl|hy
         ·exact .inr ⟨s,by simp,hye⟩
         ·exact .inl ⟨y,hy,hye⟩
        ·exact .inr ⟨y,by simp [hy],hye⟩
    ·cases ha
   ·cases ha
def TD (D:Nat->Bool):List Stp->Tr AV->Tr AV
 | [],T=>T
 |s::ss,T=>TD D ss (if D s.x.1=true then putT T s.x.2.2.dst s.v else T)
def HD (L:Lk) (D:Nat->Bool):List Stp->AH->AH
 | [],H=>H
 |s::ss,H=>HD L D ss (if D s.x.1=true/\zja L s.x.2.2=true then s.H' else H)
abbrev tt:Nat->Bool:=fun _=>true
theorem zld (T:Tr AV) (d:Option Tmp) (v:AV) (t:Nat):getT (putT T d v) t=if d=some t then v else getT T t:=by
 cases d with
 |none=>simp [putT]
 |some d =>
  show getT (T.set d v) t=_
  rw [zlm];by_cases h:t=d
  ·subst h;simp
  ·rw [qd h,qd (by simp;exact fun e=>h e.symm)]
theorem zkj (D:Nat->Bool) (a b:List Stp):∀T,TD D (a ++ b) T=TD D b (TD D a T):=by
 induction a with
 |nil=>intro T;rfl
 |cons s a ih=>intro T;exact ih _
theorem zan (L:Lk) (D:Nat->Bool) (a b:List Stp):∀T,HD L D (a ++ b) T=HD L D b (HD L D a T):=by
 induction a with
 |nil=>intro T;rfl
 |cons s a ih=>intro T;exact ih _
theorem zih1 {D D':Nat->Bool}{t:Nat}(ss:List Stp):∀(T T':Tr AV),(∀s∈ss,D s.x.1≠D' s.x.1->s.x.2.2.dst≠some t)->getT T t=getT T' t->getT (TD D ss T) t=getT (TD D' ss T') t:=by
 induction ss with
 |nil=>intro T T' _ h;exact h
 |cons s ss ih =>
  intro T T' hs h;refine ih _ _ (fun y hy=>hs y (by simp [hy])) ?_
  have h0:=hs s (by simp)
  by_cases hd:s.x.2.2.dst=some t
  ·have he:D s.x.1=D' s.x.1:=by
    by_cases he:D s.x.1=D' s.x.1
    ·exact he
    ·exact absurd hd (h0 he)
   rw [he];split
   ·rw [zld,zld,qi hd,qi hd]
   ·exact h
  ·have k:∀(c:Prop) [Decidable c] (T:Tr AV),getT (if c then putT T s.x.2.2.dst s.v else T) t=getT T t:=by
    intro c _ T;split
    ·rw [zld,qd hd]
    ·rfl
   rw [k,k,h]
theorem zbs {D:Nat->Bool}{t:Nat}(ss:List Stp):∀(T:Tr AV),(∀s∈ss,D s.x.1=true->s.x.2.2.dst≠some t)->getT (TD D ss T) t=getT T t:=by
 induction ss with
 |nil=>intro T _;rfl
 |cons s ss ih =>
  intro T hs;refine (ih _ (fun y hy=>hs y (by simp [hy]))).trans ?_
  split
  ·next h=>rw [zld,qd (hs s (by simp) h)]
  ·rfl
theorem zcs {L:Lk}{D D':Nat->Bool}(ss:List Stp):∀(H:AH),(∀s∈ss,zja L s.x.2.2=true->D s.x.1=D' s.x.1)->HD L D ss H=HD L D' ss H:=by
 induction ss with
 |nil=>intro H _;rfl
 |cons s ss ih =>
  intro H hs;show HD L D ss _=HD L D' ss _
  rw [ih _ (fun y hy=>hs y (by simp [hy]))]
  congr 1
  by_cases h:zja L s.x.2.2=true
  ·rw [hs s (by simp) h]
  ·rw [qd (fun hc=>h hc.2),qd (fun hc=>h hc.2)]
theorem zds {L:Lk}{D:Nat->Bool}(ss:List Stp):∀(H:AH),(∀s∈ss,zja L s.x.2.2=true->D s.x.1=false)->HD L D ss H=H:=by
 induction ss with
 |nil=>intro H _;rfl
 |cons s ss ih =>
  intro H hs;show HD L D ss _=_
  rw [ih _ (fun y hy=>hs y (by simp [hy])),qd]
  rintro ⟨h1,h2⟩;rw [hs s (by simp) h2] at h1
  cases h1
theorem zey {L:Lk}{D:Nat->Bool}(ss:List Stp) (H:AH) (h:∀s∈ss,zja L s.x.2.2=false):HD L D ss H=H:=by
 have:HD L D ss H=HD L (fun _=>false) ss H:=zcs ss H fun s hs hh=>by rw [h s hs] at hh;cases hh
 rw [this];exact zds ss H fun _ _ _=>rfl
theorem StepOk.light {L:Lk}{rec:Rec}{all:List Oper}{s:Stp}(h:StepOk L rec all s) (hl:zja L s.x.2.2=false):s.H'=s.H:=by
 rcases h with ⟨_,⟨_,h⟩,_⟩|⟨_,⟨_,_,h⟩|⟨h,_⟩|⟨h,_⟩|⟨h,_⟩⟩
 ·exact h
 ·exact h
 ·rw [hl] at h;cases h
 ·rw [hl] at h;cases h
 ·rw [hl] at h;cases h
theorem Chain.at {L:Lk}{rec:Rec}{all:List Oper}(a:List Stp):∀{pre:List Ent}{T:Tr AV}{H:AH}{s:Stp}{b:List Stp}{T1:Tr AV}{H1:AH},Chain L rec all pre T H (a ++ s::b) T1 H1 ->
  s.T=TD tt a T/\s.H=HD L tt a H:=by
 induction a with
 |nil =>
  intro pre T H s b T1 H1 h;cases h;exact ⟨rfl,rfl⟩
 |cons y a ih =>
  intro pre T H s b T1 H1 h;rw [qn2] at h;cases h with
  |cons h hr =>
   obtain ⟨e1,e2⟩:=ih hr;refine ⟨e1,e2.trans ?_⟩;show _=HD L tt a _
   by_cases hh:zja L y.x.2.2=true
   ·rw [qi ⟨rfl,hh⟩]
   ·rw [qd (fun hc=>hh hc.2),h.light (by simpa using hh)]
theorem Chain.pre {L:Lk}{rec:Rec}{all:List Oper}(a:List Stp):∀{pre:List Ent}{T:Tr AV}{H:AH}{s:Stp}{b:List Stp}{T1:Tr AV}{H1:AH},Chain L rec all pre T H (a ++ s::b) T1 H1 ->
  s.pre=(a.map (·.x)).reverse ++ pre:=by
 induction a with
 |nil =>
  intro pre T H s b T1 H1 h;cases h;rfl
 |cons y a ih =>
  intro pre T H s b T1 H1 h;rw [qn2] at h;cases h with
  |cons h hr=>rw [ih hr];simp
theorem Chain.end {L:Lk}{rec:Rec}{all:List Oper}(a:List Stp):∀{pre:List Ent}{T:Tr AV}{H:AH}{T1:Tr AV}{H1:AH},Chain L rec all pre T H a T1 H1 ->
  T1=TD tt a T/\H1=HD L tt a H:=by
 induction a with
 |nil =>
  intro pre T H T1 H1 h;cases h;exact ⟨rfl,rfl⟩
 |cons y a ih =>
  intro pre T H T1 H1 h;cases h with
  |cons h hr =>
   obtain ⟨e1,e2⟩:=ih hr;refine ⟨e1,e2.trans ?_⟩;show _=HD L tt a _
   by_cases hh:zja L y.x.2.2=true
   ·rw [qi ⟨rfl,hh⟩]
   ·rw [qd (fun hc=>hh hc.2),h.light (by simpa using hh)]
theorem zxo {all:List Oper}{T T':Tr AV}{o:Oper}(h:∀t∈zbi all o,getT T t=getT T' t):zac all T o=zac all T' o:=by
 unfold zac;unfold zbi at h;cases hg:o.guard with
 |none=>rfl
 |some g =>
  obtain ⟨j,want⟩:=g;rw [hg] at h;simp only at h ⊢
  cases hn:nth all j with
  |none=>rfl
  |some oj =>
   rw [hn] at h;simp only at h ⊢
   cases hd:oj.dst with
   |none=>rfl
   |some d =>
    rw [hd] at h;have:=h d (by simp)
    unfold getT at this;simp only;cases h1:T.get d with
    |none =>
     cases h2:T'.get d with
     |none=>rfl
     |some v'=>rw [h1,h2] at this;simp only [Option.getD_none,qw4] at this;rw [← this];rfl
    |some v =>
     cases h2:T'.get d with
     |none=>rw [h1,h2] at this;simp only [Option.getD_none,qw4] at this;rw [this];rfl
     |some v'=>rw [h1,h2] at this;simp only [qw4] at this;rw [this]
theorem zyo {all:List Oper}{o:Oper}{t:Nat}(h:t∈opdTs (ztg o.op)):t∈zbi all o:=by
 unfold zbi;split
 ·exact h
 ·split
  ·split
   ·exact qj1 _ h
   ·exact h
  ·exact h
theorem zzc1 {l:List Nat}{t:Nat}(h:t∈l):has l t=true:=by
 induction l with
 |nil=>cases h
 |cons x l ih =>
  unfold has;rw [zta];rcases qg1.1 h with rfl|h
  ·simp
  ·split
   ·rfl
   ·exact ih h
theorem zbg {all:List Oper}{x y:Oper}(h:clash all x y=false){t:Nat}:(x.dst=some t->t ∉ zbi all y)/\(y.dst=some t->t ∉ zbi all x)/\(x.dst=some t->y.dst≠some t):=by
 unfold clash at h;simp only [qv4] at h;obtain ⟨h1,h2,h3⟩:=h;refine ⟨fun hx hm=> ?_,fun hy hm=> ?_,fun hx hy=> ?_⟩
 ·rw [hx] at h1;have:=zzc1 hm;simp only [dstIn] at h1;rw [this] at h1;cases h1
 ·rw [hy] at h2;have:=zzc1 hm;simp only [dstIn] at h2;rw [this] at h2;cases h2
 ·rw [hx,hy] at h3;simp [zyg1] at h3
def Nd (r:Stp) (i:Nat):Prop:= ∀t k i' o,r.x.2.2.op= .load t (.tmp k)->r.T.get k=some (.ptr i' o)->i=i'
theorem zad1 {L:Lk}{o:Oper}(h:zyc L o=true):zsj o.op=true:=by
 unfold zyc zdh at h;cases hp:zal L o.op with
 |true=>rw [hp] at h;cases h
 |false =>
  rw [hp] at h;cases hr:zsj o.op with
  |true=>rfl
  |false=>rw [hr] at h;cases h
def SubN (L:Lk) (all:List Oper) (r:Stp) (H H':AH):Prop:=zac all r.T r.x.2.2=true-> ∀v,evOp L r.T r.x.2.2 H=some (.val v H)->evOp L r.T r.x.2.2 H'=some (.val v H')
def SubBl (all:List Oper) (r:Stp) (H H':AH):Prop:=zac all r.T r.x.2.2=true-> ∀i b,Nd r i->H.get i=some b->H'.get i=some b
theorem SubN.trans {L:Lk}{all:List Oper}{r:Stp}{H H1 H2:AH}(h:SubN L all r H H1) (k:SubN L all r H1 H2):SubN L all r H H2:=fun hw v hv=>k hw v (h hw v hv)
theorem SubN.same {L:Lk}{all:List Oper}{r:Stp}{H:AH}:SubN L all r H H:=fun _ _ h=>h
theorem zes {L:Lk}{all:List Oper}{r:Stp}{H:AH}{nx:Next1}(hwt:zac all r.T r.x.2.2=true) (hp:zsj r.x.2.2.op=true) (h:evOp L r.T r.x.2.2 H=some nx) :
  ∃v,nx= .val v H/\ ∀H',SubBl all r H H'->evOp L r.T r.x.2.2 H'=some (.val v H'):=by
 by_cases hx:∃t k i o,r.x.2.2.op= .load t (.tmp k)/\r.T.get k=some (.ptr i o)
 ·obtain ⟨t,k,i,o,h1,h2⟩:=hx
  have ho:∀H',evOp L r.T r.x.2.2 H'=val1 (zub L t (.ptr i o) H') H':=fun H'=>by
   unfold evOp;rw [h1];simp only [opnd,h2];rfl
  rw [ho] at h;unfold val1 at h;split at h
  ·next v hv =>
   cases h
   refine ⟨v,rfl,fun H' hs=> ?_⟩
   rw [ho];have:zub L t (.ptr i o) H'=some v:=by
    have hget:∀b,H.get i=some b->H'.get i=some b:=fun b hg=>hs hwt i b (fun t' k' i' o' e1 e2=>by rw [h1] at e1;cases e1;rw [h2] at e2;cases e2;rfl) hg
    unfold zub at hv ⊢
    simp only at hv ⊢
    split at hv
    ·split at hv
     ·split at hv
      ·next l hl =>
       cases hv
       have:H'.subC i o ‹Nat› =some l:=by
        unfold AH.subC at hl ⊢
        cases hg:H.get i with
        |none=>rw [hg] at hl;cases hl
        |some b=>rw [hget b hg];rw [hg] at hl;exact hl
       rw [this]
      ·cases hv
     ·cases hv
    ·unfold AH.read1 AH.row at hv ⊢
     cases hg:H.get i with
     |none=>rw [hg] at hv;cases hv
     |some b=>rw [hget b hg];rw [hg] at hv;exact hv
    ·cases hv
   rw [this];rfl
  ·cases h
 ·obtain ⟨v,h1,h2⟩:=zdy hp h
  refine ⟨v,h1,fun H' hs=>h2 H' fun i b hg=>hs hwt i b (fun t k i' o e1 e2=>absurd ⟨t,k,i',o,e1,e2⟩ hx) hg⟩
theorem SubBl.toN {L:Lk}{all:List Oper}{r:Stp}{H H':AH}(hr:zyc L r.x.2.2=true) (h:SubBl all r H H'):SubN L all r H H':=fun hw v hv=>by
 obtain ⟨v',e,h2⟩:=zes hw (zad1 hr) hv;cases e;exact h2 H' h
theorem Sub.toN {L:Lk}{all:List Oper}{r:Stp}{H H':AH}(hr:zyc L r.x.2.2=true) (h:Sub H H'):SubN L all r H H':=SubBl.toN hr fun _ i b _ hg=>h i b hg
theorem zbd1 {L:Lk}{all:List Oper}{r:Stp}{H:AH}{nx:Next1}(hwt:zac all r.T r.x.2.2=true) (hp:zsj r.x.2.2.op=true) (h:evOp L r.T r.x.2.2 H=some nx) :
  ∃v,nx= .val v H/\ ∀H',SubN L all r H H'->evOp L r.T r.x.2.2 H'=some (.val v H'):=by
 obtain ⟨v,e,_⟩:=zes (all:=all) hwt hp h;subst e;exact ⟨v,rfl,fun H' hs=>hs hwt v h⟩
theorem zil1 {T:Tr AV}{ds:List Nat}{o:Oper}:∀pre,gdOff T ds o pre=true-> ∃g z d b,o.guard=some g/\z∈pre/\z.1=g.1/\z.2.2.dst=some d/\d ∉ ds/\T.get d=some (.bool b)/\b≠g.2:=by
 intro pre h;unfold gdOff at h;split at h
 ·cases h
 ·next g hg =>
  induction pre with
  |nil=>cases h
  |cons z pre ih =>
   rw [zta] at h;split at h
   ·next hz =>
    split at h
    ·next d hd =>
     split at h
     ·cases h
     ·next hno =>
      split at h
      ·next b hb =>
       refine ⟨g,z,d,b,hg,qq1,qf hz,hd,(fun hm=>by rw [zzc1 hm] at hno;cases hno),hb,fun he=> ?_⟩
       obtain ⟨g1,g2⟩:=g;simp only at he h;subst he;cases b<;>cases h
      ·cases h
    ·cases h
   ·obtain ⟨g',z',d,b,h1,h2,h3⟩:=ih h
    exact ⟨g',z',d,b,h1,qj1 _ h2,h3⟩
theorem znv (L:Lk) (x:Ent) (j:Nat) (T:Tr AV) (y:Ent) (pre:List Ent) (ds:List Nat):zbl L x j T (y::pre) ds=(match zyc L y.2.2 && !Nat.testBit x.2.1 y.1 && !gdOff T (match y.2.2.dst with|some d=>d::ds|none=>ds) y.2.2 pre with
  |false=>zbl L x j T pre (match y.2.2.dst with|some d=>d::ds|none=>ds)
  |true=>(match rdBlk T (match y.2.2.dst with|some d=>d::ds|none=>ds) y.2.2.op with
   |some i=>(match Nat.beq i j with|true=>false|false=>zbl L x j T pre (match y.2.2.dst with|some d=>d::ds|none=>ds))
   |none=>false)):=rfl
def RdOf (o:Op) (T:Tr AV) (k i:Nat):Prop:=(∃t off,o= .load t (.tmp k)/\T.get k=some (.ptr i off))\/ ∃t x ok,o= .lookup t (.tmp k) x ok/\T.get k=some (.map i)
theorem zjl1 {T:Tr AV}{ds:List Nat}{o:Op}{i:Nat}(h:rdBlk T ds o=some i):∃k,k ∉ ds/\RdOf o T k i:=by
 unfold rdBlk at h;split at h
 ·split at h
  ·split at h
   ·cases h
   ·next hno =>
    split at h
    ·next hg=>cases h;exact ⟨_,has_no hno,.inl ⟨_,_,rfl,hg⟩⟩
    ·cases h
  ·cases h
 ·split at h
  ·split at h
   ·cases h
   ·next hno =>
    split at h
    ·next hg=>cases h;exact ⟨_,has_no hno,.inr ⟨_,_,_,rfl,hg⟩⟩
    ·cases h
  ·cases h
 ·cases h
theorem zcd1 {L:Lk}{x:Ent}{j:Nat}{T:Tr AV}(pre:List Ent):∀ds,zbl L x j T pre ds=true-> ∀p1 y p2,pre=p1 ++ y::p2->zyc L y.2.2=true->Nat.testBit x.2.1 y.1=false ->
  (∃g z d b,y.2.2.guard=some g/\z∈p2/\z.1=g.1/\z.2.2.dst=some d/\T.get d=some (.bool b)/\b≠g.2/\(∀q∈p1 ++ [y],q.2.2.dst≠some d)/\d ∉ ds) \/
  ∃k i,RdOf y.2.2.op T k i/\i≠j/\(∀q∈p1 ++ [y],q.2.2.dst≠some k)/\k ∉ ds:=by
 induction pre with
 |nil=>intro ds _ p1 y p2 h;simp at h
 |cons z pre ih =>
  intro ds h p1 y p2 he hr hb;rw [znv] at h;have off:∀{d:Nat},d ∉ (match z.2.2.dst with|some d=>d::ds|none=>ds)->z.2.2.dst≠some d/\d ∉ ds:=fun {d} hd=>by
   refine ⟨fun e=> ?_,fun hm=> ?_⟩
   ·rw [e] at hd;exact hd qq1
   ·cases hz:z.2.2.dst with
    |none=>rw [hz] at hd;exact hd hm
    |some e=>rw [hz] at hd;exact hd (qj1 _ hm)
  cases p1 with
  |nil =>
   simp only [qm1,qb3] at he;obtain ⟨rfl,rfl⟩:=he;rw [hr,hb] at h;simp only [qn5,qn3] at h;split at h
   ·next hgd =>
    left
    obtain ⟨g,q,d,b,h1,h2,h3,h4,h5,h6,h7⟩:=zil1 _ (by simpa using hgd)
    obtain ⟨e1,e2⟩:=off h5;exact ⟨g,q,d,b,h1,h2,h3,h4,h6,h7,(fun q hq=>by simp only [qm1,qx1] at hq;subst hq;exact e1),e2⟩
   ·right
    split at h
    ·next i hi =>
     split at h
     ·cases h
     ·next hij =>
      obtain ⟨k,hk,hrd⟩:=zjl1 hi;obtain ⟨e1,e2⟩:=off hk;exact ⟨k,i,hrd,qz4 hij,(fun q hq=>by simp only [qm1,qx1] at hq;subst hq;exact e1),e2⟩
    ·cases h
  |cons q p1 =>
   simp only [qn2,qb3] at he;obtain ⟨rfl,rfl⟩:=he;have go:zbl L x j T (p1 ++ y::p2) (match z.2.2.dst with|some d=>d::ds|none=>ds)=true->_:=fun hf=>ih _ hf p1 y p2 rfl hr hb
   have hf:zbl L x j T (p1 ++ y::p2) (match z.2.2.dst with|some d=>d::ds|none=>ds)=true:=by
    split at h
    ·exact h
    ·split at h
     ·split at h
      ·cases h
      ·exact h
     ·cases h
   rcases go hf with ⟨g,r,d,b,h1,h2,h3,h4,h5,h6,h7,h8⟩|⟨k,i,h1,h3,h4,h5⟩
   ·obtain ⟨e1,e2⟩:=off h8
    exact .inl ⟨g,r,d,b,h1,h2,h3,h4,h5,h6,(fun q hq=>by
     rcases qg1.1 hq with rfl|hq
     ·exact e1
     ·exact h7 q hq),e2⟩
   ·obtain ⟨e1,e2⟩:=off h5
    exact .inr ⟨k,i,h1,h3,(fun q hq=>by
     rcases qg1.1 hq with rfl|hq
     ·exact e1
     ·exact h4 q hq),e2⟩
theorem far_ok {L:Lk}{T:Tr AV}{x:Ent}{pre:List Ent}(h:far L T x pre=true):∃t k v j o,x.2.2.op= .store t (.tmp k) v/\T.get k=some (.ptr j o)/\ ∀p1 y p2,pre=p1 ++ y::p2->zyc L y.2.2=true->Nat.testBit x.2.1 y.1=false ->
  (∃g z d b,y.2.2.guard=some g/\z∈p2/\z.1=g.1/\z.2.2.dst=some d/\T.get d=some (.bool b)/\b≠g.2/\(∀q∈p1 ++ [y],q.2.2.dst≠some d)) \/
  ∃k i,RdOf y.2.2.op T k i/\i≠j/\ ∀z∈p1 ++ [y],z.2.2.dst≠some k:=by
 unfold far at h;split at h
 ·next t k v hop =>
  split at h
  ·next j o hg =>
   refine ⟨t,k,v,j,o,hop,hg,fun p1 y p2 he hr hb=> ?_⟩
   rcases zcd1 pre [] h p1 y p2 he hr hb with ⟨g,r,d,b,h1,h2,h3,h4,h5,h6,h7,_⟩|⟨k,i,h1,h3,h4,_⟩
   ·exact .inl ⟨g,r,d,b,h1,h2,h3,h4,h5,h6,h7⟩
   ·exact .inr ⟨k,i,h1,h3,h4⟩
  ·cases h
 ·cases h
theorem zov {L:Lk}{rec:Rec}{T:Tr AV}{o:Oper}{H:AH}{r:AV×AH}{t:TypeId}{k j off:Nat}{v:Operand}(hop:o.op= .store t (.tmp k) v) (hg:T.get k=some (.ptr j off)) (h:zwa L rec T o H=some r)
  {i:Nat}(hi:i≠j):r.2.get i=H.get i:=by
 unfold zwa evOp at h;rw [hop] at h;simp only [opnd,hg] at h;cases hv:opnd T v with
 |none=>simp only [opnd] at hv;simp only [hv] at h;cases h
 |some u =>
  have hv':=hv;simp only [opnd] at hv';simp only [hv'] at h;unfold unit1 zed at h;simp only at h;split at h
  ·cases h
  ·next nx hnx =>
   split at hnx
   ·next H' hs =>
    cases hnx
    simp only [qe2] at h;subst h;split at hs
    ·split at hs
     ·unfold AH.writeC at hs
      split at hs
      ·cases hs
      ·split at hs
       ·split at hs
        ·cases hs
        ·split at hs
         ·cases hs
         ·split at hs
          ·cases hs
           show (H.put j _).get i=_
           unfold AH.get AH.put;show (match H.vis i with|true=>(H.tree.set j _).get i|false=>none)=_
           rw [Tr.get_set_ne _ _ hi];rfl
          ·cases hs
       ·cases hs
     ·cases hs
    ·cases hs
   ·cases hnx
theorem relo {E E1:Env}{H H2:AH}{w w1:World}(hw:H.Wf) (hp:Post E {H with lo:=H.next} w E1 H2 w1) (h2:H2.Wf) :
  Post E H w E1 {H2 with lo:=H.lo} w1/\({H2 with lo:=H.lo}:AH).Wf/\Sub H {H2 with lo:=H.lo}:=by
 have hk:∀i,i<H.next->H2.tree.get i=H.tree.get i:=fun i hi=>hp.keep i (.inl hi)
 have hv:∀i,H2.vis i=H.vis i:=vis_of hp.hide
 have hsub:∀i b,H.get i=some b->H2.get i=some b:=fun i b hg=>by
  have hlt:=hw.get_lt hg;rw [AH.get_some] at hg ⊢
  rw [hv,hk i hlt];exact hg
 refine ⟨⟨hp.ext,hp.next,rfl,hp.hide,hp.tape,hp.os,hp.output,hp.size,fun c hc hn=> ?_,fun c ho=> ?_,fun i hi=> ?_,hp.loops,hp.froz,hp.lives,hp.dr⟩,⟨h2.tree,?_,h2.hide⟩,hsub⟩
 ·refine hp.frame c hc fun ho=>hn ?_
  obtain ⟨i,b,hg,hb,hlo,he⟩:=ho;exact ⟨i,b,hg,hb,qx2 hw.lo hlo,he⟩
 ·obtain ⟨i,b,hg,hb,hlo,he⟩:=ho
  have hg:H2.get i=some b:=hg;by_cases hi:i<H.next
  ·left
   refine ⟨i,b,?_,hb,hlo,?_⟩
   ·rw [AH.get_some] at hg ⊢
    rw [hv,hk i hi] at hg;exact hg
   ·rw [← he,hp.ext i hi]
  ·rcases hp.own c ⟨i,b,hg,hb,by rw [hp.lo];exact Nat.le_of_not_lt hi,he⟩ with ho|ho
   ·obtain ⟨i',b',hg',hb',hlo',he'⟩:=ho
    exact .inl ⟨i',b',hg',hb',qx2 hw.lo hlo',he'⟩
   ·exact .inr ho
 ·refine hp.keep i ?_
  rcases hi with hi|hi
  ·exact .inl (qz hi hw.lo)
  ·exact .inr hi
 ·exact qx2 hw.lo hp.next
theorem St.relo {B:Nat}{E:Env}{H:AH}{w:World}(h:St B E H w) (n:Nat):St B E {H with lo:=n} w:=fun E' hE =>
 ⟨(h E' hE).blk,(h E' hE).inj,(h E' hE).base,(h E' hE).size⟩
theorem zfs {a b:ByteArray}(h:strEq a b=true):a=b:=by
 have:a.data.toList=b.data.toList:=by unfold strEq at h;rw [zcq] at h;exact qg h
 cases a;cases b;simp only [ByteArray.mk.injEq];exact Array.toList_inj.1 this
mutual
theorem eqV_ok:∀(v w:AV),eqV v w=true->v=w
 | .bool a,w,h=>by
  unfold eqV at h;split at h
  ·split at h<;>first|rfl|cases h
  ·cases h
 | .int k n,w,h=>by
  unfold eqV at h;split at h
  ·simp only [qm,qs] at h;obtain ⟨rfl,rfl⟩:=h;rfl
  ·cases h
 | .str s,w,h=>by
  unfold eqV at h;split at h
  ·rw [zfs h]
  ·cases h
 | .nilPtr,w,h=>by unfold eqV at h;split at h<;>first|rfl|cases h
 | .ptr j o,w,h=>by
  unfold eqV at h;split at h
  ·rw [qm] at h;rw [qf h.1,qf h.2]
  ·cases h
 | .nilSl,w,h=>by unfold eqV at h;split at h<;>first|rfl|cases h
 | .sl j o l n op,w,h=>by
  unfold eqV at h;split at h
  ·simp only [qm,qs] at h
   obtain ⟨⟨⟨⟨h1,h2⟩,h3⟩,h4⟩,rfl⟩:=h;rw [qf h1,qf h2,qf h3,qf h4]
  ·cases h
 | .nilMap,w,h=>by unfold eqV at h;split at h<;>first|rfl|cases h
 | .map j,w,h=>by
  unfold eqV at h;split at h
  ·rw [qf h]
  ·cases h
 | .fn f a b,w,h=>by
  unfold eqV at h;split at h
  ·simp only [qm,qs] at h
   obtain ⟨⟨rfl,h2⟩,h3⟩:=h;rw [zpv _ _ h2,zpv _ _ h3]
  ·cases h
 | .yld j,w,h=>by
  unfold eqV at h;split at h
  ·rw [qf h]
  ·cases h
 | .nilFn,w,h=>by unfold eqV at h;split at h<;>first|rfl|cases h
 | .ifc t v,w,h=>by
  unfold eqV at h;split at h
  ·rw [qm] at h;rw [qf h.1,eqV_ok _ _ h.2]
  ·cases h
 | .nilIfc,w,h=>by unfold eqV at h;split at h<;>first|rfl|cases h
 | .agg cs,w,h=>by
  unfold eqV at h;split at h
  ·rw [zpv _ _ h]
  ·cases h
 | .tup cs,w,h=>by
  unfold eqV at h;split at h
  ·rw [zpv _ _ h]
  ·cases h
 | .bag n N,w,h=>by
  unfold eqV at h;split at h
  ·rw [qm] at h;rw [qf h.1,qf h.2]
  ·cases h
 | .ext k i o,w,h=>by
  unfold eqV at h;split at h
  ·simp only [qm] at h
   rw [qf h.1.1,qf h.1.2,qf h.2]
  ·cases h
theorem zpv:∀(l m:List AV),eqL l m=true->l=m
 | [],m,h=>by unfold eqL at h;split at h<;>first|rfl|cases h
 |a::l,m,h=>by
  unfold eqL at h;split at h
  ·cases h
  ·rw [qm] at h;rw [eqV_ok _ _ h.1,zpv _ _ h.2]
end
theorem eqC_ok {a b:Ce}(h:eqC a b=true):a=b:=by
 unfold eqC at h;split at h
 ·rw [qm] at h;rw [qf h.1,qf h.2]
 ·rw [zpv _ _ h]
 ·cases h
theorem zkl1 {a b:Option ABlk}(h:sameO a b=true):b=a:=by
 unfold sameO at h;split at h
 ·unfold eqB at h
  split at h
  ·simp only [qm,qs] at h
   obtain ⟨⟨⟨⟨h1,h2⟩,h3⟩,rfl⟩,rfl⟩:=h;rw [eqC_ok h1,qf h2,qf h3]
  ·cases h
 ·cases h
theorem zdd1 {H H2:AH}{js:List Nat}(h:zsg H H2 js=true):∀i∈js,H2.get i=H.get i:=fun i hi=>zkl1 (qb1.1 h i hi)
theorem zzo (x:Ent) (L:Lk) (T:Tr AV) (y:Ent) (pre:List Ent) (ds:List Nat):zee x L T (y::pre) ds=(match zyc L y.2.2 && !Nat.testBit x.2.1 y.1 with
  |false=>zee x L T pre (match y.2.2.dst with|some d=>d::ds|none=>ds)
  |true=>(match y.2.2.op with
   | .load _ (.tmp k)=>(match has (match y.2.2.dst with|some d=>d::ds|none=>ds) k with
    |true=>none
    |false=>(match T.get k with
     |some (.ptr i _)=>(match zee x L T pre (match y.2.2.dst with|some d=>d::ds|none=>ds) with|some js=>some (i::js)|none=>none)
     |_=>none))
   |_=>none)):=rfl
theorem zqv {x:Ent}{L:Lk}{T:Tr AV}(pre:List Ent):∀ds js,zee x L T pre ds=some js-> ∀p1 y p2,pre=p1 ++ y::p2->zyc L y.2.2=true->Nat.testBit x.2.1 y.1=false ->
  ∃t k i o,y.2.2.op= .load t (.tmp k)/\T.get k=some (.ptr i o)/\i∈js/\k ∉ ds/\ ∀z∈p1 ++ [y],z.2.2.dst≠some k:=by
 induction pre with
 |nil=>intro ds js _ p1 y p2 h;simp at h
 |cons z pre ih =>
  intro ds js h p1 y p2 he hr hb;rw [zzo] at h;have nin:∀{k:Nat},k ∉ (match z.2.2.dst with|some d=>d::ds|none=>ds)->k ∉ ds/\z.2.2.dst≠some k:=by
   intro k hk;cases hd:z.2.2.dst with
   |none=>rw [hd] at hk;exact ⟨hk,fun h=>by cases h⟩
   |some d =>
    rw [hd] at hk;simp only [qg1,not_or] at hk;exact ⟨hk.2,fun h=>hk.1 (by cases h;rfl)⟩
  cases p1 with
  |nil =>
   simp only [qm1,qb3] at he;obtain ⟨rfl,rfl⟩:=he;rw [hr,hb] at h;simp only [qn5,qr2] at h;split at h
   ·next t k hop =>
    split at h
    ·cases h
    ·next hno =>
     split at h
     ·next i o hg =>
      split at h
      ·next js' hjs =>
       cases h
       have hk:k ∉ (match z.2.2.dst with|some d=>d::ds|none=>ds):=fun hm=>by rw [zzc1 hm] at hno;cases hno
       obtain ⟨k1,k2⟩:=nin hk;refine ⟨t,k,i,o,hop,hg,qq1,k1,fun q hq=> ?_⟩
       simp only [qm1,qx1] at hq;subst hq;exact k2
      ·cases h
     ·cases h
   ·cases h
  |cons q p1 =>
   simp only [qn2,qb3] at he;obtain ⟨rfl,rfl⟩:=he;have go:∀js',zee x L T (p1 ++ y::p2) (match z.2.2.dst with|some d=>d::ds|none=>ds)=some js'->(∀i,i∈js'->i∈js)-> ∃t k i o,y.2.2.op= .load t (.tmp k)/\T.get k=some (.ptr i o)/\i∈js/\k ∉ ds/\ ∀z'∈(z::p1) ++ [y],z'.2.2.dst≠some k:=by
    intro js' hj hsub;obtain ⟨t,k,i,o,h1,h2,h3,h4,h5⟩:=ih _ _ hj p1 y p2 rfl hr hb;obtain ⟨k1,k2⟩:=nin h4;refine ⟨t,k,i,o,h1,h2,hsub i h3,k1,fun q hq=> ?_⟩
    rcases qg1.1 hq with rfl|hq
    ·exact k2
    ·exact h5 q hq
   split at h
   ·exact go _ h fun _ h=>h
   ·split at h
    ·split at h
     ·cases h
     ·split at h
      ·split at h
       ·next js' hjs=>cases h;exact go _ hjs fun i hi=>qj1 _ hi
       ·cases h
      ·cases h
    ·cases h
def zik (L:Lk) (o:Oper):Bool:=zpd L o && (match o.op with| .convert _ _ _=>true|_=>false)
theorem zrv {L:Lk}{all:List Oper}{T:Tr AV}{o:Oper}(h:zik L o=true):zac all T o=true:=by
 unfold zik zpd at h;rw [qm] at h;obtain ⟨h1,h2⟩:=h;split at h1
 ·cases h1
 ·next hg=>unfold zac;rw [hg]
theorem znh {L:Lk}{o:Oper}(h:zpd L o=true):∃e,o.op= .alloc e:=by
 unfold zpd at h;split at h
 ·cases h
 ·split at h
  ·next e he=>exact ⟨e,he⟩
  ·cases h
theorem zki {L:Lk}{o:Oper}(h:zpd L o=true):zja L o=true:=by
 unfold zja zdh;obtain ⟨e,he⟩:=znh h;rw [he];rfl
structure FlS (s:Stp) (b:ABlk) (z:Bool) (FV:Nat->AV):Prop where
 v:s.v=FV s.H.next
 heap:s.H'= {s.H.new b with fz:=s.H.fz || z}
 own:b.own=true
section
variable {L:Lk}{P:Program}{B:Nat}{rec:Rec}{F:Fence}
theorem zll1 {all:List Oper}{s:Stp}(hst:StepOk L rec all s) (hf:zpd L s.x.2.2=true) (hwd:zac all s.T s.x.2.2=true) :
  ∃H2,(evOp L s.T s.x.2.2 s.H=some (.val s.v H2)/\s.H'=H2)\/(evOp L s.T s.x.2.2 {s.H with lo:=s.H.next}=some (.val s.v H2)/\s.H'= {H2 with lo:=s.H.lo}):=by
 have hval:∀{H:AH}{r:AV×AH},zwa L rec s.T s.x.2.2 H=some r->evOp L s.T s.x.2.2 H=some (.val r.1 r.2):=by
  intro H r h;unfold zwa at h;split at h
  ·cases h
  ·next nx hnx =>
   have hv:∃v H',nx= .val v H':=by
    unfold evOp at hnx;obtain ⟨e,he⟩:=znh hf;rw [he] at hnx;simp only at hnx;split at hnx
    ·cases hnx;exact ⟨_,_,rfl⟩
    ·cases hnx
   obtain ⟨v,H',rfl⟩:=hv;cases h;exact hnx
 rcases hst with ⟨h,_,_⟩|⟨_,⟨h,_⟩|⟨_,_,h⟩|⟨_,_,h⟩|⟨_,_,h⟩⟩
 ·rw [hwd] at h;cases h
 ·rw [zki hf] at h;cases h
 ·exact ⟨_,.inl ⟨hval h,rfl⟩⟩
 ·exact ⟨_,.inl ⟨hval h,rfl⟩⟩
 ·unfold zfd at h
  have hc:zrf s.x.2.2=false:=by
   unfold zrf;obtain ⟨e,he⟩:=znh hf;rw [he]
  rw [hc] at h;simp only at h;split at h
  ·next r hr =>
   simp only [qe2,qs7] at h;refine ⟨r.2,.inr ⟨?_,h.2.symm⟩⟩;rw [hval hr,h.1]
  ·cases h
def Grew (w w':World) (o:Obj):Prop:=w'=wNew w o\/w'=wNew w.drew o
theorem Grew.heap {w w':World}{o:Obj}(h:Grew w w' o):w'.heap=w.heap.push o:=by rcases h with rfl|rfl<;>rfl
theorem Grew.lt {w w':World}{o:Obj}(h:Grew w w' o){c:Nat}(hc:c<w.heap.size):w'.heap[c]? =w.heap[c]? :=by rw [h.heap,Array.getElem?_push_lt hc,qu1 hc]
theorem Grew.self {w w':World}{o:Obj}(h:Grew w w' o):w'.heap[w.heap.size]? =some o:=by rw [h.heap];simp
theorem Grew.size {w w':World}{o:Obj}(h:Grew w w' o):w'.heap.size=w.heap.size+1:=by rw [h.heap];simp
def mz (z:Bool) (H:AH):AH:= {H with fz:=H.fz || z}
theorem Grew.st {w w':World}{o:Obj}(h:Grew w w' o){E:Env}{H:AH}(hS:St B E H w):St B E H w':=by
 intro E' hE;have k:=hS E' hE;exact ⟨fun i b hg=>(k.blk i b hg).congr fun hl=>h.lt ((k.blk i b hg).obj hl),k.inj,k.base,by rw [h.size];exact qe5 k.size⟩
theorem Grew.post {w w':World}{o:Obj}(h:Grew w w' o){E:Env}{H:AH}{z:Bool}(hz:z=false-> ∀off,objFz o off=false):Post E (mz z H) w E (mz z H) w':=by
 refine ⟨Agree.refl _ _,qn _,rfl,rfl,?_,?_,?_,by rw [h.size];omega,fun c hc _=>h.lt hc,fun _ h=>.inl h,fun _ _=>rfl,fun c r hc=>⟨r,(h.lt (qq2.1 hc).1).trans hc⟩,fun hf=>⟨hf,?_⟩,fun _ h=>.inl h,by rcases h with rfl|rfl<;>first|exact qn _|exact qy3 _⟩
 ·rcases h with rfl|rfl<;>rfl
 ·rcases h with rfl|rfl<;>rfl
 ·rcases h with rfl|rfl<;>rfl
 ·have hzf:z=false:=by
   have hf:(H.fz || z)=false:=hf;rw [qv4] at hf;exact hf.2
  intro a;rw [zme,zme];by_cases hc:a.block<w.heap.size
  ·rw [h.lt hc]
  ·by_cases he:a.block=w.heap.size
   ·rw [he,h.self,qz2 (qn _)]
    exact hz hzf _
   ·rw [qz2 (by rw [h.size];omega),qz2 oM]
theorem zfy (hL:LOk0 L P){all:List Oper}{s:Stp}(hst:StepOk L rec all s) (hf:zpd L s.x.2.2=true) (hwd:zac all s.T s.x.2.2=true) :
  ∃b z FV,FlS s b z FV/\zik L s.x.2.2=z /\
   ∀(E:Env) (n:Nat) (T':Tr AV) (a:Act) (w:World),StT E n T' a.tmps->(∀t∈opdTs (ztg s.x.2.2.op),getT T' t=getT s.T t) ->
    ∃u w' ex raw o,(s.x.2.2.semAt F.round a.eval).run P w= .ok (.value u) w'/\Grew w w' o/\(z=false-> ∀off,objFz o off=false)/\(∀E':Env,u=conc E' raw) /\
     (∀(E':Env) (i:Nat),E' i=⟨w.heap.size,0,ex⟩->(∀w2:World,w2.heap[w.heap.size]? =some o->BRel E' i b w2)/\conc E' (FV i)=conc E' raw):=by
 obtain ⟨H2,hev⟩:=zll1 hst hf hwd;obtain ⟨e,he⟩:=znh hf
 ·have hop:∀c,s.x.2.2.op≠ .defer c:=fun c hc=>by rw [he] at hc;cases hc
  have key:∀H:AH,evOp L s.T s.x.2.2 H=(match L.zero e,L.size e with|some z,some sz=>some (.val (.ptr H.next 0) (H.new (.cells z.toC e sz false false)))|_,_=>none):=fun H=>by unfold evOp;simp only [he];rfl
  cases hz:L.zero e with
  |none =>
   exfalso
   rcases hev with ⟨h,_⟩|⟨h,_⟩<;>(rw [key,hz] at h;cases h)
  |some z =>
   cases hs:L.size e with
   |none =>
    exfalso
    rcases hev with ⟨h,_⟩|⟨h,_⟩<;>(rw [key,hz,hs] at h;cases h)
   |some sz =>
    refine ⟨.cells z.toC e sz false false,false,fun i=>.ptr i 0,?_,by unfold zik;rw [he];simp,fun E n T' a w hT hlk=> ?_⟩
    ·rcases hev with ⟨h,hH⟩|⟨h,hH⟩
     ·rw [key,hz,hs] at h
      simp only [qe2,Next1.val.injEq] at h;exact ⟨h.1.symm,by rw [hH,← h.2,Bool.or_false];rfl,rfl⟩
     ·rw [key,hz,hs] at h
      simp only [qe2,Next1.val.injEq] at h;exact ⟨h.1.symm,by rw [hH,← h.2,Bool.or_false];rfl,rfl⟩
    ·have hc:∀E':Env,conc E' z=conc E z:=fun E'=>zero_E hL hz E' E
     have hcl:∀E':Env,concL E' z.cells=concL E z.cells:=fun E'=>zxr (hc E')
     refine ⟨.pointer (some ⟨w.heap.size,0,none⟩),wNew w (.cells (concL E z.cells).toArray e),0,.ext 2 w.heap.size 0,_,?_,.inl rfl,fun _ off=>by simp [objFz],fun _=>rfl,fun E' i hi=>⟨fun w2 hw2=> ?_,by show Value.pointer (some ⟨(E' i).blk,(E' i).off+0,none⟩)=_;rw [hi];rfl⟩⟩
     ·rw [Oper.semAt_eq F.round a.eval _ hop]
      unfold execOp;rw [he];simp only;have hrun:(Instr.alloc e true (.tuple #[])).run P w= .ok (.pointer (some ⟨w.heap.size,0,none⟩)) (wNew w (.cells (concL E z.cells).toArray e)):=by
       unfold Instr.alloc;simp only [qj,zzc (E:=E) hL hz,qb,newVar,zab,zfe,qt]
      simp only [qj,hrun,qb,qt]
     ·refine ⟨(concL E z.cells).toArray,e,(0,0),by rw [hi];exact hw2,fun j v hv=> ?_,fun _=>⟨⟨qn _,fun j hj=>by simp⟩,?_,(fun h=>by cases h),fun _ h=>absurd h.2 (qe4 _),rfl⟩⟩
      ·rw [toC_l] at hv
       rw [hi];show (concL E z.cells).toArray[0+j]? =_
       rw [qy1,qo1,← hcl E',zna?,hv];rfl
      ·rw [hi,toC_l];simp [zma]
end
structure Steps (L:Lk) (rec:Rec) (all:List Oper) (T:Tr AV) (H:AH) (ss:List Stp) (T1:Tr AV) (H1:AH):Prop where
 chain:Chain L rec all [] T H ss T1 H1
 one:∀s∈ss,Known1 L rec all s
 two:ss.Pairwise (Known2 L all)
 deps:∀a s b,ss=a ++ s::b-> ∀e∈s.x.2.2.after.toList,Region.binds .any e=true-> ∃y∈a,y.x.1=e.on
 all:∀i,i<all.length-> ∃s∈ss,s.x.1=i
theorem zjk {L:Lk}{o:Oper}(h:zja L o=true) (h':zxg L o=true):False:=by
 unfold zja at h;unfold zxg at h';cases hk:zdh L o.op<;>rw [hk] at h h'<;>first|(cases h;done)|(cases h';done)
theorem zkk {L:Lk}{o:Oper}(h:zja L o=true) (h':zyc L o=true):False:=by
 unfold zja at h;unfold zyc at h';cases hk:zdh L o.op<;>rw [hk] at h h'<;>first|(cases h;done)|(cases h';done)
theorem zsv {L:Lk}{o:Oper}(h:zyc L o=true) (h':zxg L o=true):False:=by
 unfold zyc at h;unfold zxg at h';cases hk:zdh L o.op<;>rw [hk] at h h'<;>first|(cases h;done)|(cases h';done)
theorem zgy {L:Lk}{o:Oper}(h:zja L o=false):zal L o.op=true\/(zsj o.op=true/\zyc L o=true):=by
 unfold zja zdh at h;unfold zyc zdh;cases hp:zal L o.op with
 |true=>exact .inl rfl
 |false =>
  rw [hp] at h;cases hr:zsj o.op with
  |true=>exact .inr ⟨rfl,rfl⟩
  |false=>rw [hr] at h;cases h
section
variable {L:Lk}{rec:Rec}{all:List Oper}{T T1:Tr AV}{H H1:AH}{ss:List Stp}{D:Nat->Bool}
def ins (D:Nat->Bool) (k:Nat):Nat->Bool:=fun i=>if i=k then true else D i
def Pref (L:Lk) (ss:List Stp) (D:Nat->Bool):Prop:= ∀a t b,ss=a ++ t::b->zja L t.x.2.2=true->D t.x.1=true-> ∀y∈a,zja L y.x.2.2=true->D y.x.1=true
structure At (L:Lk) (rec:Rec) (all:List Oper) (T:Tr AV) (H:AH) (ss:List Stp) (T1:Tr AV) (H1:AH) (D:Nat->Bool) (a:List Stp) (s:Stp) (b:List Stp):Prop where
 S:Steps L rec all T H ss T1 H1
 eq:ss=a ++ s::b
 cl:zwo all D
 new:D s.x.1=false
 dep:Deps s.x.2.2 D
 hl:zxg L s.x.2.2=false-> ∀y∈a,zja L y.x.2.2=true->D y.x.1=true
 pref:Pref L ss D
variable {a b:List Stp}{s:Stp}
theorem At.k1 (h:At L rec all T H ss T1 H1 D a s b):Known1 L rec all s:=h.S.one s (by rw [h.eq];simp)
theorem At.left (h:At L rec all T H ss T1 H1 D a s b):∀y∈a,Known2 L all y s:=by
 have:=h.S.two;rw [h.eq,qx5] at this;exact fun y hy=>this.2.2 y hy s (by simp)
theorem At.right (h:At L rec all T H ss T1 H1 D a s b):∀y∈b,Known2 L all s y:=by
 have:=h.S.two;rw [h.eq,qx5,qw6] at this;exact fun y hy=>this.2.1.1 y hy
theorem At.anc (h:At L rec all T H ss T1 H1 D a s b){j:Nat}(hb:Nat.testBit s.x.2.1 j=true):D j=true:=h.k1.anc D h.cl h.dep j hb
theorem At.bitL (h:At L rec all T H ss T1 H1 D a s b){y:Stp}(hd:D y.x.1=false):Nat.testBit s.x.2.1 y.x.1=false:=by
 cases hb:Nat.testBit s.x.2.1 y.x.1 with
 |false=>rfl
 |true=>rw [h.anc hb] at hd;cases hd
theorem At.bitR (h:At L rec all T H ss T1 H1 D a s b){y:Stp}(hy:y∈b) (hd:D y.x.1=true):Nat.testBit y.x.2.1 s.x.1=false:=by
 have hk:Known1 L rec all y:=h.S.one y (by rw [h.eq];simp [hy])
 cases hb:Nat.testBit y.x.2.1 s.x.1 with
 |false=>rfl
 |true =>
  have:=hk.anc D h.cl (fun e he hbd=>h.cl y.x.1 y.x.2.2 hk.op hd e he hbd) s.x.1 hb
  rw [h.new] at this;cases this
theorem At.other (h:At L rec all T H ss T1 H1 D a s b){y:Stp}(hy:y∈ss) (hi:y.x.1=s.x.1):y=s:=by
 rw [h.eq,qp2,qg1] at hy;rcases hy with hy|rfl|hy
 ·exact absurd hi (h.left y hy).pair.ne
 ·rfl
 ·exact absurd hi.symm (h.right y hy).pair.ne
theorem At.insL (h:At L rec all T H ss T1 H1 D a s b){y:Stp}(hy:y∈a):ins D s.x.1 y.x.1=D y.x.1:=qd (h.left y hy).pair.ne
theorem At.insR (h:At L rec all T H ss T1 H1 D a s b){y:Stp}(hy:y∈b):ins D s.x.1 y.x.1=D y.x.1:=qd (fun e=>(h.right y hy).pair.ne e.symm)
theorem zzg (D:Nat->Bool) (k:Nat):ins D k k=true:=qi rfl
theorem At.looks (h:At L rec all T H ss T1 H1 D a s b){t:Nat}(ht:t∈zbi all s.x.2.2):getT (TD D ss T) t=getT s.T t:=by
 have hc:=h.S.chain;rw [h.eq] at hc;rw [h.eq,zkj,(hc.at a).1];rw [zbs]
 ·refine zih1 a T T (fun y hy hd=> ?_) rfl
  have hyd:D y.x.1=false:=by
   cases hh:D y.x.1 with
   |false=>rfl
   |true=>rw [hh] at hd;exact absurd rfl hd
  exact fun hdst=>(zbg ((h.left y hy).pair.apart (h.bitL hyd))).1 hdst ht
 ·intro y hy hd hdst
  rcases qg1.1 hy with rfl|hy
  ·rw [h.new] at hd;cases hd
  ·exact (zbg ((h.right y hy).pair.apart (h.bitR hy hd))).2.1 hdst ht
theorem At.heavyR (h:At L rec all T H ss T1 H1 D a s b) (hh:zja L s.x.2.2=true):∀y∈b,zja L y.x.2.2=true->D y.x.1=false:=by
 intro y hy hyh;cases hd:D y.x.1 with
 |false=>rfl
 |true =>
  obtain ⟨b1,b2,rfl⟩:=qs4 hy;have:=h.pref (a ++ s::b1) y b2 (by rw [h.eq];simp) hyh hd s (by simp) hh
  rw [h.new] at this;cases this
theorem At.heavyL (h:At L rec all T H ss T1 H1 D a s b) (hh:zxg L s.x.2.2=false):∀y∈a,zja L y.x.2.2=true->D y.x.1=true:=h.hl hh
theorem At.heapNow (h:At L rec all T H ss T1 H1 D a s b) (hh:zja L s.x.2.2=true):HD L D ss H=s.H:=by
 have hc:=h.S.chain;rw [h.eq] at hc;rw [h.eq,zan,(hc.at a).2];have hf:zxg L s.x.2.2=false:=by
  cases hx:zxg L s.x.2.2 with
  |false=>rfl
  |true=>exact (zjk hh hx).elim
 rw [zcs (D':=tt) a H fun y hy hyh=>h.heavyL hf y hy hyh]
 refine zds _ _ fun y hy hyh=> ?_
 rcases qg1.1 hy with rfl|hy
 ·exact h.new
 ·exact h.heavyR hh y hy hyh
theorem At.heapThen (h:At L rec all T H ss T1 H1 D a s b) (hh:zja L s.x.2.2=true):HD L (ins D s.x.1) ss H=s.H':=by
 rw [h.eq,zan];show HD L _ b (if ins D s.x.1 s.x.1=true/\zja L s.x.2.2=true then s.H' else _)=_
 rw [qi ⟨zzg _ _,hh⟩];exact zds _ _ fun y hy hyh=>by rw [h.insR hy];exact h.heavyR hh y hy hyh
theorem At.heapLight (h:At L rec all T H ss T1 H1 D a s b) (hh:zja L s.x.2.2=false):HD L (ins D s.x.1) ss H=HD L D ss H:=by
 refine zcs ss H fun y hy hyh=>qd fun hi=> ?_
 rw [h.other hy hi,hh] at hyh;cases hyh
theorem At.closed (h:At L rec all T H ss T1 H1 D a s b):zwo all (ins D s.x.1):=by
 intro i o hi hd e he hb;show (if e.on=s.x.1 then true else D e.on)=true
 split
 ·rfl
 ·by_cases hk:i=s.x.1
  ·subst hk
   rw [h.k1.op] at hi;cases hi;exact h.dep e he hb
  ·have:D i=true:=by
    have hd:(if i=s.x.1 then true else D i)=true:=hd
    rwa [qd hk] at hd
   exact h.cl i o hi this e he hb
def Mono (L:Lk) (all:List Oper) (H:AH) (ss:List Stp) (D:Nat->Bool):Prop:= ∀a s b,ss=a ++ s::b->zyc L s.x.2.2=true->D s.x.1=false->(∀y∈a,zja L y.x.2.2=true->D y.x.1=true)->SubN L all s s.H (HD L D ss H)
theorem At.mono (h:At L rec all T H ss T1 H1 D a s b) (hm:Mono L all H ss D) (hsub:∀r∈a,zyc L r.x.2.2=true->Nat.testBit s.x.2.1 r.x.1=false->SubN L all r s.H s.H'):Mono L all H ss (ins D s.x.1):=by
 intro a2 r b2 he hr hd hl;have hrd:D r.x.1=false:=by
  have hd:(if r.x.1=s.x.1 then true else D r.x.1)=false:=hd
  split at hd
  ·cases hd
  ·exact hd
 by_cases hh:zja L s.x.2.2=true
 ·rw [h.heapThen hh]
  have hc:=h.S.chain;have hpos:=he.symm.trans h.eq;rw [qs6] at hpos;rcases hpos with ⟨c,hc1,hc2⟩|⟨c,hc1,hc2⟩
  ·cases c with
   |nil =>
    simp only [qm1,qb3] at hc2;rw [hc2.1] at hr;exact (zkk hh hr).elim
   |cons z c =>
    simp only [qn2,qb3] at hc2;obtain ⟨rfl,hc2⟩:=hc2;have hra:r∈a:=by rw [hc1];simp
    have hla:∀y∈a2,zja L y.x.2.2=true->D y.x.1=true:=fun y hy hyh=>by
     rw [← h.insL (by rw [hc1];simp [hy])]
     exact hl y hy hyh
    have h1:=hm a2 r b2 he hr hrd hla;rw [h.heapNow hh] at h1;exact h1.trans (hsub r hra hr (h.bitL hrd))
  ·cases c with
   |nil =>
    simp only [qm1,qb3] at hc2;rw [← hc2.1] at hr;exact (zkk hh hr).elim
   |cons z c =>
    simp only [qn2,qb3] at hc2;obtain ⟨rfl,hc2⟩:=hc2;rw [he] at hc;rw [(hc.at a2).2,hc1,zan];show SubN L all r (HD L tt c (if tt s.x.1=true/\zja L s.x.2.2=true then s.H' else _)) _
    rw [qi ⟨rfl,hh⟩,zey]
    ·exact SubN.same
    ·intro y hy
     cases hyh:zja L y.x.2.2 with
     |false=>rfl
     |true =>
      have hyb:y∈b:=by rw [hc2];simp [hy]
      have:=hl y (by rw [hc1];simp [hy]) hyh
      rw [h.insR hyb,h.heavyR hh y hyb hyh] at this;cases this
 ·have hh:zja L s.x.2.2=false:=by simpa using hh
  rw [h.heapLight hh];refine hm a2 r b2 he hr hrd fun y hy hyh=> ?_
  have h1:=hl y hy hyh;have h1:(if y.x.1=s.x.1 then true else D y.x.1)=true:=h1
  split at h1
  ·next hi =>
   rw [h.other (by rw [he];simp [hy]) hi,hh] at hyh
   cases hyh
  ·exact h1
end
section
variable {L:Lk}{P:Program}{B:Nat}{rec:Rec}{F:Fence}
def TG (f:Stp->Option AV):List Stp->Tr AV->Tr AV
 | [],T=>T
 |s::ss,T=>TG f ss (match f s with|some v=>putT T s.x.2.2.dst v|none=>T)
def vals (D0 D:Nat->Bool) (R:Nat->AV) (s:Stp):Option AV:=if D0 s.x.1=true then some s.v else if D s.x.1=true then some (R s.x.1) else none
theorem zed1 (f:Stp->Option AV) (a b:List Stp):∀T,TG f (a ++ b) T=TG f b (TG f a T):=by
 induction a with
 |nil=>intro T;rfl
 |cons s a ih=>intro T;exact ih _
theorem zgs {f g:Stp->Option AV}{t:Nat}(ss:List Stp):∀(T T':Tr AV),(∀s∈ss,f s≠g s->s.x.2.2.dst≠some t)->getT T t=getT T' t->getT (TG f ss T) t=getT (TG g ss T') t:=by
 induction ss with
 |nil=>intro T T' _ h;exact h
 |cons s ss ih =>
  intro T T' hs h;refine ih _ _ (fun y hy=>hs y (by simp [hy])) ?_
  have h0:=hs s (by simp)
  by_cases hd:s.x.2.2.dst=some t
  ·have he:f s=g s:=by
    by_cases he:f s=g s
    ·exact he
    ·exact absurd hd (h0 he)
   rw [he];cases g s with
   |none=>exact h
   |some v=>simp only;rw [zld,zld,qi hd,qi hd]
  ·have k:∀(o:Option AV) (T:Tr AV),getT (match o with|some v=>putT T s.x.2.2.dst v|none=>T) t=getT T t:=by
    intro o T;cases o with
    |none=>rfl
    |some v=>simp only;rw [zld,qd hd]
   rw [k,k,h]
theorem zjh1 {f:Stp->Option AV}{t:Nat}(ss:List Stp):∀(T:Tr AV),(∀s∈ss,∀v,f s=some v->s.x.2.2.dst≠some t)->getT (TG f ss T) t=getT T t:=by
 induction ss with
 |nil=>intro T _;rfl
 |cons s ss ih =>
  intro T hs;refine (ih _ (fun y hy=>hs y (by simp [hy]))).trans ?_
  cases hf:f s with
  |none=>rfl
  |some v=>simp only;rw [zld,qd (hs s (by simp) v hf)]
theorem TG_at {f:Stp->Option AV}{t:Nat}{a b:List Stp}{s:Stp}{v:AV}(T:Tr AV) (hd:s.x.2.2.dst=some t) (hv:f s=some v) (hb:∀y∈b,∀v,f y=some v->y.x.2.2.dst≠some t):getT (TG f (a ++ s::b) T) t=v:=by
 rw [zed1];show getT (TG f b (match f s with|some v=>putT (TG f a T) s.x.2.2.dst v|none=>TG f a T)) t=v
 rw [hv,zjh1 b _ hb];simp only;rw [zld,qi hd]
theorem TG_TD (D:Nat->Bool) (ss:List Stp):∀T,TD D ss T=TG (fun s=>if D s.x.1=true then some s.v else none) ss T:=by
 induction ss with
 |nil=>intro T;rfl
 |cons s ss ih =>
  intro T;show TD D ss (if D s.x.1=true then putT T s.x.2.2.dst s.v else T)=_
  rw [ih];show _=TG _ ss (match (if D s.x.1=true then some s.v else none) with|some v=>putT T s.x.2.2.dst v|none=>T)
  split<;>rfl
theorem zfd1 {E:Env}{H:AH}{c:Nat}(h:Own E H c):Lives E H c:=by
 obtain ⟨i,b,hg,ho,_,he⟩:=h;exact ⟨i,b,hg,by cases b<;>first|rfl|(simp [ABlk.own] at ho),he⟩
theorem zml1 {E:Env}{H:AH}{w:World}(hS:St B E H w){c:Nat}(h:Lives E H c):c<w.heap.size:=by
 obtain ⟨i,b,hg,hl,rfl⟩:=h;exact (hS.self.blk i b hg).obj hl
structure Pend (L:Lk) (B:Nat) (s:Stp) (D0:Nat->Bool) (E:Env) (H:AH) (w0 w:World) (c:Nat) (raw:AV):Prop where
 fl:zpd L s.x.2.2=true
 dep:Deps s.x.2.2 D0
 data:∃b z FV ex,FlS s b z FV/\zik L s.x.2.2=z/\(∀(E':Env) (i:Nat),E' i=⟨c,0,ex⟩->BRel E' i b w/\conc E' (FV i)=conc E' raw)
 base:B<=c
 ge:w0.heap.size<=c
 lt:c<w.heap.size
 dead:¬Lives E H c
theorem Deps.mono {o:Oper}{D D':Nat->Bool}(h:Deps o D) (hd:∀i,D i=true->D' i=true):Deps o D':=fun e he hb=>hd _ (h e he hb)
theorem Pend.next {s:Stp}{D0 D0':Nat->Bool}{E E1:Env}{H H1:AH}{w0 w w1:World}{c:Nat}{raw:AV}(h:Pend L B s D0 E H w0 w c raw) (hd:∀i,D0 i=true->D0' i=true) (hp:Post E H w E1 H1 w1):Pend L B s D0' E1 H1 w0 w1 c raw:=by
 obtain ⟨b,z,FV,ex,h1,h2,h3⟩:=h.data;refine ⟨h.fl,h.dep.mono hd,⟨b,z,FV,ex,h1,h2,fun E' i hi=>⟨(h3 E' i hi).1.congr fun _=> ?_,(h3 E' i hi).2⟩⟩,h.base,h.ge,qz h.lt hp.size,fun hl=> ?_⟩
 ·rw [hi];exact hp.frame c h.lt fun ho=>h.dead (zfd1 ho)
 ·rcases hp.lives c hl with hl|hl
  ·exact h.dead hl
  ·have:=h.lt;omega
structure Inv (L:Lk) (B:Nat) (all:List Oper) (T:Tr AV) (H:AH) (ss:List Stp) (zz:Bool) (E0:Env) (w0:World) (a0:Act) (D D0:Nat->Bool) (C:Nat->Nat) (R:Nat->AV) (E:Env) (w:World) (a:Act):Prop where
 closedD:zwo all D
 closed:zwo all D0
 sub:∀i,D0 i=true->D i=true
 pref:Pref L ss D0
 st:St B E (HD L D0 ss H) w
 wf:(HD L D0 ss H).Wf
 tmps:StT E (HD L D0 ss H).next (TG (vals D0 D R) ss T) a.tmps
 post:Post E0 (mz zz H) w0 E (mz zz (HD L D0 ss H)) w
 size:a.tmps.size=a0.tmps.size
 defs:a.defers=a0.defers
 mono:Mono L all H ss D0
 mark:∀s∈ss,zik L s.x.2.2=true->D0 s.x.1=true->(HD L D0 ss H).fz=true
 pend:∀s∈ss,D s.x.1=true->D0 s.x.1=false->Pend L B s D0 E (HD L D0 ss H) w0 w (C s.x.1) (R s.x.1)
 dist:∀s∈ss,∀t∈ss,D s.x.1=true->D0 s.x.1=false->D t.x.1=true->D0 t.x.1=false->s.x.1≠t.x.1->C s.x.1≠C t.x.1
theorem StT.congr {E:Env}{n:Nat}{T T':Tr AV}{tmps:Array Value}(h:StT E n T tmps) (he:∀t,getT T' t=getT T t):StT E n T' tmps:=by
 intro E' hE t;rw [he t];exact h E' hE t
theorem zhe {T T':Tr AV}{all:List Oper}{o:Oper}{H:AH}(h:∀t∈zbi all o,getT T t=getT T' t):zwa L rec T o H=zwa L rec T' o H:=by
 unfold zwa;rw [zby (L:=L) (T:=T) (T':=T') (o:=o) (H:=H) fun t ht=>h t (zyo ht)]
theorem Post.mzz {E E1:Env}{H H1:AH}{w w1:World}(h:Post E H w E1 H1 w1) (z:Bool):Post E (mz z H) w E1 (mz z H1) w1 :=
 ⟨h.ext,h.next,h.lo,h.hide,h.tape,h.os,h.output,h.size,h.frame,h.own,h.keep,h.loops,fun hf=>by
  have hf:(H1.fz || z)=false:=hf;rw [qv4] at hf;obtain ⟨k1,k2⟩:=h.froz hf.1;exact ⟨by show (H.fz || z)=false;rw [k1,hf.2];rfl,k2⟩,h.lives,h.dr⟩
theorem mz_wf {H:AH}(h:H.Wf) (z:Bool):(mz z H).Wf:=⟨h.tree,h.lo,h.hide⟩
theorem bind_st {E:Env}{H:AH}{w:World}(hw:H.Wf) (hS:St B E H w){b:ABlk}{x:EB}(hb:∀E':Env,E' H.next=x->BRel E' H.next b w) (hdead:¬Lives E H x.blk) (hB:B<=x.blk):St B (E.add H.next x) (H.new b) w:=by
 intro E' hE;have hA:Agree H.next E E':=(Env.add_agree E H.next _).trans hE (qy3 _);have hn:E' H.next=x:=(hE H.next (qd1 _)).trans (Env.add_self _ _ _);have r:=hS E' hA;have dead:∀j d,H.get j=some d->d.live=true->(E' j).blk≠x.blk:=fun j d hg hl he=>hdead ⟨j,d,hg,hl,by rw [← he,hA j (hw.get_lt hg)]⟩
 refine ⟨fun i c hg=> ?_,fun i j c d hi hj hne hc hd=> ?_,fun i c hg hc=> ?_,r.size⟩
 ·rw [AH.new_get hw] at hg
  split at hg
  ·next h=>subst h;cases hg;exact hb E' hn
  ·exact r.blk i c hg
 ·rw [AH.new_get hw] at hi hj
  have hlc:c.live=true:=by cases c<;>first|rfl|(simp [ABlk.own] at hc)
  split at hi
  ·next h =>
   subst h;rw [qd (qa6 hne)] at hj;rw [hn];exact (dead j d hj hd).symm
  ·split at hj
   ·next h'=>subst h';rw [hn];exact dead i c hi hlc
   ·exact r.inj i j c d hi hj hne hc hd
 ·rw [AH.new_get hw] at hg
  split at hg
  ·next h=>subst h;rw [hn];exact hB
  ·exact r.base i c hg hc
theorem zgd1 {E0 E:Env}{Ha Hb:AH}{w0 w:World}(hw:Hb.Wf) (hwa:Ha.Wf) (h:Post E0 Ha w0 E Hb w){b:ABlk}{x:EB}(hge:w0.heap.size<=x.blk) (q:Bool) (hq:q=false->Hb.fz=false) :
  Post E0 Ha w0 (E.add Hb.next x) {Hb.new b with fz:=q} w:=by
 have hadd:Agree Hb.next E (E.add Hb.next x):=Env.add_agree E Hb.next _;have hget:∀i,({Hb.new b with fz:=q}:AH).get i=(Hb.new b).get i:=fun _=>rfl
 refine ⟨h.ext.trans hadd h.next,qe5 h.next,h.lo,h.hide,h.tape,h.os,h.output,h.size,h.frame,fun c ho=> ?_,fun i hi=> ?_,h.loops,fun hf=>h.froz (hq hf),fun c ho=> ?_,h.dr⟩
 ·obtain ⟨i,d,hg,hd,hlo,he⟩:=ho
  rw [hget,AH.new_get hw] at hg;split at hg
  ·next hi=>subst hi;rw [Env.add_self] at he;right;rw [← he];exact hge
  ·refine h.own c ⟨i,d,hg,hd,hlo,?_⟩
   rw [← he,hadd i (hw.get_lt hg)]
 ·show (Hb.tree.set Hb.next b).get i=_
  rw [Tr.get_set,qd,h.keep i hi];rintro rfl;have hle:=h.next;rcases hi with hi|hi
  ·exact absurd hwa.lo oM
  ·rw [hwa.vis_ge hle] at hi;cases hi
 ·obtain ⟨i,d,hg,hd,he⟩:=ho
  rw [hget,AH.new_get hw] at hg;split at hg
  ·next hi=>subst hi;rw [Env.add_self] at he;right;rw [← he];exact hge
  ·refine h.lives c ⟨i,d,hg,hd,?_⟩
   rw [← he,hadd i (hw.get_lt hg)]
section
variable {all:List Oper}{T T1:Tr AV}{H H1:AH}{ss a b:List Stp}{s:Stp}{D D0:Nat->Bool}{zz:Bool}{E0 E:Env}{w0 w:World}{a0 act:Act}{C:Nat->Nat}{R:Nat->AV}
theorem At.pref' (h:At L rec all T H ss T1 H1 D a s b):Pref L ss (ins D s.x.1):=by
 intro a' t b' he hh hd y hy hyh;have up:∀z:Stp,D z.x.1=true->ins D s.x.1 z.x.1=true:=fun z hz=>by unfold ins;split<;>first|rfl|exact hz
 by_cases ht:t.x.1=s.x.1
 ·have hts:t=s:=h.other (by rw [he];simp) ht
  subst hts;have hfree:zxg L t.x.2.2=false:=by
   cases hx:zxg L t.x.2.2 with
   |false=>rfl
   |true=>exact (zjk hh hx).elim
  have hpos:=he.symm.trans h.eq;rw [qs6] at hpos;have hdup:∀(c:List Stp) (x:Stp),t∈c->(∀z∈c,Known2 L all z t)->False:=fun c x hc hk=>(hk t hc).pair.ne rfl
  rcases hpos with ⟨c,hc1,hc2⟩|⟨c,hc1,hc2⟩
  ·exact up y (h.hl hfree y (by rw [hc1];simp [hy]) hyh)
  ·cases c with
   |nil=>rw [qw1] at hc1;exact up y (h.hl hfree y (by rw [← hc1];exact hy) hyh)
   |cons z c =>
    exfalso
    simp only [qn2,qb3] at hc2;obtain ⟨rfl,hc2⟩:=hc2;have htb:t∈b:=by rw [hc2];simp
    exact (h.right t htb).pair.ne rfl
 ·have hdt:D t.x.1=true:=by
   have hd:(if t.x.1=s.x.1 then true else D t.x.1)=true:=hd
   rwa [qd ht] at hd
  exact up y (h.pref a' t b' he hh hdt y hy hyh)
theorem zap {D:Nat->Bool}{k:Nat}{o:Oper}(hop:all[k]? =some o) (hc:zwo all D) (hd:Deps o D):zwo all (ins D k):=by
 intro i o' hi hdi e he hb;show (if e.on=k then true else D e.on)=true
 split
 ·rfl
 ·by_cases hk:i=k
  ·subst hk
   rw [hop] at hi;cases hi;exact hd e he hb
  ·have hdi:(if i=k then true else D i)=true:=hdi
   rw [qd hk] at hdi;exact hc i o' hi hdi e he hb
theorem Inv.bitP (hS:Steps L rec all T H ss T1 H1) (hI:Inv L B all T H ss zz E0 w0 a0 D D0 C R E w act){y:Stp}(hy:y∈ss) (hd:D y.x.1=true){j:Nat}(hj:D0 j=false):Nat.testBit y.x.2.1 j=false:=by
 cases hb:Nat.testBit y.x.2.1 j with
 |false=>rfl
 |true =>
  have hk:=hS.one y hy;have:D0 j=true:=by
   cases hd0:D0 y.x.1 with
   |true=>exact hk.anc D0 hI.closed (fun e he hbd=>hI.closed y.x.1 y.x.2.2 hk.op hd0 e he hbd) j hb
   |false=>exact hk.anc D0 hI.closed (hI.pend y hy hd hd0).dep j hb
  rw [hj] at this;cases this
theorem Inv.absorb (hS:Steps L rec all T H ss T1 H1) (hw0:H.Wf) (hI:Inv L B all T H ss zz E0 w0 a0 D D0 C R E w act) (heq:ss=a ++ s::b) (hD:D s.x.1=true) (hD0:D0 s.x.1=false) (hbef:∀y∈a,zja L y.x.2.2=true->D0 y.x.1=true) :
  ∃E',Inv L B all T H ss zz E0 w0 a0 D (ins D0 s.x.1) C R E' w act:=by
 have hs:s∈ss:=by rw [heq];simp
 have hP:=hI.pend s hs hD hD0;obtain ⟨bl,z,FV,ex,hfl,hz,hdata⟩:=hP.data;have hAt:At L rec all T H ss T1 H1 D0 a s b:=⟨hS,heq,hI.closed,hD0,hP.dep,fun _=>hbef,hI.pref⟩
 have hh:=zki hP.fl;have e1:=hAt.heapNow hh;have e2:HD L (ins D0 s.x.1) ss H= {(HD L D0 ss H).new bl with fz:=(HD L D0 ss H).fz || z}:=by rw [hAt.heapThen hh,hfl.heap,e1]
 have up:∀i,D0 i=true->ins D0 s.x.1 i=true:=fun i hi=>by unfold ins;split<;>first|rfl|exact hi
 have dn:∀i,ins D0 s.x.1 i=true->i=s.x.1\/D0 i=true:=fun i hi=>by
  have hi:(if i=s.x.1 then true else D0 i)=true:=hi
  split at hi
  ·next h=>exact .inl h
  ·exact .inr hi
 have hst:St B (E.add (HD L D0 ss H).next ⟨C s.x.1,0,ex⟩) ((HD L D0 ss H).new bl) w:=bind_st hI.wf hI.st (fun E' hE'=>(hdata E' _ hE').1) hP.dead hP.base
 refine ⟨E.add (HD L D0 ss H).next ⟨C s.x.1,0,ex⟩,hI.closedD,hAt.closed,fun i hi=>(dn i hi).elim (fun h=>h▸hD) (hI.sub i),hAt.pref',?_,?_,?_,?_,hI.size,hI.defs,?_,?_,?_,?_⟩
 ·rw [e2];exact fun E' hE=>⟨(hst E' hE).blk,(hst E' hE).inj,(hst E' hE).base,(hst E' hE).size⟩
 ·rw [e2];exact ⟨(AH.new_wf hI.wf bl).tree,(AH.new_wf hI.wf bl).lo,(AH.new_wf hI.wf bl).hide⟩
 ·intro E'' hE t
  rw [e2] at hE;have hA:Agree (HD L D0 ss H).next E E'':=(Env.add_agree E _ _).trans hE (qy3 _);have hn:E'' (HD L D0 ss H).next=⟨C s.x.1,0,ex⟩:=(hE _ (qd1 _)).trans (Env.add_self _ _ _);rw [hI.tmps E'' hA t];by_cases hd:s.x.2.2.dst=some t
  ·have last:∀y∈b,D y.x.1=true->y.x.2.2.dst≠some t:=fun y hy hyd =>
    (zbg ((hAt.right y hy).pair.apart (hI.bitP hS (by rw [heq];simp [hy]) hyd hD0))).2.2 hd
   have v1:getT (TG (vals D0 D R) ss T) t=R s.x.1:=by
    rw [heq];refine TG_at T hd (by unfold vals;rw [qd (by rw [hD0];simp),qi hD]) fun y hy v hv=>last y hy ?_
    unfold vals at hv;split at hv
    ·next h=>exact hI.sub _ h
    ·split at hv
     ·next h=>exact h
     ·cases hv
   have v2:getT (TG (vals (ins D0 s.x.1) D R) ss T) t=s.v:=by
    rw [heq];refine TG_at T hd (by unfold vals;rw [qi (zzg _ _)]) fun y hy v hv=>last y hy ?_
    unfold vals at hv;split at hv
    ·next h=>exact (dn _ h).elim (fun h=>h▸hD) (hI.sub _)
    ·split at hv
     ·next h=>exact h
     ·cases hv
   rw [v1,v2,hfl.v,← e1];exact ((hdata E'' _ hn).2).symm
  ·congr 1
   refine zgs ss T T (fun y hy hne=> ?_) rfl
   by_cases hi:y.x.1=s.x.1
   ·rw [hAt.other hy hi];exact hd
   ·exfalso
    apply hne
    unfold vals ins;rw [qd hi]
 ·have:=zgd1 (x:=⟨C s.x.1,0,ex⟩) (b:=bl) (mz_wf hI.wf zz) (mz_wf hw0 zz) hI.post hP.ge (((HD L D0 ss H).fz || z) || zz) (fun hq=>by
   show ((HD L D0 ss H).fz || zz)=false
   rw [qv4,qv4] at hq;rw [hq.1.1,hq.2];rfl)
  rw [e2];exact this
 ·refine hAt.mono hI.mono fun r _ hr _=>SubBl.toN hr fun _ i b' _ hg=> ?_
  rw [hfl.heap];have hwf:s.H.Wf:=by rw [← e1];exact hI.wf
  show (s.H.new bl).get i=_
  rw [AH.new_get hwf,qd (Nat.ne_of_lt (hwf.get_lt hg))];exact hg
 ·intro y hy hm hd
  rw [e2];show ((HD L D0 ss H).fz || z)=true
  rcases dn _ hd with hi|hi
  ·have:y=s:=hAt.other hy hi
   subst this;rw [hz] at hm;rw [hm,Bool.or_true]
  ·rw [hI.mark y hy hm hi];rfl
 ·intro y hy hd hd0
  have hne:y.x.1≠s.x.1:=fun h=>by rw [h,zzg] at hd0;cases hd0
  have hd0':D0 y.x.1=false:=by
   have hd0:(if y.x.1=s.x.1 then true else D0 y.x.1)=false:=hd0
   rwa [qd hne] at hd0
  have p:=hI.pend y hy hd hd0';refine ⟨p.fl,p.dep.mono up,p.data,p.base,p.ge,p.lt,?_⟩;rw [e2];rintro ⟨i,d,hg,hl,he⟩
  replace hg:((HD L D0 ss H).new bl).get i=some d:=hg
  rw [AH.new_get hI.wf] at hg;split at hg
  ·next hi =>
   subst hi;rw [Env.add_self] at he;exact hI.dist s hs y hy hD hD0 hd hd0' (qa6 hne) he
  ·refine p.dead ⟨i,d,hg,hl,?_⟩
   rw [← he,Env.add_agree E _ _ i (hI.wf.get_lt hg)]
 ·intro y hy t ht h1 h2 h3 h4 h5
  have dn':∀i,ins D0 s.x.1 i=false->D0 i=false:=fun i hi=>by
   cases h:D0 i with
   |false=>rfl
   |true=>rw [up i h] at hi;cases hi
  exact hI.dist y hy t ht h1 (dn' _ h2) h3 (dn' _ h4) h5
def Full (L:Lk) (ss:List Stp) (D D0:Nat->Bool):Prop:= ∀a f b,ss=a ++ f::b->D f.x.1=true->(∀y∈a,zja L y.x.2.2=true->D y.x.1=true)->D0 f.x.1=true
theorem Inv.sweep (hS:Steps L rec all T H ss T1 H1) (hw0:H.Wf):∀(rest pre:List Stp) (D0:Nat->Bool) (E:Env),ss=pre ++ rest->Inv L B all T H ss zz E0 w0 a0 D D0 C R E w act ->
  (∀a f b,pre=a ++ f::b->D f.x.1=true->(∀y∈a,zja L y.x.2.2=true->D y.x.1=true)->D0 f.x.1=true)-> ∃D0' E',Inv L B all T H ss zz E0 w0 a0 D D0' C R E' w act/\Full L ss D D0':=by
 intro rest
 induction rest with
 |nil =>
  intro pre D0 E he hI hp;rw [qw1] at he;subst he;exact ⟨D0,E,hI,hp⟩
 |cons f rest ih =>
  intro pre D0 E he hI hp;have hpre:∀(D1:Nat->Bool),(∀i,D0 i=true->D1 i=true)->(D f.x.1=true->(∀y∈pre,zja L y.x.2.2=true->D y.x.1=true)->D1 f.x.1=true) ->
    ∀a g b,pre ++ [f]=a ++ g::b->D g.x.1=true->(∀y∈a,zja L y.x.2.2=true->D y.x.1=true)->D1 g.x.1=true:=by
   intro D1 hup hf a g b hab hd hy;rcases qs6.1 hab with ⟨c,h1,h2⟩|⟨c,h1,h2⟩
   ·cases c with
    |nil =>
     simp only [qm1,qb3] at h2;obtain ⟨rfl,_⟩:=h2;rw [qw1] at h1;subst h1;exact hf hd hy
    |cons z c=>simp at h2
   ·cases c with
    |nil =>
     simp only [qm1,qb3] at h2;obtain ⟨rfl,_⟩:=h2;rw [qw1] at h1;subst h1;exact hf hd hy
    |cons z c =>
     simp only [qn2,qb3] at h2;obtain ⟨rfl,_⟩:=h2;exact hup _ (hp a g c h1 hd hy)
  by_cases hc:D f.x.1=true/\D0 f.x.1=false/\ ∀y∈pre,zja L y.x.2.2=true->D y.x.1=true
  ·obtain ⟨c1,c2,c3⟩:=hc
   obtain ⟨E',hI'⟩:=hI.absorb hS hw0 he c1 c2 fun y hy hh=>by
    obtain ⟨p1,p2,hpp⟩:=qs4 hy;exact hp p1 y p2 hpp (c3 y hy hh) fun z hz hzh=>c3 z (by rw [hpp];simp [hz]) hzh
   exact ih (pre ++ [f]) (ins D0 f.x.1) E' (by rw [he];simp) hI' (hpre _ (fun i hi=>by unfold ins;split<;>first|rfl|exact hi) fun _ _=>zzg _ _)
  ·refine ih (pre ++ [f]) D0 E (by rw [he];simp) hI (hpre _ (fun _ h=>h) fun h1 h2=> ?_)
   cases h0:D0 f.x.1 with
   |true=>rfl
   |false=>exact absurd ⟨h1,h0,h2⟩ hc
end
section
variable {all:List Oper}{T T1:Tr AV}{H H1:AH}{ss a b:List Stp}{s:Stp}{D D0:Nat->Bool}{zz:Bool}{E0 E:Env}{w0 w:World}{a0 act:Act}{C:Nat->Nat}{R:Nat->AV}
theorem Inv.anc0 (hS:Steps L rec all T H ss T1 H1) (hI:Inv L B all T H ss zz E0 w0 a0 D D0 C R E w act) (hF:Full L ss D D0) (heq:ss=a ++ s::b) (hdep:Deps s.x.2.2 D){y:Stp}(hy:y∈ss) (hb:Nat.testBit s.x.2.1 y.x.1=true):D0 y.x.1=true:=by
 have hk:=hS.one s (by rw [heq];simp)
 have hDa:∀j,Nat.testBit s.x.2.1 j=true->D j=true:=fun j hj=>hk.anc D hI.closedD hdep j hj
 have hin:∃z∈a,z.x.1=y.x.1:=by
  have hcl:zwo all (fun i=>a.any fun z=>Nat.beq z.x.1 i):=by
   intro i o hi hd e he hbd;simp only [qw3] at hd ⊢
   obtain ⟨z,hz,hzi⟩:=hd;have hzi:=qf hzi;subst hzi;have hop:=(hS.one z (by rw [heq];simp [hz])).op
   rw [hop] at hi;cases hi;obtain ⟨a1,a2,rfl⟩:=qs4 hz;obtain ⟨q,hq,hqe⟩:=hS.deps a1 z (a2 ++ s::b) (by rw [heq];simp) e he hbd
   exact ⟨q,by simp [hq],by rw [hqe];exact qt2 _⟩
  have hd:Deps s.x.2.2 (fun i=>a.any fun z=>Nat.beq z.x.1 i):=by
   intro e he hbd;obtain ⟨q,hq,hqe⟩:=hS.deps a s b heq e he hbd;exact qw3.2 ⟨q,hq,by rw [hqe];exact qt2 _⟩
  have:=hk.anc _ hcl hd y.x.1 hb;simp only [qw3] at this;obtain ⟨z,hz,hzi⟩:=this;exact ⟨z,hz,qf hzi⟩
 obtain ⟨z,hz,hzy⟩:=hin;rw [← hzy] at hb ⊢
 cases h0:D0 z.x.1 with
 |true=>rfl
 |false =>
  have hzs:z∈ss:=by rw [heq];simp [hz]
  have hzD:=hDa _ hb;have hP:=hI.pend z hzs hzD h0;obtain ⟨a1,a2,haa⟩:=qs4 hz;have hch:=hS.chain;rw [heq] at hch;have hpre:=hch.pre;rw [haa] at hpre;simp only [qe3,qp1,qo6,qg7,qw1,qi1,qg5] at hpre;have hfl:=flOk_ok hk.fl _ _ _ hpre hP.fl hb;have:=hF a1 z (a2 ++ s::b) (by rw [heq,haa];simp) hzD fun q hq hqh=>hDa _ (hfl q.x (by rw [qk6,qy2];exact ⟨q,hq,rfl⟩) hqh)
  rw [h0] at this;cases this
theorem zhd1 {L:Lk}{H H':AH}{i:Nat}(h:H'.get i=H.get i){t:TypeId}{k:AV}{ok:Bool}:zob L t (.map i) k ok H'=zob L t (.map i) k ok H:=by
 unfold zob;simp only [h]
theorem zid1 (hL:LOk0 L P) (hr:RecOk P B rec) (hF:Open F){ops:Array Oper}{Q:Exit->Act->World->Prop}
  (hS:Steps L rec ops.toList T H ss T1 H1) (hw0:H.Wf) (hzz:∀s∈ss,zik L s.x.2.2=true->zz=true) (heq:ss=a ++ s::b) (hnew:D s.x.1=false) (hdep:Deps s.x.2.2 D)
  (hI:Inv L B ops.toList T H ss zz E0 w0 a0 D D0 C R E w act) (hFull:Full L ss D D0) (hd:∀o∈ops.toList,∀d,o.dst=some d->d<a0.tmps.size){K:Act->World->Prop}
  (hK:∀E2 w2 a2 D2 C2 R2,Inv L B ops.toList T H ss zz E0 w0 a0 (ins D s.x.1) D2 C2 R2 E2 w2 a2->K a2 w2):wpOpIn F 0 P ops Q s.x.1 K act w:=by
 have hsm:s∈ss:=by rw [heq];simp
 have hk1:=hS.one s hsm;have h0:ops[s.x.1]? =some s.x.2.2:=by have:=hk1.op;simpa using this
 have hdo:∀d,s.x.2.2.dst=some d->d<act.tmps.size:=fun d hdd=>by
  rw [hI.size];exact hd _ (qj6 hk1.op) d hdd
 have hnew0:D0 s.x.1=false:=by
  cases h:D0 s.x.1 with
  |false=>rfl
  |true=>rw [hI.sub _ h] at hnew;cases hnew
 have bitS:∀y∈ss,D0 y.x.1=false->Nat.testBit s.x.2.1 y.x.1=false:=fun y hy hy0=>by
  cases hb:Nat.testBit s.x.2.1 y.x.1 with
  |false=>rfl
  |true=>rw [hI.anc0 hS hFull heq hdep hy hb] at hy0;cases hy0
 have hdep0:Deps s.x.2.2 D0:=by
  intro e he hbd;obtain ⟨q,hq,hqe⟩:=hS.deps a s b heq e he hbd;rw [← hqe];refine hI.anc0 hS hFull heq hdep (by rw [heq];simp [hq]) ?_
  rw [hqe,hk1.bits];exact zhl1 e he hbd
 have hleft:∀y∈a,Known2 L ops.toList y s:=by
  have:=hS.two;rw [heq,qx5] at this;exact fun y hy=>this.2.2 y hy s (by simp)
 have hright:∀y∈b,Known2 L ops.toList s y:=by
  have:=hS.two;rw [heq,qx5,qw6] at this;exact fun y hy=>this.2.1.1 y hy
 have hother:∀y∈ss,y.x.1=s.x.1->y=s:=by
  intro y hy hi;rw [heq,qp2,qg1] at hy;rcases hy with hy|rfl|hy
  ·exact absurd hi (hleft y hy).pair.ne
  ·rfl
  ·exact absurd hi.symm (hright y hy).pair.ne
 have lastR:∀y∈b,D y.x.1=true->clash ops.toList s.x.2.2 y.x.2.2=false:=fun y hy hyd=>(hright y hy).pair.apart (hI.bitP hS (by rw [heq];simp [hy]) hyd hnew0)
 have hlk0:∀t∈zbi ops.toList s.x.2.2,getT (TG (vals D0 D R) ss T) t=getT (TD D0 ss T) t:=by
  intro t ht;rw [TG_TD];refine zgs ss T T (fun y hy hne=> ?_) rfl
  have hyp:D y.x.1=true/\D0 y.x.1=false:=by
   unfold vals at hne;cases h1:D0 y.x.1 with
   |true=>rw [h1] at hne;simp at hne
   |false =>
    cases h2:D y.x.1 with
    |true=>exact ⟨rfl,rfl⟩
    |false=>rw [h1,h2] at hne;simp at hne
  rw [heq,qp2,qg1] at hy;rcases hy with hy|rfl|hy
  ·exact fun hdst=>(zbg ((hleft y hy).pair.apart (bitS y (by rw [heq];simp [hy]) hyp.2))).1 hdst ht
  ·rw [hnew] at hyp;cases hyp.1
  ·exact fun hdst=>(zbg (lastR y hy hyp.1)).2.1 hdst ht
 have hlkT:∀t∈zbi ops.toList s.x.2.2,getT (TD D0 ss T) t=getT s.T t:=by
  intro t ht;have hc:=hS.chain;rw [heq] at hc;rw [heq,zkj,(hc.at a).1,zbs]
  ·refine zih1 a T T (fun y hy hdd=> ?_) rfl
   have hyd:D0 y.x.1=false:=by
    cases hh:D0 y.x.1 with
    |false=>rfl
    |true=>rw [hh] at hdd;exact absurd rfl hdd
   exact fun hdst=>(zbg ((hleft y hy).pair.apart (bitS y (by rw [heq];simp [hy]) hyd))).1 hdst ht
  ·intro y hy hyd hdst
   rcases qg1.1 hy with rfl|hy
   ·rw [hnew0] at hyd;cases hyd
   ·exact (zbg (lastR y hy (hI.sub _ hyd))).2.1 hdst ht
 have hlk:∀t∈zbi ops.toList s.x.2.2,getT (TG (vals D0 D R) ss T) t=getT s.T t:=fun t ht=>(hlk0 t ht).trans (hlkT t ht)
 have valsD:∀(D0 D:Nat->Bool) (R:Nat->AV) (y:Stp) (v:AV),(∀i,D0 i=true->D i=true)->vals D0 D R y=some v->D y.x.1=true:=by
  intro D0 D R y v hsub hv;unfold vals at hv;split at hv
  ·next h=>exact hsub _ h
  ·split at hv
   ·next h=>exact h
   ·cases hv
 have subI:∀{D0':Nat->Bool},(∀i,D0' i=true->D i=true)-> ∀i,D0' i=true->ins D s.x.1 i=true:=fun h i hi=>by unfold ins;split<;>first|rfl|exact h i hi
 have insD:∀y:Stp,y≠s->y∈ss->ins D s.x.1 y.x.1=D y.x.1:=fun y hne hy=>qd fun h=>hne (hother y hy h)
 have temps:∀(D0':Nat->Bool) (R':Nat->AV) (v:AV),(∀i,D0' i=true->ins D s.x.1 i=true)->vals D0' (ins D s.x.1) R' s=some v->(∀y∈ss,y≠s->vals D0' (ins D s.x.1) R' y=vals D0 D R y) ->
   ∀t,getT (TG (vals D0' (ins D s.x.1) R') ss T) t=getT (putT (TG (vals D0 D R) ss T) s.x.2.2.dst v) t:=by
  intro D0' R' v hsub hv hsame t;rw [zld];split
  ·next hdst =>
   rw [heq];refine TG_at T hdst hv fun y hy u hu=> ?_
   have hys:y≠s:=fun h=>(hright y hy).pair.ne (by rw [h])
   have hyd:=valsD _ _ _ y u hsub hu;rw [insD y hys (by rw [heq];simp [hy])] at hyd
   exact (zbg (lastR y hy hyd)).2.2 hdst
  ·next hdst =>
   refine zgs ss T T (fun y hy hne=> ?_) rfl
   by_cases hys:y=s
   ·rw [hys];exact hdst
   ·exact absurd (hsame y hy hys) hne
 unfold wpOpIn;simp only [h0];rw [zas (hI.tmps E (Agree.refl _ _)) ops s.x.2.2,zxo (all:=ops.toList) hlk];by_cases hall:zxg L s.x.2.2=false-> ∀y∈a,zja L y.x.2.2=true->D0 y.x.1=true
 ·have hAt:At L rec ops.toList T H ss T1 H1 D0 a s b:=⟨hS,heq,hI.closed,hnew0,hdep0,hall,hI.pref⟩
  have fin:∀(u:Value) (E2:Env) (w2:World),St B E2 (HD L (ins D0 s.x.1) ss H) w2->(HD L (ins D0 s.x.1) ss H).Wf->StV E2 (HD L (ins D0 s.x.1) ss H).next s.v u->Post E (HD L D0 ss H) w E2 (HD L (ins D0 s.x.1) ss H) w2->(∀r∈a,zyc L r.x.2.2=true->Nat.testBit s.x.2.1 r.x.1=false->SubN L ops.toList r s.H s.H') ->
    K (act.put s.x.2.2.dst u) w2:=by
   intro u E2 w2 h1 h2 h3 h4 h5;have up:∀i,D0 i=true->ins D0 s.x.1 i=true:=fun i hi=>by unfold ins;split<;>first|rfl|exact hi
   have dn:∀y∈ss,ins D0 s.x.1 y.x.1=true->y=s\/D0 y.x.1=true:=fun y hy hi=>by
    have hi:(if y.x.1=s.x.1 then true else D0 y.x.1)=true:=hi
    split at hi
    ·next h=>exact .inl (hother y hy h)
    ·exact .inr hi
   have off:∀y∈ss,ins D s.x.1 y.x.1=true->ins D0 s.x.1 y.x.1=false->D y.x.1=true/\D0 y.x.1=false:=fun y hy hd hd0=>by
    have hne:y≠s:=fun h=>by rw [h,zzg] at hd0;cases hd0
    rw [insD y hne hy] at hd;refine ⟨hd,?_⟩;cases h:D0 y.x.1 with
    |false=>rfl
    |true=>rw [up _ h] at hd0;cases hd0
   have sub':∀i,ins D0 s.x.1 i=true->ins D s.x.1 i=true:=fun i hi=>by
    have hi:(if i=s.x.1 then true else D0 i)=true:=hi
    show (if i=s.x.1 then true else D i)=true
    split at hi
    ·next h=>rw [qi h]
    ·next h=>rw [qd h];exact hI.sub i hi
   refine hK E2 w2 _ (ins D0 s.x.1) C R ⟨zap hk1.op hI.closedD hdep,hAt.closed,sub',hAt.pref',h1,h2,?_,hI.post.trans (h4.mzz zz),(zji _ _ _).trans hI.size,(zmh _ _ _).trans hI.defs,hAt.mono hI.mono h5,?_,?_,?_⟩
   ·refine (StT.put (hI.tmps.up h4.ext h4.next) h3 hdo).congr (temps _ _ _ sub' (by unfold vals;rw [qi (zzg _ _)]) fun y hy hne=> ?_)
    unfold vals;rw [insD y hne hy,show ins D0 s.x.1 y.x.1=D0 y.x.1 from qd fun h=>hne (hother y hy h)]
   ·intro y hy hm hyd
    have mono:(HD L D0 ss H).fz=true->(HD L (ins D0 s.x.1) ss H).fz=true:=fun hz=>by
     cases hq:(HD L (ins D0 s.x.1) ss H).fz with
     |true=>rfl
     |false=>rw [(h4.froz hq).1] at hz;cases hz
    rcases dn y hy hyd with rfl|hy0
    ·have hfl:zpd L y.x.2.2=true:=by unfold zik at hm;rw [qm] at hm;exact hm.1
     obtain ⟨bl,z,FV,hfs,hz,_⟩:=zfy (P:=P) (F:=F) hL hk1.step hfl (zrv hm);rw [hAt.heapThen (zki hfl),hfs.heap];show (y.H.fz || z)=true
     rw [← hz,hm,Bool.or_true]
    ·exact mono (hI.mark y hy hm hy0)
   ·intro y hy hyd hyd0
    obtain ⟨q1,q2⟩:=off y hy hyd hyd0;exact (hI.pend y hy q1 q2).next up h4
   ·intro y hy t ht q1 q2 q3 q4 q5
    obtain ⟨y1,y2⟩:=off y hy q1 q2;obtain ⟨t1,t2⟩:=off t ht q3 q4;exact hI.dist y hy t ht y1 y2 t1 t2 q5
  rcases hk1.step with ⟨hw,⟨hv,hH⟩,_⟩|⟨hw,hcase⟩
  ·rw [qd (by rw [hw];simp)]
   refine ⟨fun f _=>hF.1 f,?_⟩
   have he:HD L (ins D0 s.x.1) ss H=HD L D0 ss H:=by
    by_cases hh:zja L s.x.2.2=true
    ·rw [hAt.heapThen hh,hAt.heapNow hh,hH]
    ·exact hAt.heapLight (by simpa using hh)
   refine fin undef E w ?_ ?_ ?_ ?_ ?_
   ·rw [he];exact hI.st
   ·rw [he];exact hI.wf
   ·rw [hv];exact fun _ _=>rfl
   ·rw [he];exact Post.refl _ _ _
   ·intro r _ _ _;rw [hH];exact SubN.same
  ·rw [qi hw]
   rcases hcase with ⟨hh,⟨H2,hev⟩,hH⟩|⟨hh,hwt,hev⟩|⟨hh,hfar,hev⟩|⟨hh,hwt,hev⟩
   ·have he:=hAt.heapLight hh
    have hev2:zwa L rec (TG (vals D0 D R) ss T) s.x.2.2 (HD L D0 ss H)=some (s.v,HD L D0 ss H):=by
     rw [zhe (all:=ops.toList) hlk];unfold zwa at hev ⊢
     cases hop:evOp L s.T s.x.2.2 s.H with
     |none=>rw [hop] at hev;cases hev
     |some nx =>
      rw [hop] at hev;have key:∃v,nx= .val v s.H/\evOp L s.T s.x.2.2 (HD L D0 ss H)=some (.val v (HD L D0 ss H)):=by
       rcases zgy hh with hp|⟨hp,hr'⟩
       ·obtain ⟨v,h1,h2⟩:=zcy hp hop
        exact ⟨v,h1,h2 _⟩
       ·obtain ⟨v,h1,h2⟩:=zbd1 (r:=s) hw hp hop
        refine ⟨v,h1,h2 _ (hI.mono a s b heq hr' hnew0 (hall ?_))⟩;cases hx:zxg L s.x.2.2 with
        |false=>rfl
        |true=>exact (zsv hr' hx).elim
      obtain ⟨v,rfl,h2⟩:=key;rw [h2];simp only [qe2,qs7] at hev ⊢
      exact ⟨hev.1,trivial⟩
    refine zog hL hr hF hev2 hI.wf hI.st hI.tmps fun u w1 ⟨E1,hv,hS1,hp,hw1⟩=> ?_
    refine fin u E1 w1 ?_ ?_ ?_ ?_ ?_
    ·rw [he];exact hS1
    ·rw [he];exact hw1
    ·rw [he];exact hv
    ·rw [he];exact hp
    ·intro r _ _ _;rw [hH];exact SubN.same
   ·have e1:=hAt.heapNow hh
    have e2:=hAt.heapThen hh;have hev2:zwa L rec (TG (vals D0 D R) ss T) s.x.2.2 (HD L D0 ss H)=some (s.v,s.H'):=by
     rw [zhe (all:=ops.toList) hlk,e1];exact hev
    refine zog hL hr hF hev2 hI.wf hI.st hI.tmps fun u w1 ⟨E1,hv,hS1,hp,hw1⟩=> ?_
    refine fin u E1 w1 ?_ ?_ ?_ ?_ ?_
    ·rw [e2];exact hS1
    ·rw [e2];exact hw1
    ·rw [e2];exact hv
    ·rw [e2];exact hp
    ·intro r hra hr hb
     obtain ⟨a1,a2,haa⟩:=qs4 hra;have hch:=hAt.S.chain;rw [hAt.eq] at hch;have hpre:=hch.pre;rw [haa] at hpre;simp only [qe3,qp1,qo6,qg7,qw1,qi1,qg5] at hpre;exact (zxc1 _ _ hwt _ _ _ hpre hr hb).elim
   ·have e1:=hAt.heapNow hh
    have e2:=hAt.heapThen hh;have hev2:zwa L rec (TG (vals D0 D R) ss T) s.x.2.2 (HD L D0 ss H)=some (s.v,s.H'):=by
     rw [zhe (all:=ops.toList) hlk,e1];exact hev
    refine zog hL hr hF hev2 hI.wf hI.st hI.tmps fun u w1 ⟨E1,hv,hS1,hp,hw1⟩=> ?_
    refine fin u E1 w1 ?_ ?_ ?_ ?_ ?_
    ·rw [e2];exact hS1
    ·rw [e2];exact hw1
    ·rw [e2];exact hv
    ·rw [e2];exact hp
    ·intro r hra hr hb hwr
     obtain ⟨t,k,vo,j,o,hop,hgk,hrest⟩:=far_ok hfar;obtain ⟨a1,a2,haa⟩:=qs4 hra;have hch:=hAt.S.chain;rw [hAt.eq] at hch;have hpre:=hch.pre;rw [haa] at hpre;simp only [qe3,qp1,qo6,qg7,qw1,qi1,qg5] at hpre;have hsT:=(hch.at a).1;have hrT:r.T=TD tt a1 T:=by
      have hch2:=hch;rw [haa,qi1,qn2] at hch2;exact (hch2.at a1).1
     have same:∀k',(∀z∈(a2.map (·.x)).reverse ++ [r.x],z.2.2.dst≠some k')->getT s.T k'=getT r.T k':=fun k' h4=>by
      rw [hsT,haa,zkj,← hrT];refine zbs _ _ fun z hz _ hd=>h4 z.x ?_ hd
      rcases qg1.1 hz with rfl|hz
      ·simp
      ·rw [qp2];left;rw [qk6,qy2];exact ⟨z,hz,rfl⟩
     rcases hrest _ _ _ hpre hr hb with ⟨g,q,d,bb,h1,h2,h3,h4,h5,h6,h7⟩|⟨k',i',hrd,h3,h4⟩
     ·exfalso
      have hgt:=same d h7;have hrd:r.T.get d=some (.bool bb):=by
       unfold getT at hgt;rw [h5] at hgt;cases hc:r.T.get d with
       |none=>rw [hc] at hgt;cases hgt
       |some x=>rw [hc] at hgt;simp only [qw4] at hgt;rw [hgt]
      have hq:ops.toList[q.1]? =some q.2.2:=by
       rw [qk6,qy2] at h2;obtain ⟨z,hz,rfl⟩:=h2;exact (hAt.S.one z (by rw [hAt.eq,haa];simp [hz])).op
      unfold zac at hwr;obtain ⟨g1,g2⟩:=g;simp only at h3 h6;subst h3;rw [h1] at hwr;simp only [zug,hq,h4,hrd] at hwr;cases bb<;>cases g2<;>first|(exact h6 rfl)|(cases hwr)
     have hgt:=same k' h4;have up:∀{v:AV},s.T.get k'=some v->r.T.get k'=some v:=fun {v} h2=>by
      unfold getT at hgt;rw [h2] at hgt;cases hc:r.T.get k' with
      |none =>
       rw [hc] at hgt;simp only [qw4,Option.getD_none] at hgt;subst hgt;rcases hrd with ⟨_,_,_,e⟩|⟨_,_,_,_,e⟩<;>(rw [h2] at e;cases e)
      |some x=>rw [hc] at hgt;simp only [qw4] at hgt;rw [hgt]
     have hoth:=zov hop hgk hev h3;rcases hrd with ⟨t',o',h1,h2⟩|⟨t',x',ok',h1,h2⟩
     ·exact SubBl.toN hr (fun _ i b hn hg=>by
       have hii:i=i':=hn t' k' i' o' h1 (up h2);rw [hii] at hg ⊢
       rw [hoth];exact hg) hwr
     ·intro v hv
      unfold evOp at hv ⊢
      rw [h1] at hv ⊢
      have o:opnd r.T (.tmp k')=some (.map i'):=by
       show (match r.T.get k' with|some v=>some v|none=>some AV.undef)=_
       rw [up h2]
      simp only [o] at hv ⊢
      cases hx:opnd r.T x' with
      |none=>rw [hx] at hv;cases hv
      |some y =>
       rw [hx] at hv;simp only at hv ⊢
       rw [zhd1 hoth];cases he:zob L t' (.map i') y ok' s.H with
       |none=>rw [he] at hv;cases hv
       |some q=>rw [he] at hv;simp only [val1,qe2,Next1.val.injEq] at hv ⊢;exact ⟨hv.1,trivial⟩
   ·have e1:=hAt.heapNow hh
    have e2:=hAt.heapThen hh;unfold zfd at hev;split at hev
    ·next js hjs =>
     split at hev
     ·next r0 hev0 =>
      split at hev
      ·next hsame =>
       cases hev
       have hev2:zwa L rec (TG (vals D0 D R) ss T) s.x.2.2 (HD L D0 ss H)=some (s.v,s.H'):=by
        rw [zhe (all:=ops.toList) hlk,e1];exact hev0
       have hjs':zee s.x L s.T s.pre []=some js:=by
        split at hjs
        ·exact hjs
        ·cases hjs
       refine zog hL hr hF hev2 hI.wf hI.st hI.tmps fun u w1 ⟨E1,hv,hS1,hp,hw1⟩=> ?_
       refine fin u E1 w1 ?_ ?_ ?_ ?_ ?_
       ·rw [e2];exact hS1
       ·rw [e2];exact hw1
       ·rw [e2];exact hv
       ·rw [e2];exact hp
       ·intro r hra hr hb
        refine SubBl.toN hr fun hwr i b hn hg=> ?_
        obtain ⟨a1,a2,haa⟩:=qs4 hra;have hch:=hAt.S.chain;rw [hAt.eq] at hch;have hpre:=hch.pre;rw [haa] at hpre;simp only [qe3,qp1,qo6,qg7,qw1,qi1,qg5] at hpre;obtain ⟨t',k',i',o',h1,h2,h3,_,h4⟩:=zqv _ _ _ hjs' _ _ _ hpre hr hb;have hsT:=(hch.at a).1;have hrT:r.T=TD tt a1 T:=by
         have hch2:=hch;rw [haa,qi1,qn2] at hch2;exact (hch2.at a1).1
        have hgt:getT s.T k'=getT r.T k':=by
         rw [hsT,haa,zkj,← hrT];refine zbs _ _ fun z hz _ hd=>h4 z.x ?_ hd
         rcases qg1.1 hz with rfl|hz
         ·simp
         ·rw [qp2];left;rw [qk6,qy2];exact ⟨z,hz,rfl⟩
        have hrk:r.T.get k'=some (.ptr i' o'):=by
         unfold getT at hgt;rw [h2] at hgt;cases hc:r.T.get k' with
         |none=>rw [hc] at hgt;cases hgt
         |some x=>rw [hc] at hgt;simp only [qw4] at hgt;rw [hgt]
        have hii:i=i':=hn t' k' i' o' h1 hrk;rw [hii] at hg ⊢
        rw [zdd1 hsame i' h3];exact hg
      ·cases hev
     ·cases hev
    ·split at hev
     ·next r0 hev0 =>
      simp only [qe2,qs7] at hev;obtain ⟨hvv,hHH⟩:=hev;have hwf:({HD L D0 ss H with lo:=(HD L D0 ss H).next}:AH).Wf:=⟨hI.wf.tree,qn _,hI.wf.hide⟩
      have hev2:zwa L rec (TG (vals D0 D R) ss T) s.x.2.2 {HD L D0 ss H with lo:=(HD L D0 ss H).next}=some (s.v,r0.2):=by
       rw [zhe (all:=ops.toList) hlk,e1,← hvv];exact hev0
      refine zog hL hr hF hev2 hwf (hI.st.relo _) hI.tmps fun u w1 ⟨E1,hv,hS1,hp,hw1⟩=> ?_
      obtain ⟨r1,r2,r3⟩:=relo hI.wf hp hw1;rw [e1] at r2 r3;have e3:({r0.2 with lo:=(HD L D0 ss H).lo}:AH)=s.H':=by rw [e1,hHH]
      refine fin u E1 w1 ?_ ?_ ?_ ?_ ?_
      ·rw [e2,← hHH];exact hS1.relo _
      ·rw [e2,← hHH];exact r2
      ·rw [e2,← hHH];exact hv
      ·rw [e2,← e3];exact r1
      ·intro r _ hr _;rw [← hHH];exact r3.toN hr
     ·cases hev
 ·-- a float whose block is not told of yet
  have hall':zxg L s.x.2.2=false/\ ∃y∈a,zja L y.x.2.2=true/\D0 y.x.1=false:=by
   refine Classical.byContradiction fun hc=>hall fun hfree y hy hyh=> ?_
   cases h:D0 y.x.1 with
   |true=>rfl
   |false=>exact absurd ⟨hfree,y,hy,hyh,h⟩ hc
  obtain ⟨hfree,y0,hy0,hyh,hyd⟩:=hall';have hfl:zpd L s.x.2.2=true:=by
   have:=(hleft y0 hy0).pair.mem (bitS y0 (by rw [heq];simp [hy0]) hyd) hyh
   rcases this with h|h
   ·rw [hfree] at h;cases h
   ·exact h
  have hwd:zac ops.toList s.T s.x.2.2=true:=by
   rcases hk1.step with ⟨_,_,hlo⟩|⟨hw,_⟩
   ·exfalso
    unfold loose at hlo;rw [hfl,qn3] at hlo;have:=qh7.1 hlo y0.x (by
     have hch:=hS.chain;rw [heq] at hch;have hpre:=hch.pre;rw [hpre];simp only [qw1,qk6,qy2];exact ⟨y0,hy0,rfl⟩)
    rw [hyh,bitS y0 (by rw [heq];simp [hy0]) hyd] at this
    exact this rfl
   ·exact hw
  rw [qi hwd];obtain ⟨bl,z,FV,hfs,hz,hrun⟩:=zfy (P:=P) (F:=F) hL hk1.step hfl hwd;obtain ⟨u,w',ex,raw,o,q1,q2,q3,q4,q5⟩:=hrun E _ _ act w hI.tmps fun t ht=>hlk t (zyo ht)
  refine ⟨fun f _=>hF.1 f,?_⟩
  rw [q1];have hne:∀y∈ss,y≠s->y.x.1≠s.x.1:=fun y hy h h'=>h (hother y hy h')
  have hpw:Post E (mz zz (HD L D0 ss H)) w E (mz zz (HD L D0 ss H)) w':=q2.post fun hzz'=>q3 (by
   cases z with
   |false=>rfl
   |true=>rw [hzz s hsm hz] at hzz';cases hzz')
  refine hK E w' _ D0 (fun i=>if i=s.x.1 then w.heap.size else C i) (fun i=>if i=s.x.1 then raw else R i)
   ⟨zap hk1.op hI.closedD hdep,hI.closed,subI hI.sub,hI.pref,q2.st hI.st,hI.wf,?_,hI.post.trans hpw,(zji _ _ _).trans hI.size,(zmh _ _ _).trans hI.defs,hI.mono,hI.mark,?_,?_⟩
  ·refine (StT.put hI.tmps (v:=raw) (u:=u) (fun E' _=>q4 E') hdo).congr (temps _ _ _ (subI hI.sub) (by unfold vals;rw [qd (by rw [hnew0];simp),qi (zzg _ _)];simp) fun y hy hys=> ?_)
   unfold vals;simp only;rw [insD y hys hy,qd (hne y hy hys)]
  ·intro y hy hyD hyD0
   by_cases hys:y=s
   ·subst hys
    simp only [qc5];refine ⟨hfl,hdep0,⟨bl,z,FV,ex,hfs,hz,fun E' i hi=>⟨(q5 E' i hi).1 w' q2.self,(q5 E' i hi).2⟩⟩,?_,hI.post.size,by rw [q2.size];omega,fun hl=>absurd (zml1 hI.st hl) (qv5 _)⟩
    exact hI.st.self.size
   ·rw [insD y hys hy] at hyD
    rw [qd (hne y hy hys),qd (hne y hy hys)];have p:=hI.pend y hy hyD hyD0;obtain ⟨b2,z2,FV2,ex2,h1,h2,h3⟩:=p.data;refine ⟨p.fl,p.dep,⟨b2,z2,FV2,ex2,h1,h2,fun E' i hi=>⟨(h3 E' i hi).1.congr fun _=> ?_,(h3 E' i hi).2⟩⟩,p.base,p.ge,by rw [q2.size];have:=p.lt;omega,p.dead⟩
    rw [hi];exact q2.lt p.lt
  ·intro y hy t ht k1 k2 k3 k4 k5
   by_cases hys:y=s
   ·subst hys
    have hts:t≠y:=fun h=>k5 (by rw [h])
    rw [insD t hts ht] at k3;rw [qi rfl,qd (hne t ht hts)];have:=(hI.pend t ht k3 k4).lt;omega
   ·by_cases hts:t=s
    ·subst hts
     rw [insD y hys hy] at k1;rw [qi rfl,qd (hne y hy hys)];have:=(hI.pend y hy k1 k2).lt;omega
    ·rw [insD y hys hy] at k1
     rw [insD t hts ht] at k3;rw [qd (hne y hy hys),qd (hne t ht hts)];exact hI.dist y hy t ht k1 k2 k3 k4 k5
end
def InvX (L:Lk) (B:Nat) (all:List Oper) (T:Tr AV) (H:AH) (ss:List Stp) (zz:Bool) (E0:Env) (w0:World) (a0:Act) (D:Nat->Bool) (w:World) (a:Act):Prop :=
 ∃E D0 C R,Inv L B all T H ss zz E0 w0 a0 D D0 C R E w a
theorem zjd1 (hL:LOk0 L P) (hm:P.follows .mixedOrders=true) (hr:RecOk P B rec) (hF:Open F) (ops:Array Oper){T:Tr AV}{H:AH}{T1:Tr AV}{H1:AH}{pl:List Ent}
  (hpl:plan L ops.toList=some pl) (h:ztj L rec ops.toList pl [] T H=some (T1,H1))
  (E:Env) (w:World) (a:Act) (hw:H.Wf) (hS:St B E H w) (hT:StT E H.next T a.tmps) (hd:∀o∈ops.toList,∀d,o.dst=some d->d<a.tmps.size) (Q:Exit->Act->World->Prop)
  (hQ:∀E1 a1 w1,St B E1 H1 w1->StT E1 H1.next T1 a1.tmps->Post E H w E1 H1 w1->H1.Wf->a1.tmps.size=a.tmps.size->a1.defers=a.defers->Q .normal a1 w1) (t:Nat) :
  wpOpsIn F 0 P ops Q (Region.schedule (P.follows .mixedOrders) ops t) a {w with drawn:=w.drawn+1}:=by
 obtain ⟨ss,hmap,hch⟩:=zrq pl [] T H T1 H1 h;unfold plan at hpl;split at hpl
 ·next pl' han =>
  split at hpl
  ·next hcov =>
   cases hpl
   obtain ⟨k1,k2,_,k4⟩:=zmv _ [] pl T H ss T1 H1 han hmap hch (fun y hy=>by cases hy)
   have hSteps:Steps L rec ops.toList T H ss T1 H1:=⟨hch,k1,k2,fun a s b he e hm hb=>(k4 a s b he e hm hb).elim (fun ⟨_,hy,_⟩=>by cases hy) id,fun i hi=>by
    obtain ⟨y,hy,hyi⟩:=zyc1 hcov i (by rw [zxe];exact hi)
    rw [← hmap,qy2] at hy;obtain ⟨s,hs,rfl⟩:=hy;exact ⟨s,hs,hyi⟩⟩
   simp only [Region.schedule,hm,Bool.true_or,qc5];refine wpAnyIn_sound ops.size t _ a _ ?_;obtain ⟨zz,hzz,hzz2⟩:∃zz:Bool,(∀s∈ss,zik L s.x.2.2=true->zz=true)/\(zz=true-> ∃s∈ss,zik L s.x.2.2=true) :=
    ⟨ss.any fun s=>zik L s.x.2.2,fun s hs hm=>qw3.2 ⟨s,hs,hm⟩,fun h=>by obtain ⟨s,hs,hm⟩:=qw3.1 h;exact ⟨s,hs,hm⟩⟩
   have key:∀(fuel:Nat) (listed:Array Bool) (w2:World) (a2:Act),listed.size=ops.size->listed.toList.countP (fun x=> !x)<=fuel->InvX L B ops.toList T H ss zz E w a (fun i=>listed.getD i false) w2 a2 ->
     wpAnyIn F 0 P .any ops Q fuel listed a2 w2:=by
    have done:∀(listed:Array Bool) (w2:World) (a2:Act),listed.size=ops.size->InvX L B ops.toList T H ss zz E w a (fun i=>listed.getD i false) w2 a2->Region.ready .any ops listed= []->Q .normal a2 w2:=by
     intro listed w2 a2 hsz hIx hnil;obtain ⟨E2,D0,C,R,hI⟩:=hIx;have hall:∀(d c:List Stp),ss=c ++ d->(∀s∈c,listed.getD s.x.1 false=true)-> ∀s∈ss,listed.getD s.x.1 false=true:=by
      intro d
      induction d with
      |nil=>intro c hc hs s hm;rw [hc,qw1] at hm;exact hs s hm
      |cons x d ih =>
       intro c hc hs;refine ih (c ++ [x]) (by rw [hc];simp) fun y hy=> ?_
       rw [qp2,qx1] at hy;rcases hy with hy|rfl
       ·exact hs y hy
       ·cases hx:listed.getD y.x.1 false with
        |true=>rfl
        |false =>
         exfalso
         have hop:=(k1 y (by rw [hc];simp)).op
         have hop':ops[y.x.1]? =some y.x.2.2:=by simpa using hop
         have hlt:y.x.1<ops.size:=(qq2.1 hop').1;have hmem:y.x.1∈Region.ready .any ops listed:=by
          unfold Region.ready;rw [List.mem_filter];refine ⟨qp3.2 hlt,?_⟩;rw [hop'];simp only [qg4,qw4,qm,qm4];refine ⟨?_,?_⟩
          ·simp only [qn1] at hx ⊢
           rw [qu1 oM] at hx ⊢
           exact hx
          ·rw [← Array.all_toList,qb1]
           intro e he;cases hb:Region.binds .any e with
           |false=>rfl
           |true =>
            obtain ⟨z,hz,hze⟩:=hSteps.deps c y d hc e he hb;rw [← hze,hs z hz];rfl
         rw [hnil] at hmem;cases hmem
     have hD:=hall ss [] rfl (fun _ hs=>by cases hs)
     obtain ⟨e1,e2⟩:=hch.end;obtain ⟨D1,E3,hI,hFull⟩:=hI.sweep hSteps hw ss [] D0 E2 rfl (fun a f b h=>by simp at h)
     have hD1:∀s∈ss,D1 s.x.1=true:=fun s hs=>by
      obtain ⟨p1,p2,hpp⟩:=qs4 hs;exact hFull p1 s p2 hpp (hD s hs) fun y hy _=>hD y (by rw [hpp];simp [hy])
     have eH:HD L D1 ss H=H1:=by
      rw [e2];exact zcs ss H fun s hs _=>hD1 s hs
     have h1:=hI.st;have h2:=hI.tmps;have h3:=hI.post;have h4:=hI.wf;have h5:=hI.mark;rw [eH] at h1 h2 h3 h4 h5;have h3':Post E H w E3 H1 w2:=⟨h3.ext,h3.next,h3.lo,h3.hide,h3.tape,h3.os,h3.output,h3.size,h3.frame,h3.own,h3.keep,h3.loops,fun hf=>by
      cases hzb:zz with
      |true =>
       obtain ⟨s,hs,hm⟩:=hzz2 hzb;rw [h5 s hs hm (hD1 s hs)] at hf;cases hf
      |false =>
       have:=h3.froz (by show (H1.fz || zz)=false;rw [hf,hzb];rfl)
       rw [hzb] at this;exact ⟨by have h:=this.1;show H.fz=false;have h:(H.fz || false)=false:=h;rwa [Bool.or_false] at h,this.2⟩,h3.lives,h3.dr⟩
     refine hQ E3 a2 w2 h1 (h2.congr fun t=> ?_) h3' h4 hI.size hI.defs
     rw [e1,TG_TD];refine zgs ss T T (fun s hs hne=>absurd ?_ hne) rfl
     unfold vals;rw [qi (hD1 s hs),qi rfl]
    intro fuel
    induction fuel with
    |zero =>
     intro listed w2 a2 hsz hc hI;have hnil:Region.ready .any ops listed= []:=by
      rw [List.eq_nil_iff_forall_not_mem];intro i hi;unfold Region.ready at hi;rw [List.mem_filter] at hi;simp only [qm,qm4] at hi;obtain ⟨hr1,hr2,_⟩:=hi;have hlt:=qp3.1 hr1;have h0:listed.toList.countP (fun x=> !x)=0:=oM
      rw [List.countP_eq_zero] at h0;simp only [qn1] at hr2;rw [qu1 oM] at hr2
      exact h0 listed[i] (by simp) (by simpa using hr2)
     exact ⟨hnil,done listed w2 a2 hsz hI hnil⟩
    |succ fuel ih =>
     intro listed w2 a2 hsz hc hIx;refine ⟨done listed w2 a2 hsz hIx,fun i hi=> ?_⟩
     obtain ⟨E2,D0,C,R,hI0⟩:=hIx;obtain ⟨D1,E3,hI,hFull⟩:=hI0.sweep hSteps hw ss [] D0 E2 rfl (fun a f b h=>by simp at h)
     unfold Region.ready at hi;rw [List.mem_filter] at hi;simp only [qm,qm4] at hi;obtain ⟨hr1,hr2,hr3⟩:=hi;have hlt:=qp3.1 hr1;obtain ⟨s,hs,hsi⟩:=hSteps.all i (by simpa using hlt)
     obtain ⟨c,d,hcd⟩:=qs4 hs;have hop:=(k1 s hs).op;have hop':ops[s.x.1]? =some s.x.2.2:=by simpa using hop
     have hnew:listed[i]' oM=false:=by
      simp only [qn1] at hr2;rw [qu1 oM] at hr2
      exact hr2
     have hnew2:(fun i=>listed.getD i false) s.x.1=false:=by
      show listed.getD s.x.1 false=false
      rw [hsi];simp only [qn1];rw [qu1 oM]
      exact hnew
     have hdeps:Deps s.x.2.2 (fun i=>listed.getD i false):=by
      intro e he hb;rw [← hsi,hop'] at hr3;simp only [qg4,qw4] at hr3;rw [← Array.all_toList,qb1] at hr3;have:=hr3 e he;rw [hb] at this
      simpa using this
     rw [← hsi];refine zid1 hL hr hF hSteps hw hzz hcd hnew2 hdeps hI hFull hd fun E4 w3 a3 D4 C4 R4 hI3=> ?_
     refine ih _ w3 a3 (by simpa using hsz) ?_ ?_
     ·rw [hsi,Array.toList_setIfInBounds,List.countP_set (by simpa using (by omega:i<listed.size))]
      simp only [Array.getElem_toList,hnew,qn5,qc5,qj5,ql1,qu3];omega
     ·have:(fun j=>(listed.setIfInBounds s.x.1 true).getD j false)=ins (fun i=>listed.getD i false) s.x.1:=by
       funext j
       unfold ins;simp only [qn1,qc3];by_cases hj:s.x.1=j
       ·subst hj
        rw [qi rfl,qi rfl,qi (by rw [hsi];omega)]
        rfl
       ·rw [qd hj,qd (fun e=>hj e.symm)]
      rw [this];exact ⟨E4,D4,C4,R4,hI3⟩
   have hf:(fun i=>(Array.replicate ops.size false).getD i false)=fun _=>false:=by
    funext i
    simp only [qn1,Array.getElem?_replicate];split<;>rfl
   refine key ops.size _ _ a (by simp) ?_ ?_
   ·exact qx2 List.countP_le_length (by simp)
   ·rw [hf]
    have eH:HD L (fun _=>false) ss H=H:=zds ss H fun _ _ _=>rfl
    refine ⟨E,fun _=>false,fun _=>0,fun _=>.undef,fun _ _ _ hf=>(by cases hf),fun _ _ _ hf=>(by cases hf),fun _ h=>h,fun _ _ _ _ _ hf=>(by cases hf),?_,?_,?_,?_,rfl,rfl,?_,fun _ _ _ hf=>(by cases hf),fun _ _ hf=>(by cases hf),fun _ _ _ _ hf=>(by cases hf)⟩
    ·rw [eH];exact hS.drawn _
    ·rw [eH];exact hw
    ·rw [eH]
     refine hT.congr fun t=>zjh1 ss T fun s _ v hv=> ?_
     unfold vals at hv;simp at hv
    ·rw [eH];exact Post.drawn _ (qy3 _)
    ·intro c s d hcd hrd _ hl
     rw [eH];have hc2:=hch;rw [hcd] at hc2;rw [(hc2.at c).2,zey]
     ·exact SubN.same
     ·intro y hy
      cases hyh:zja L y.x.2.2 with
      |false=>rfl
      |true=>have:=hl y hy hyh;cases this
  ·cases hpl
 ·cases hpl
end
def mark (r:Nat):Deferred:= {target:=.collected r,args:= #[]}
def zkd1 (d:Deferred):Option Nat:=match d.target with| .collected r=>some r|_=>none
def zsf (l:List Deferred):List Nat:=l.filterMap zkd1
def zwg (l:List Deferred):List Deferred:=l.filter fun d=>(zkd1 d).isNone
theorem zyi (mk:List Nat) (l:List Deferred):zsf (mk.map mark ++ l)=mk ++ zsf l:=by
 induction mk with
 |nil=>rfl
 |cons r mk ih=>show r::zsf (mk.map mark ++ l)=_;rw [ih];rfl
theorem zbp (mk:List Nat) (l:List Deferred):zwg (mk.map mark ++ l)=zwg l:=by
 induction mk with
 |nil=>rfl
 |cons r mk ih=>show zwg (mk.map mark ++ l)=_;exact ih
structure ND where
 n:Nat
 ds:List Df
def DfR (E:Env) (n:Nat) (x:Df) (d:Deferred):Prop:= ∃cap:Array Value,d.target= .fn (.func x.1) cap/\StL E n x.2 (d.args ++ cap).toList
inductive DfL (E:Env) (n:Nat):List Df->List Deferred->Prop where
 |nil:DfL E n [] []
 |cons {x d xs ds}:DfR E n x d->DfL E n xs ds->DfL E n (x::xs) (d::ds)
theorem DfL.up {E E1:Env}{n m:Nat}{xs:List Df}{ds:List Deferred}(h:DfL E n xs ds) (ha:Agree n E E1) (hle:n<=m):DfL E1 m xs ds:=by
 induction h with
 |nil=>exact .nil
 |cons h _ ih=>obtain ⟨cap,h1,h2⟩:=h;exact .cons ⟨cap,h1,h2.up ha hle⟩ ih
structure DefOk (N:ND) (E:Env) (H:AH) (w:World) (l:List Deferred):Prop where
 real:DfL E H.next N.ds (zwg l)
 nodup:(zsf l).Nodup
 blk:∀r∈zsf l,N.n<=r/\r<w.heap.size/\w.heap[r]? =some (.deferred (some []))/\ ¬Own E H r
theorem DefOk.nil (n:Nat) (E:Env) (H:AH) (w:World):DefOk ⟨n, []⟩ E H w []:=⟨.nil,List.nodup_nil,fun _ h=>by cases h⟩
theorem DefOk.post {N:ND}{E E1:Env}{H H1:AH}{w w1:World}{l:List Deferred}(h:DefOk N E H w l) (hp:Post E H w E1 H1 w1):DefOk N E1 H1 w1 l:=by
 obtain ⟨he,hn,hr⟩:=h;refine ⟨he.up hp.ext hp.next,hn,fun r hm=> ?_⟩
 obtain ⟨h0,h1,h2,h3⟩:=hr r hm;refine ⟨h0,qz h1 hp.size,(hp.frame r h1 h3).trans h2,fun ho=> ?_⟩
 rcases hp.own r ho with h|h
 ·exact h3 h
 ·omega
inductive ExR:Ex->Exit->Prop where
 |normal:ExR .normal .normal
 |exit (id:Nat):ExR (.exit id) (.exit id)
 |ret:ExR .ret .ret
 |goto (l:Nat):ExR (.goto l) (.goto l)
structure Behind (B:Nat) (N:ND) (E:Env) (H:AH) (w:World) (a:Act) (out:Out) (e:Exit) (a1:Act) (w1:World):Prop where
 intro ::
 env:∃E1,St B E1 out.H w1/\StT E1 out.H.next out.T a1.tmps/\Post E H w E1 out.H w1/\DefOk N E1 out.H w1 a1.defers
 wf:out.H.Wf
 ex:ExR out.ex e
 size:a1.tmps.size=a.tmps.size
structure Ahead (B:Nat) (F:Fence) (N:ND) (E:Env) (T:Tr AV) (H:AH) (w:World) (a:Act):Prop where
 wf:H.Wf
 st:St B E H w
 tmps:StT E H.next T a.tmps
 defs:DefOk N E H w a.defers
 base:N.n<=w.heap.size
 rnd:∀l,F.round=some l-> ∃r:Loop,w.heap[l]? =some (Obj.loop r)
theorem Behind.trans {B:Nat}{N:ND}{E E1:Env}{H H1:AH}{w w1:World}{a a1:Act}{out:Out}{e:Exit}{a2:Act}{w2:World}
  (hp:Post E H w E1 H1 w1) (hs:a1.tmps.size=a.tmps.size) (h:Behind B N E1 H1 w1 a1 out e a2 w2):Behind B N E H w a out e a2 w2:=by
 obtain ⟨⟨E2,h1,h2,h3,h4⟩,h5,h6,h7⟩:=h;exact ⟨⟨E2,h1,h2,hp.trans h3,h4⟩,h5,h6,h7.trans hs⟩
structure CodeRec (P:Program) (B m:Nat) (rec:Rec):Prop extends RecOk P B rec where
 loop:∀body T H out,rec (.loop body T H)=some out-> ∀F,Open F-> ∀(N:ND) (n:Nat),wfC n body=true-> ∀E w a,Ahead B F N E T H w a->n<=a.tmps.size-> ∀Q,
  (∀e a1 w1,Behind B N E H w a out e a1 w1->Q e a1 w1)->Code.roundsIn F 0 P body Q m a w
 range:∀g ps assign body T H out,rec (.range g ps.toList assign body T H)=some out-> ∀F,Open F-> ∀(N:ND) (n:Nat),(∀d∈ps.toList,d<n)->wfC n assign=true->wfC n body=true-> ∀x E w a,Ahead B F N E T H w a->n<=a.tmps.size ->
  StV E H.next g (a.eval x)-> ∀Q,(∀e a1 w1,Behind B N E H w a out e a1 w1->Q e a1 w1)->(Code.rangeFunc x ps assign body).wpIn F 0 P Q a w
section
variable {L:Lk}{P:Program}{B:Nat}{rec:Rec}{F:Fence}
theorem zce {b:Frame}{a:Act}{k:List Item}{cs:List Frame}{w:World}{c:Code}:step P (lone (b.atR a (.code (.scope c)::k)) cs w)= .next (lone (b.atR a (.code c:: .inScope c::k)) cs w) :=
 qs5 (by simp [stepG,stepG.exec,Frame.atR])
theorem zcp {b:Frame}{a:Act}{k:List Item}{cs:List Frame}{w:World}{c:Code}:step P (lone (b.atR a (.inScope c::k)) cs w)= .next (lone (b.atR a k) cs w) :=
 qs5 (by simp [stepG,stepG.exec,Frame.atR])
def noGoto (Q:Exit->Act->World->Prop):Exit->Act->World->Prop
 | .goto _,_,_=>False
 |e,a,w=>Q e a w
theorem zhy {n:Nat}{Q:Exit->Act->World->Prop}{a:Act}{w:World}{c:Code}(h:c.wpIn F n P (noGoto Q) a w):(Code.scope c).wpIn F n P Q a w:=by
 intro b k cs hro hb hr;have h0:(lone (b.atR a (.code (.scope c)::k)) cs w).fenced P F:=fenced_calm hb hr rfl;obtain ⟨e,a₁,w₁,hq,harr⟩:=h b (.inScope c::k) cs hro hb hr;cases e with
 |normal=>exact ⟨.normal,a₁,w₁,hq,.head h0 zce (StepsIn.trans harr (.one (fenced_calm hb hr rfl) zcp))⟩
 |exit id =>
  have hx:exitTo id (.inScope c::k)=exitTo id k:=by simp [exitTo]
  exact ⟨.exit id,a₁,w₁,hq,fun k' hk=>.head h0 zce (harr.1 k' (by rw [hx];exact hk)),
   fun hr' hk=>let ⟨k₁,h1,h2⟩:=harr.2 hr' (by rw [hx];exact hk);⟨k₁,h1,.head h0 zce h2⟩⟩
 |goto l=>exact hq.elim
 |ret=>exact ⟨_,a₁,w₁,hq,.of_steps (.one h0 zce) harr⟩
 |panic ch=>exact ⟨_,a₁,w₁,hq,.of_steps (.one h0 zce) harr⟩
 |outgrown=>exact ⟨_,a₁,w₁,hq,.of_steps (.one h0 zce) harr⟩
theorem ztv (hL:LOk0 L P) (hm:P.follows .mixedOrders=true) (hr:RecOk P B rec) (hF:Open F){id:Nat}{ops:Array Oper}{draw:Bool}{T:Tr AV}{H:AH}{T1:Tr AV}{H1:AH}(h:zdf L rec ops.toList draw T H=some (T1,H1))
  {n:Nat}(hwf:wfOps n ops=true){N:ND}{E:Env}{w:World}{a:Act}(hA:Ahead B F N E T H w a) (hn:n<=a.tmps.size){Q:Exit->Act->World->Prop}(hQ:∀e a1 w1,Behind B N E H w a ⟨.normal,T1,H1⟩ e a1 w1->a1.defers=a.defers->Q e a1 w1) :
  (Code.region id ops draw).wpIn F 0 P Q a w:=by
 have hd:∀o∈ops.toList,∀d,o.dst=some d->d<a.tmps.size:=by
  intro o ho d hod;unfold wfOps at hwf;have:=qb1.1 hwf o ho;rw [hod] at this;have h2:d+1<=n:=qe1 this;exact qz h2 hn
 have fin:∀E1 a1 w1,St B E1 H1 w1->StT E1 H1.next T1 a1.tmps->Post E H w E1 H1 w1->H1.Wf->a1.tmps.size=a.tmps.size->a1.defers=a.defers->Q .normal a1 w1:=fun E1 a1 w1 h1 h2 h3 h4 h5 h6 =>
  hQ _ _ _ ⟨⟨E1,h1,h2,h3,by rw [h6];exact hA.defs.post h3⟩,h4,.normal,h5⟩ h6
 unfold zdf at h;split at h
 ·have hx:=zgl1 hL hr hF ops ops.toList 0 (fun j=>by simp) T H T1 H1 h E w a hA.wf hA.st hA.tmps hd Q fin
  rw [qp6,← List.range_eq_range'] at hx;exact fun b k cs hro hb hr=>let ⟨e,a',w',q,r⟩:=hx b k cs hro hb hr;⟨e,a',w',q,.of_steps (.one (fenced_calm hb hr rfl) stepR_region) r⟩
 ·split at h
  ·next pl hpl =>
   refine wpIn_region_draw fun t=> ?_
   exact zjd1 hL hm hr hF ops hpl h E w a hA.wf hA.st hA.tmps hd Q fin t
  ·cases h
theorem zlj (hL:LOk0 L P) (hm:P.follows .mixedOrders=true){m:Nat}(hr:CodeRec P B m rec) (n:Nat) (c:Code):∀(F:Fence),Open F-> ∀(T:Tr AV) (H:AH) (out:Out),zzb L rec c T H=some out->wfC n c=true-> ∀(N:ND) (E:Env) (w:World) (a:Act),Ahead B F N E T H w a->n<=a.tmps.size-> ∀(Q:Exit->Act->World->Prop),
  (∀e a1 w1,Behind B N E H w a out e a1 w1->Q e a1 w1)->c.wpIn F 0 P Q a w:=by
 induction c with
 |skip =>
  intro F hF T H out h _ N E w a hA _ Q hQ;cases h;exact wpIn_skip (hQ _ _ _ ⟨⟨E,hA.st,hA.tmps,Post.refl _ _ _,hA.defs⟩,hA.wf,.normal,rfl⟩)
 |region id ops draw =>
  intro F hF T H out h hwf N E w a hA hn Q hQ;have h':(match zdf L rec ops.toList draw T H with|some r=>some (⟨.normal,r.1,r.2⟩:Out)|none=>none)=some out:=h
  split at h'
  ·next r hr'=>cases h';exact ztv hL hm hr.toRecOk hF hr' hwf hA hn fun e a1 w1 hb _=>hQ e a1 w1 hb
  ·cases h'
 |seq x y ihx ihy =>
  intro F hF T H out h hwf N E w a hA hn Q hQ;simp only [wfC,qm] at hwf;have h':(match zzb L rec x T H with|some o=>(match o.ex with| .normal=>zzb L rec y o.T o.H|_=>some o)|none=>none)=some out:=h
  split at h'
  ·next o ho =>
   refine wpIn_seq (ihx F hF T H o ho hwf.1 N E w a hA hn _ fun e a1 w1 hb=> ?_)
   obtain ⟨⟨E1,h1,h2,h3,h4⟩,h5,h6,h7⟩:=hb;generalize hex:o.ex=ex at h' h6;cases h6 with
   |normal=>exact ihy F hF o.T o.H out h' hwf.2 N E1 w1 a1 ⟨h5,h1,h2,h4,qx2 hA.base h3.size,fun l hl=>let ⟨r,hr⟩:=hA.rnd l hl;h3.loops l r hr⟩ oM Q fun e2 a2 w2 hb2=>hQ e2 a2 w2 (hb2.trans h3 h7)
   |exit id=>cases h';exact hQ _ _ _ ⟨⟨E1,h1,h2,h3,h4⟩,h5,by rw [hex];exact .exit id,h7⟩
   |ret=>cases h';exact hQ _ _ _ ⟨⟨E1,h1,h2,h3,h4⟩,h5,by rw [hex];exact .ret,h7⟩
   |goto l=>cases h';exact hQ _ _ _ ⟨⟨E1,h1,h2,h3,h4⟩,h5,by rw [hex];exact .goto l,h7⟩
  ·cases h'
 |cond x y z ihy ihz =>
  intro F hF T H out h hwf N E w a hA hn Q hQ;simp only [wfC,qm] at hwf;have h':(match opnd T x with|some (.bool true)=>zzb L rec y T H|some (.bool false)=>zzb L rec z T H|_=>none)=some out:=h
  split at h'
  ·next hx=>exact wpIn_cond_true (by rw [zkc (hA.tmps E (Agree.refl _ _)) hx];rfl) (ihy F hF T H out h' hwf.1 N E w a hA hn Q hQ)
  ·next hx=>exact wpIn_cond_false (by rw [zkc (hA.tmps E (Agree.refl _ _)) hx];rfl) (ihz F hF T H out h' hwf.2 N E w a hA hn Q hQ)
  ·cases h'
 |block id x ih =>
  intro F hF T H out h hwf N E w a hA hn Q hQ;have h':(match zzb L rec x T H with
   |some o=>(match o.ex with| .exit i=>(match Nat.beq i id with|true=>some (⟨.normal,o.T,o.H⟩:Out)|false=>some o)|_=>some o)
   |none=>none)=some out:=h
  split at h'
  ·next o ho =>
   refine wpIn_block (ih F hF T H o ho hwf N E w a hA hn _ fun e a1 w1 hb=> ?_)
   obtain ⟨⟨E1,h1,h2,h3,h4⟩,h5,h6,h7⟩:=hb;generalize hex:o.ex=ex at h' h6;cases h6 with
   |normal=>cases h';exact hQ _ _ _ ⟨⟨E1,h1,h2,h3,h4⟩,h5,by rw [hex];exact .normal,h7⟩
   |exit i =>
    simp only at h';show if i=id then Q .normal a1 w1 else Q (.exit i) a1 w1
    split at h'
    ·next hb=>cases h';rw [qi (qf hb)];exact hQ _ _ _ ⟨⟨E1,h1,h2,h3,h4⟩,h5,.normal,h7⟩
    ·next hb=>cases h';rw [qd (qz4 hb)];exact hQ _ _ _ ⟨⟨E1,h1,h2,h3,h4⟩,h5,by rw [hex];exact .exit i,h7⟩
   |ret=>cases h';exact hQ _ _ _ ⟨⟨E1,h1,h2,h3,h4⟩,h5,by rw [hex];exact .ret,h7⟩
   |goto l=>cases h';exact hQ _ _ _ ⟨⟨E1,h1,h2,h3,h4⟩,h5,by rw [hex];exact .goto l,h7⟩
  ·cases h'
 |loop x ih =>
  intro F hF T H out h hwf N E w a hA hn Q hQ;exact wpIn_loop_rounds m (hr.loop x T H out h F hF N n hwf E w a hA hn Q hQ)
 |rangeFunc f ps as bd _ _ =>
  intro F hF T H out h hwf N E w a hA hn Q hQ;simp only [wfC,qm] at hwf;have h':(match opnd T f with|some g=>rec (.range g ps.toList as bd T H)|none=>none)=some out:=h
  split at h'
  ·next g hg =>
   exact hr.range g ps as bd T H out h' F hF N n (fun d hd=>qe1 (qb1.1 hwf.1.1 d hd)) hwf.1.2 hwf.2 f E w a hA hn (zrb hA.tmps hg) Q hQ
  ·cases h'
 |exit id =>
  intro F hF T H out h _ N E w a hA _ Q hQ;cases h;exact wpIn_exit (hQ _ _ _ ⟨⟨E,hA.st,hA.tmps,Post.refl _ _ _,hA.defs⟩,hA.wf,.exit id,rfl⟩)
 |scope x ih =>
  intro F hF T H out h hwf N E w a hA hn Q hQ;have h':(match zzb L rec x T H with|some o=>(match o.ex with| .goto _=>none|_=>some o)|none=>none)=some out:=h
  split at h'
  ·next o ho =>
   refine zhy (ih F hF T H o ho hwf N E w a hA hn _ fun e a1 w1 hb=> ?_)
   obtain ⟨⟨E1,h1,h2,h3,h4⟩,h5,h6,h7⟩:=hb;generalize hex:o.ex=ex at h' h6;cases h6 with
   |normal=>cases h';exact hQ _ _ _ ⟨⟨E1,h1,h2,h3,h4⟩,h5,by rw [hex];exact .normal,h7⟩
   |exit i=>cases h';exact hQ _ _ _ ⟨⟨E1,h1,h2,h3,h4⟩,h5,by rw [hex];exact .exit i,h7⟩
   |ret=>cases h';exact hQ _ _ _ ⟨⟨E1,h1,h2,h3,h4⟩,h5,by rw [hex];exact .ret,h7⟩
   |goto l=>cases h'
  ·cases h'
 |label l =>
  intro F hF T H out h _ N E w a hA _ Q hQ;cases h;exact wpIn_label (hQ _ _ _ ⟨⟨E,hA.st,hA.tmps,Post.refl _ _ _,hA.defs⟩,hA.wf,.normal,rfl⟩)
 |goto l =>
  intro F hF T H out h _ N E w a hA _ Q hQ;cases h;exact wpIn_goto (hQ _ _ _ ⟨⟨E,hA.st,hA.tmps,Post.refl _ _ _,hA.defs⟩,hA.wf,.goto l,rfl⟩)
 |ret =>
  intro F hF T H out h _ N E w a hA _ Q hQ;cases h;exact wpIn_ret (hQ _ _ _ ⟨⟨E,hA.st,hA.tmps,Post.refl _ _ _,hA.defs⟩,hA.wf,.ret,rfl⟩)
 |refuse s=>intro F hF T H out h;cases h
end
section
variable {L:Lk}{P:Program}{B:Nat}{rec:Rec}{F:Fence}
theorem zsq (l:List AV):∀(j:Nat) (T:Tr AV) (t:Nat),getT (zwb l j T) t=if j<=t/\t<j+l.length then (l[t - j]?).getD .undef else getT T t:=by
 induction l with
 |nil=>intro j T t;rw [qd (by simp)];rfl
 |cons v l ih =>
  intro j T t;show getT (zwb l (j+1) (T.set j v)) t=_
  rw [ih,zlm];by_cases h0:t=j
  ·subst h0
   rw [qd oM,qi rfl,qi (by simp)]
   simp
  ·by_cases h1:j+1<=t/\t<j+1+l.length
   ·rw [qi h1,qi (by simp;omega)]
    obtain ⟨d,hd⟩:∃d,t - j=d+1:=⟨t - j - 1,oM⟩
    rw [hd,show t - (j+1)=d from oM]
    simp
   ·rw [qd h1,qd h0,qd (by simp;omega)]
theorem StT.args {E:Env}{n:Nat}{args:List AV}{us:List Value}(h:StL E n args us) (m:Nat):StT E n (zwb args 0 .nil) (us.toArray ++ Array.replicate m undef):=by
 intro E' hE t;have hu:=h E' hE;rw [zsq,hu];have hg:getT (.nil:Tr AV) t= .undef:=by unfold getT;rw [Tr.get_nil];rfl
 by_cases ht:t<args.length
 ·rw [qi oM]
  simp only [qn1];rw [Array.getElem?_append_left (by simp [zma];exact ht)]
  simp [zna?,qo ht]
 ·rw [qd oM,hg]
  simp only [qn1];rw [Array.getElem?_append_right (by simp [zma];omega),Array.getElem?_replicate]
  split<;>rfl
theorem TRel.params {E:Env}{m:Nat}(ps:List Tmp):∀(args:List AV) (T:Tr AV) (tmps:Array Value),TRel E T tmps->(∀d∈ps,d<m)->m<=tmps.size ->
  TRel E (zic (ps.zip args) T) ((ps.zip (concL E args)).foldl (fun tmps (p:Tmp×Value)=>tmps.setIfInBounds p.1 p.2) tmps)/\((ps.zip (concL E args)).foldl (fun tmps (p:Tmp×Value)=>tmps.setIfInBounds p.1 p.2) tmps).size=tmps.size:=by
 induction ps with
 |nil=>intro args T tmps h _ _;exact ⟨h,rfl⟩
 |cons p ps ih =>
  intro args T tmps h hp hm;cases args with
  |nil=>exact ⟨h,rfl⟩
  |cons v args =>
   have hlt:=hp p (by simp)
   have:=ih args (T.set p v) (tmps.setIfInBounds p (conc E v)) (fun t=>by
    rw [zlm];simp only [qn1,qc3];by_cases ht:t=p
    ·subst ht;rw [qi rfl,qi rfl,qi (qz hlt hm)];rfl
    ·rw [qd (fun e=>ht e.symm),qd ht]
     have:=h t
     simpa [qn1] using this) (fun d hd=>hp d (by simp [hd])) (by simpa using hm)
   exact ⟨this.1,this.2.trans (by simp)⟩
def resOf (L:Lk) (T:Tr AV) (H:AH) (r:ResultVar):Option AV:=match r with
 | .tmp t=>(match T.get t with|some v=>some v|none=>some AV.undef)
 | .cell a t=>(match T.get a with|some v=>zub L t v H|none=>none)
theorem zuv {α:Type}{E:Env}{w:World}(g:α->Option AV) (f:α->Sem Value) (hf:∀r v,g r=some v->(f r).run P w= .ok (conc E v) w):∀(l:List α) (vs:List AV),mapO g l=some vs->(l.mapM f).run P w= .ok (concL E vs) w:=by
 intro l
 induction l with
 |nil=>intro vs h;cases h;simp [qt,concL]
 |cons r l ih =>
  intro vs h;have h':obind (g r) (fun b=>obind (mapO g l) fun bs=>some (b::bs))=some vs:=h
  cases hr:g r with
  |none=>rw [hr] at h';cases h'
  |some v =>
   rw [hr] at h';cases hl:mapO g l with
   |none=>rw [hl] at h';cases h'
   |some us =>
    rw [hl] at h';cases h';rw [List.mapM_cons];simp only [qj,hf r v hr,qb,ih us hl,qt];rfl
def tupOf (vs:List AV):AV:=match vs with| [v]=>v|vs=>.tup vs
theorem ztq (hL:LOk0 L P){fn:Func}{T:Tr AV}{H:AH}{E:Env}{w:World}{tmps:Array Value}{vs:List AV}(hR:HRel B E H w) (hT:TRel E T tmps) (h:znb L T H fn.results.toList=some vs) :
  (results fn tmps).run P w= .ok (conc E (tupOf vs)) w:=by
 have h':mapO (resOf L T H) fn.results.toList=some vs:=h;unfold results;rw [Array.mapM_eq_mapM_toList];simp only [qj,Sem.run_map];rw [zuv (E:=E) (resOf L T H) _ (fun r v hv=> ?_) _ vs h']
 ·simp only [qb,qt]
  congr 1
  cases vs with
  |nil=>rfl
  |cons v vs =>
   cases vs with
   |nil=>rfl
   |cons u vs=>rw [dif_neg (by simp [concL])];rfl
 ·unfold resOf at hv
  cases r with
  |tmp t =>
   simp only at hv ⊢
   have:=hT t;unfold getT at this;rw [qt,this];congr 2;cases hg:T.get t with
   |none=>rw [hg] at hv;cases hv;rfl
   |some v'=>rw [hg] at hv;cases hv;rfl
  |cell a t =>
   simp only at hv ⊢
   cases hg:T.get a with
   |none=>rw [hg] at hv;cases hv
   |some v' =>
    rw [hg] at hv;simp only at hv;have hta:=hT a;unfold getT at hta;rw [hg] at hta;have hl:=zom (P:=P) hL hR hv;rw [hta];unfold zub at hv;split at hv
    ·exact hl
    ·cases hv
end
structure LOk (L:Lk) (P:Program):Prop extends LOk0 L P where
 func : ∀ f fn, L.func f = some fn → P.funcs[f]? = some fn ∧ (fn.name == "runtime.NumGoroutine") = false ∧ ∀ c, fn.body = some c → wfC fn.ntmps c = true
 mixed:P.follows .mixedOrders=true
def ExtOk (L:Lk) (P:Program) (B:Nat):Prop:= ∀f g,L.ext f=some g-> ∀args H p,g args H=some p-> ∀E w us,H.Wf->St B E H w->StL E H.next args us->CallOk P B E H w f us p.1 p.2
section
variable {L:Lk}{P:Program}{B:Nat}{rec:Rec}{F:Fence}
theorem zhf (hL:LOk L P){f:FuncId}{fn:Func}{c:Code}(hf:L.func f=some fn) (hb:fn.body=some c) (us:Array Value) (w:World):(callFunc f us).run P w= .ok (.enter f us) w:=by
 obtain ⟨h1,h2,_⟩:=hL.func f fn hf;unfold callFunc;simp only [qj,program,Sem.run,qb,h1,h2,hb,Option.isNone_some,ql1,qu3];rfl
theorem St.other {E:Env}{H:AH}{w:World}(h:St B E H w){r:Nat}{x y:Option (List Deferred)}(hr:w.heap[r]? =some (.deferred x)):St B E H (w.putObj r (.deferred y)):=by
 intro E' hE;have k:=h E' hE;refine ⟨fun i b hg=>(k.blk i b hg).congr fun hl=>World.putObj_heap_other fun he=> ?_,k.inj,k.base,by rw [World.putObj_size];exact k.size⟩
 have hb:=k.blk i b hg;cases b with
 |cells vs e z op ro=>obtain ⟨cs,e,fz,h1,_⟩:=hb;rw [he,hr] at h1;cases h1
 |map es c=>simp only [BRel] at hb;rw [he,hr] at hb;cases hb
 |loop st p T n ps a b=>obtain ⟨r',h1,_⟩:=hb;rw [he,hr] at h1;cases h1
 |miter m s n l=>have hb:=hb.2;rw [he,hr] at hb;cases hb
 |chan c b=>obtain ⟨s,r,h1⟩:=hb;rw [he,hr] at h1;cases h1
 |glob g v=>obtain ⟨_,cs,e,fz,h1,_⟩:=hb;rw [he,hr] at h1;cases h1
 |defd=>cases hl
theorem Post.other {E E1:Env}{H H1:AH}{w w1:World}(h:Post E H w E1 H1 w1){r:Nat}{x y:Option (List Deferred)}(hr:w.heap.size<=r) (hx:w1.heap[r]? =some (.deferred x)):Post E H w E1 H1 (w1.putObj r (.deferred y)):=by
 refine ⟨h.ext,h.next,h.lo,h.hide,h.tape,h.os,h.output,by rw [World.putObj_size];exact h.size,fun c hc hn=> ?_,h.own,h.keep,fun c l hc=> ?_,fun hf=>⟨(h.froz hf).1,fun a=>(zfi (fun z off hz=>by rw [hx] at hz;cases hz;rfl) a).trans ((h.froz hf).2 a)⟩,h.lives,h.dr⟩
 ·rw [World.putObj_heap_other oM];exact h.frame c hc hn
 ·have hlt:=(qq2.1 hc).1
  rw [World.putObj_heap_other oM];exact h.loops c l hc
theorem ziy (d:Deferred) (f:FuncId) (cap:Array Value) (h:d.target= .fn (.func f) cap):invoke d.target d.args=callFunc f (d.args ++ cap):=by rw [h];rfl
def DcOk (L:Lk) (P:Program) (B:Nat) (rec:Rec) (x:Df):Prop:= ∀(H1 H1':AH),zww L rec x H1=some H1'-> ∀(E1:Env) (w1:World) (us:List Value),H1.Wf->St B E1 H1 w1->StL E1 H1.next x.2 us ->
 (callFunc x.1 us.toArray).run P w1= .ok (.enter x.1 us.toArray) w1/\CallsDIn Fence.wide 0 P x.1 us.toArray .returning w1 fun e u' w2=>(∃v,e= .returned v)/\u'= .returning/\ ∃E2,St B E2 H1' w2/\Post E1 H1 w1 E2 H1' w2/\H1'.Wf
theorem zld1 (hL:LOk0 L P){fn:Func}{T:Tr AV}{vs:List AV}{E:Env}{H:AH}{w:World}{H2:AH}{tmps:Array Value}{N:Nat}(hN:w.heap.size<=N) (hres:znb L T H2 fn.results.toList=some vs)
  (l:List Deferred) :
  ∀(ds:List Df) (E1:Env) (H1:AH) (w1:World),(∀x∈ds,DcOk L P B rec x)->zzg1 L rec ds H1=some H2->H1.Wf->StT E1 H1.next T tmps->DefOk ⟨N,ds⟩ E1 H1 w1 l->St B E1 H1 w1->Post E H w E1 H1 w1 ->
   LeavesInM Fence.wide 0 P fn tmps (fun e w1=> ∃u,e= .returned u/\Done B E H w (tupOf vs) H2 u w1) l .returning w1:=by
 induction l with
 |nil =>
  intro ds E1 H1 w1 _ hlv hwf hT hD hS hp;have hds:ds= []:=by
   have:=hD.real;cases ds with
   |nil=>rfl
   |cons x xs=>cases this
  subst hds;cases hlv;have hr:∀E',Agree H2.next E1 E'->(results fn tmps).run P w1= .ok (conc E' (tupOf vs)) w1:=fun E' hE=>by
   exact ztq hL (hS E' hE) (hT E' hE) hres
  refine ⟨conc E1 (tupOf vs),hr E1 (Agree.refl _ _),conc E1 (tupOf vs),rfl,E1,fun E' hE=> ?_,hS,hp,hwf⟩
  have h1:=hr E1 (Agree.refl _ _);rw [hr E' hE] at h1;exact (qu5 h1).1.symm
 |cons d l ih =>
  intro ds E1 H1 w1 hcall hlv hwf hT hD hS hp;refine ⟨(fun h=>by cases h),?_⟩
  obtain ⟨h1,h2,h3⟩:=hD;cases hm:zkd1 d with
  |some r =>
   left
   have e1:zsf (d::l)=r::zsf l:=by unfold zsf;rw [List.filterMap_cons,hm]
   have e2:zwg (d::l)=zwg l:=by unfold zwg;rw [List.filter_cons,hm];rfl
   have htar:d.target= .collected r:=by
    unfold zkd1 at hm;split at hm
    ·next r' hr'=>cases hm;exact hr'
    ·cases hm
   rw [e1] at h2 h3;rw [e2] at h1;rw [qh4] at h2;obtain ⟨k0,k1,k2,k3⟩:=h3 r (by simp)
   refine ⟨r,w1.putObj r (.deferred none),htar,run_takeDeferred k2,?_⟩;refine ih ds E1 H1 _ hcall hlv hwf hT ⟨h1,h2.2,fun r' hr'=> ?_⟩ (hS.other k2) (hp.other (qx2 hN k0) k2)
   obtain ⟨j0,j1,j2,j3⟩:=h3 r' (by simp [hr'])
   refine ⟨j0,by rw [World.putObj_size];exact j1,?_,j3⟩
   rw [World.putObj_heap_other (fun e=>h2.1 (by rw [← e];exact hr'))]
   exact j2
  |none =>
   right
   have e1:zsf (d::l)=zsf l:=by unfold zsf;rw [List.filterMap_cons,hm]
   have e2:zwg (d::l)=d::zwg l:=by unfold zwg;rw [List.filter_cons,hm];rfl
   rw [e2] at h1;rw [e1] at h2 h3;cases h1 with
   | @cons x _ xs _ hx hxs =>
    obtain ⟨cap,htar,hus⟩:=hx;have hlv':(match zww L rec x H1 with|some H'=>zzg1 L rec xs H'|none=>none)=some H2:=hlv
    split at hlv'
    ·next H1' hdc =>
     obtain ⟨hrun,hci⟩:=hcall x (by simp) H1 H1' hdc E1 w1 _ hwf hS hus
     have harr:(d.args ++ cap).toList.toArray=d.args ++ cap:=rfl;rw [harr] at hrun hci;have hrun':(callFunc x.1 (d.args ++ cap)).run P w1= .ok (.enter x.1 (d.args ++ cap)) w1:=hrun;have hci':=hci;refine ⟨zlh zgf _,.func x.1,cap,x.1,d.args ++ cap,htar,by rw [ziy d _ _ htar];exact hrun',fun _ _=>trivial,hci'.mono fun e u' w2 ⟨⟨v,he⟩,hu,E2,q1,q2,q3⟩=> ?_⟩
     subst he;subst hu;exact ih xs E2 H1' w2 (fun y hy=>hcall y (by simp [hy])) hlv' q3 (hT.up q2.ext q2.next) ((⟨hxs,h2,h3⟩:DefOk ⟨N,xs⟩ E1 H1 w1 l).post q2) q1 (hp.trans q2)
    ·cases hlv'
theorem call_ok (hL:LOk L P){m:Nat}(hr:CodeRec P B m rec){f:FuncId}{fn:Func}{c:Code}{args:List AV}{H:AH}{o:Out}{vs:List AV}(hf:L.func f=some fn) (hb:fn.body=some c)
  (hlen:args.length<=fn.ntmps) (hc:zzb L rec c (zwb args 0 .nil) H=some o) (hex:o.ex= .ret\/o.ex= .normal) (hres:znb L o.T o.H fn.results.toList=some vs){E:Env}{w:World}{us:List Value}(hw:H.Wf) (hS:St B E H w) (hus:StL E H.next args us):CallOk P B E H w f us (tupOf vs) o.H:=by
 unfold CallOk;rw [zhf hL hf hb];obtain ⟨h1,h2,h3⟩:=hL.func f fn hf;have hul:us.length=args.length:=by rw [hus E (Agree.refl _ _),zma]
 refine callsIn_of_wp_marks h1 hb trivial ?_ rfl;refine zlj hL.toLOk0 hL.mixed hr fn.ntmps c Fence.wide zgf _ H o hc (h3 c hb) ⟨w.heap.size, []⟩ E w _ ⟨hw,hS,StT.args hus _,DefOk.nil _ _ _ _,qn _,fun l hl=>by cases hl⟩ ?_ _ ?_
 ·simp;omega
 ·intro e a1 w1 ⟨⟨E1,k1,k2,k3,k4⟩,k5,k6,k7⟩
  have fin:LeavesInM Fence.wide 0 P fn a1.tmps (fun e w1=> ∃u,e= .returned u/\Done B E H w (tupOf vs) o.H u w1) a1.defers .returning w1 :=
   zld1 (rec:=fun _=>none) hL.toLOk0 (qn _) hres a1.defers [] E1 o.H w1 (fun x hx=>by cases hx) rfl k5 k2 k4 k1 k3
  rcases hex with hex|hex<;>rw [hex] at k6<;>cases k6<;>exact fin
end
section
variable {L:Lk}{P:Program}{B:Nat}{rec:Rec}{F:Fence}
theorem HRel.loopOf {E:Env}{H:AH}{w:World}(h:HRel B E H w){l:Nat}{st:LoopState}{pe:Option Code}{T:Tr AV}{n:Nat}{ps:List Tmp}{as bd:Code}(hg:H.get l=some (.loop st pe T n ps as bd)) :
  ∃r:Loop,w.heap[(E l).blk]? =some (.loop r)/\r.state=st/\r.pending=pe/\TRel E T r.tmps/\r.params.toList=ps/\r.assign=as/\r.body=bd /\
   (∃m,m<=r.tmps.size/\wfC m as=true/\wfC m bd=true/\ ∀d∈ps,d<m):=h.blk l _ hg
theorem zjy {E:Env}{H:AH}{w:World}(hw:H.Wf) (hS:St B E H w){l:Nat}{st:LoopState}{pe:Option Code}{T:Tr AV}{n:Nat}{ps:List Tmp}{as bd:Code}(hg:H.get l=some (.loop st pe T n ps as bd)) (hlo:H.lo<=l)
  {r:Loop}(hr:w.heap[(E l).blk]? =some (.loop r)) (st':LoopState) (pe':Option Code) :
  St B E (H.put l (.loop st' pe' T n ps as bd)) (w.putObj (E l).blk (.loop {r with state:=st',pending:=pe'}))/\Post E H w E (H.put l (.loop st' pe' T n ps as bd)) (w.putObj (E l).blk (.loop {r with state:=st',pending:=pe'}))/\(H.put l (.loop st' pe' T n ps as bd)).Wf :=
 zmm hw hS hg rfl hlo _ _ (fun r' _=>⟨_,rfl⟩) (fun x off hx=>by rw [hr] at hx;cases hx;rfl) fun E' hE=>by
  have hei:E' l=E l:=hE l (hw.get_lt hg);obtain ⟨r2,k1,k2,k3,k4,k5,k6,k7,k8⟩:=(hS E' hE).loopOf hg;rw [hei,hr] at k1;cases k1;exact ⟨{r with state:=st',pending:=pe'},by rw [hei];exact zid hr,rfl,rfl,k4,k5,k6,k7,k8⟩
theorem zuq (hL:LOk L P){m:Nat}(hr:CodeRec P B m rec){l:Nat}{args:List AV}{H:AH}{out:Out}{T:Tr AV}{n:Nat}{ps:List Tmp}{assign body:Code}
  (hlo:H.lo<=l) (hg:H.get l=some (.loop .ready none T n ps assign body)) (hlen:args.length=ps.length){o1:Out}(h1:zzb L rec assign (zic (ps.zip args) T) H=some o1) (hx1:o1.ex= .normal)
  {T2:Tr AV}{n2:Nat}{ps2:List Tmp}{as2 bd2:Code}(hg1:o1.H.get l=some (.loop .ready none T2 n2 ps2 as2 bd2)){o2:Out}
  (h2:zzb L rec body o1.T (o1.H.put l (.loop .busy none T2 n2 ps2 as2 bd2))=some o2){pe:Option Code}{T3:Tr AV}{n3:Nat}{ps3:List Tmp}{as3 bd3:Code}(hg2:o2.H.get l=some (.loop .busy pe T3 n3 ps3 as3 bd3))
  (hout:(o2.ex= .normal/\out=out1 (.bool true) (o2.H.put l (.loop .ready none T3 n3 ps3 as3 bd3)))\/(∃id,o2.ex= .exit id/\out=out1 (.bool false) (o2.H.put l (.loop .done (some (.exit id)) T3 n3 ps3 as3 bd3))) \/
   (o2.ex= .ret/\out=out1 (.bool false) (o2.H.put l (.loop .done (some .ret) T3 n3 ps3 as3 bd3))))
  {E:Env}{w:World}{us:List Value}(hw:H.Wf) (hS:St B E H w) (hus:StL E H.next args us) :
  ∃g tmps as bd w',(Instr.yield (E l).blk us.toArray).run P w= .ok (.round (E l).blk g tmps as bd) w' /\
   ∀F,Open F->F.round=none->RoundIn F 0 P (E l).blk g tmps as bd w' fun e w1=> ∃u,e= .returned u/\Done B E H w (zrg out) out.H u w1:=by
 have hlt:=hw.get_lt hg;obtain ⟨r,k1,k2,k3,k4,k5,k6,k7,mm,k8,k9,k10,k11⟩:=hS.self.loopOf hg;have hul:us.length=args.length:=by rw [hus E (Agree.refl _ _),zma]
 have hsz:us.toArray.size=r.params.size:=by
  rw [← qp6,← qp6 (xs:=r.params),k5];simp;omega
 refine ⟨_,_,_,_,_,run_yield k1 hsz,fun F hF hro=> ?_⟩
 have hfold:∀u:List Value,(r.params.zip u.toArray).foldl (fun tmps (t,a)=>tmps.setIfInBounds t a) r.tmps=(ps.zip u).foldl (fun tmps (p:Tmp×Value)=>tmps.setIfInBounds p.1 p.2) r.tmps:=by
  intro u;rw [← Array.foldl_toList];congr 1;rw [Array.toList_zip,k5]
 have hto:Open (F.inRound (E l).blk):=hF.inRound _;rw [hfold us];refine roundIn_of_wpIn (hF.1 _) ?_;have hT0:StT E H.next (zic (ps.zip args) T) ((ps.zip us).foldl (fun tmps (p:Tmp×Value)=>tmps.setIfInBounds p.1 p.2) r.tmps):=fun E' hE=>by
  have hei:E' l=E l:=hE l hlt;obtain ⟨r',q1,q2,q3,q4,q5,q6,q7,_⟩:=(hS E' hE).loopOf hg;rw [hei,k1] at q1;cases q1;rw [hus E' hE];exact (TRel.params (m:=mm) ps args T r.tmps q4 k11 k8).1
 have hs0:((ps.zip us).foldl (fun tmps (p:Tmp×Value)=>tmps.setIfInBounds p.1 p.2) r.tmps).size=r.tmps.size:=by
  rw [hus E (Agree.refl _ _)];exact (TRel.params (m:=mm) ps args T r.tmps k4 k11 k8).2
 refine zlj hL.toLOk0 hL.mixed hr mm r.assign (F.inRound (E l).blk) hto (zic (ps.zip args) T) H o1 (by rw [k6];exact h1) (by rw [k6];exact k9) ⟨w.heap.size, []⟩ E w _
  ⟨hw,hS,hT0,DefOk.nil _ _ _ _,qn _,fun l' hl'=>by cases hl';exact ⟨r,k1⟩⟩ (by rw [hs0];exact k8) _ ?_
 intro e a1 w1 ⟨⟨E1,j1,j2,j3,j4⟩,j5,j6,j7⟩;rw [hx1] at j6;cases j6;have hE1:E1 l=E l:=j3.ext l hlt;obtain ⟨r1,p1,p2,p3,p4,p5,p6,p7,_⟩:=j1.self.loopOf hg1;rw [hE1] at p1;refine ⟨_,run_beginRound p1 p2,?_⟩;have hb:=zjy j5 j1 hg1 (by rw [j3.lo];exact hlo) (by rw [hE1];exact p1) .busy none
 rw [hE1] at hb;have hrec:({r1 with state:=.busy}:Loop)= {r1 with state:=.busy,pending:=none}:=by rw [← p3]
 rw [hrec];obtain ⟨b1,b2,b3⟩:=hb;refine zlj hL.toLOk0 hL.mixed hr mm r.body (F.inRound (E l).blk) hto o1.T _ o2 (by rw [k7];exact h2) (by rw [k7];exact k10) ⟨w.heap.size, []⟩ E1 _ a1
  ⟨b3,b1,j2,j4.post b2,qx2 j3.size b2.size,fun l' hl'=>by
   cases hl'
   obtain ⟨r',hr'⟩:=j3.loops _ r k1;exact b2.loops _ r' hr'⟩ (by rw [j7];show mm<=Array.size _;rw [hs0];exact k8) _ ?_
 intro e2 a2 w2 ⟨⟨E2,i1,i2,i3,i4⟩,i5,i6,i7⟩;have hE2:E2 l=E l:=(i3.ext l (qz hlt j3.next)).trans hE1;obtain ⟨r2,q1,q2,q3,_⟩:=i1.self.loopOf hg2;have hlo2:o2.H.lo<=l:=by rw [i3.lo,b2.lo,j3.lo];exact hlo
 have fin:∀(st':LoopState) (pe':Option Code) (bv:Bool),out=out1 (.bool bv) (o2.H.put l (.loop st' pe' T3 n3 ps3 as3 bd3)) ->
   ∃u,Ending.returned (.bool bv)= .returned u/\Done B E H w (zrg out) out.H u (w2.putObj (E l).blk (.loop {r2 with state:=st',pending:=pe'})):=by
  intro st' pe' bv he;have hp:=zjy i5 i1 hg2 hlo2 q1 st' pe';rw [hE2] at hp;refine ⟨_,rfl,E2,?_,?_,?_,?_⟩
  ·rw [he];exact fun _ _=>rfl
  ·rw [he];exact hp.1
  ·rw [he];exact ((j3.trans b2).trans i3).trans hp.2.1
  ·rw [he];exact hp.2.2
 rw [hE2] at q1;rcases hout with ⟨hx,he⟩|⟨id,hx,he⟩|⟨hx,he⟩
 ·rw [hx] at i6;cases i6
  exact ⟨_,_,run_endRound none q1,fin .ready none true he⟩
 ·rw [hx] at i6;cases i6
  exact ⟨_,_,run_endRound (some (.exit id)) q1,fin .done (some (.exit id)) false he⟩
 ·rw [hx] at i6;cases i6
  exact ⟨_,_,run_endRound (some .ret) q1,fin .done (some .ret) false he⟩
end
end Go.Ev
end
