import Derived.Test.YtmdkejaglfokaaaGreatWAAE
import Derived.KernelRfl
import Derived.Test.YtmdkejaglfokaaaGreatProg
import Derived.RowKit
import GoSem.Op.String
import Derived.Test.YtmdkejaglfokaaaGreatWAAB
import Derived.Lib.Overlaps
noncomputable section
set_option maxHeartbeats 8000000
set_option linter.unusedSimpArgs false
set_option linter.unusedVariables false
namespace Go.Ev
open Go
noncomputable section
def lpI [i:Inhabited Code]:C2:=.loop i.default
def lsI [i:Inhabited Oper](f:List AV->AH->Option AV) (xs:List O2) (d:Nat) (k:K2):K2:=ls_ f xs i.default d k
def lsE [i:Inhabited Oper](x:Option AV) (L:Lk) (d:Nat) (k:K2) (s:List Kf) (T:Tr AV) (H:AH) (Q:PostC):Prop:=lsR x L i.default d k s T H Q
def ixL (L:Lk) (t:Nat):Option (Option Nat×Nat):=match L.under t with
 |some (.slice e)=>(match L.size e with|some z=>some (none,z)|none=>none)
 |some (.array n e)=>(match L.size e with|some z=>some (some n,z)|none=>none)
 |_=>none
def foL (L:Lk) (s f:Nat):Option Nat:=match L.under s with
 |some (.struct fs)=>(match nth fs.toList f with|some fd=>some fd.offset|none=>none)
 |_=>none
def bsL (L:Lk) (t:Nat):Option (Nat×Nat×AV):=match L.under t with
 |some (.slice e)=>(match L.size e,L.zero e with|some s,some z=>some (e,s,z)|_,_=>none)
 |_=>none
def apL (L:Lk) (ts:List Nat):Option (Nat×Nat×Nat):=match ts with
 |t::t'::_=>(match L.under t',L.under t with
  |some (.slice _),some (.slice e)=>(match L.size e,L.bytes e with|some z,some b=>some (e,z,b)|_,_=>none)
  |_,_=>none)
 |_=>none
def ikL (L:Lk) (t:Nat):Option IntKind:=match L.under t with|some (.int k)=>some k|_=>none
def zqL (L:Lk) (t:Nat):Option (Ce×Nat):=match L.zero t,L.size t with|some z,some s=>some (z.toC,s)|_,_=>none
def ldL (L:Lk) (t:Nat):Option (Bool×Nat):=match L.isAgg t,L.size t with|some b,some s=>some (b,s)|_,_=>none
def o2s:List Operand->List O2
 | []=> []
 |x::l=>o2 x::o2s l
def kBad:K2->K2:=fun _=>.fail
def ldq:Option (Bool×Nat)->O2->Nat->K2->K2
 |some (true,n)=>lN_ n
 |some (false,_)=>l_
 |none=>fun _ _=>kBad
def ixq:Option (Option Nat×Nat)->O2->O2->Nat->K2->K2
 |some (none,z)=>ix_ z
 |some (some n,z)=>q_ (ixA n z)
 |none=>fun _ _ _=>kBad
def foq:Option Nat->O2->Nat->K2->K2
 |some o=>fa_ o
 |none=>fun _ _=>kBad
def cvq (L:Lk) (s t:Nat):Option IntKind->O2->Nat->K2->K2
 |some k=>p_ (cvI k)
 |none=>h1_ false (zmb L s t)
def alq (e d:Nat):Option (Ce×Nat)->K2->K2
 |some (c,s)=>al_ false c e s d
 |none=>kBad
def bxq (e:Nat):Option Nat->O2->Nat->K2->K2
 |some s=>bx_ false e s
 |none=>fun _ _=>kBad
def stq (L:Lk) (t:Nat):Option Nat->O2->O2->K2->K2
 |some 1=>s1_ false L t
 |some n=>sN_ false n
 |none=>fun _ _=>kBad
def bsq (n:Nat) (is:List Nat):Option (Nat×Nat×AV)->List O2->Nat->K2->K2
 |some (e,s,z)=>hn_ false (fun xs H=>bsF s n z e (zipF is xs) H)
 |none=>fun _ _=>kBad
def apq (L:Lk) (ts:List Nat):Option (Nat×Nat×Nat)->List O2->Nat->K2->K2
 |some (e,z,b)=>hn_ false (appX e z b)
 |none=>hn_ false (zda .append L ts)
def unq:UnOp->O2->Nat->K2->K2
 | .not=>nt_
 |u=>p_ (evUn u)
def fnq (f n:Nat) (xs:List O2) (d:Nat):K2->K2:=n_ (fun zs _=>some (.fn (.func f) (zfn n zs) (restN n zs))) xs d
def slq (L:Lk) (w:Bool) (o:Oper) (t:Nat) (x:Operand) (lo hi mx:Option Operand) (d:Nat):K2->K2:=match w,mx with
 |false,none=> @lsI ⟨o⟩ (fun xs _=>zua L t lo.isSome hi.isSome false xs) (o2s (x::(lo.toList ++ (hi.toList ++ [])))) d
 |_,_=>n_ (fun xs _=>zua L t lo.isSome hi.isSome mx.isSome xs) (o2s (x::(lo.toList ++ (hi.toList ++ mx.toList)))) d
def buq (L:Lk) (ts:List Nat) (xs:List O2) (d:Nat):Builtin->K2->K2
 | .len=>le_ L (hdN ts) (hdO xs) d
 | .append=>apq L ts (apL L ts) xs d
 | .copy=>hn_ false (zda .copy L ts) xs d
 |b=>n_ (fun xs H=>fstO (zda b L ts xs H)) xs d
where
 hdN:List Nat->Nat|t::_=>t| []=>0
 hdO:List O2->O2|x::_=>x| []=>.con .undef
def caq (L:Lk) (c:Call) (d:Nat):K2->K2:=match c.callee with
 | .value (.func g)=>cl_ false g (o2s c.args.toList) d
 | .value f=>cf_ false (o2s (f::c.args.toList)) d
 | .builtin b=>buq L c.argTypes.toList (o2s c.args.toList) d b
 | .invoke r nm=>.cn false (fun xs H=>zgd L (hd xs) nm (tl xs) H) (o2s (r::c.args.toList)) (some (sOf d))
def cM (L:Lk) (w:Bool) (o:Oper) (d:Nat) (op:Op):K2->K2:=match op with
 | .move x=>m_ (o2 x) d
 | .assign x=>m_ (o2 x) d
 | .binOp op t x y _=>b_ L op t x y d
 | .unOp u _ x=>unq u (o2 x) d
 | .pick a b c=>pk_ (o2 a) (o2 b) (o2 c) d
 | .lookup t x ix ok=>n_ (fun xs H=>zob L t (hd xs) (hd (tl xs)) ok H) (o2s [x,ix]) d
 | .typeAssert x _ t ok=>p_ (fun v=>zde L v t ok) (o2 x) d
 | .makeFunc (.func f) a b=>fnq f a.size (o2s (a.toList ++ b.toList)) d
 | .load t a=>ldq (ldL L t) (o2 a) d
 | .indexAddr t x ix=>ixq (ixL L t) (o2 x) (o2 ix) d
 | .fieldAddr s x f=>foq (foL L s f) (o2 x) d
 | .extract x ix=>ex_ ix (o2 x) d
 | .field t x f=>p_ (fun v=>zwi L t v f) (o2 x) d
 | .index t x ix=>q_ (zxd L t) (o2 x) (o2 ix) d
 | .makeInterface t x=>p_ (zva L t) (o2 x) d
 | .nilCheck x=>nl_ (o2 x) d
 | .slice t x lo hi mx=>slq L w o t x lo hi mx d
 | .convert s t x=>cvq L s t (ikL L t) (o2 x) d
 | .build t ps=>bu_ L t (ps.toList.map fun p=>p.1) (o2s (ps.toList.map fun p=>p.2)) d
 | .alloc e=>alq e d (zqL L e)
 | .box e x=>bxq e (L.size e) (o2 x) d
 | .buildSlice t n ps=>bsq n (ps.toList.map fun p=>p.1) (bsL L t) (o2s (ps.toList.map fun p=>p.2)) d
 | .makeMap _ none=>a_ false zxv d
 | .makeSlice t l c=>hn_ false (fun xs H=>zqc L t (hd xs) (hd (tl xs)) H) (o2s [l,c]) d
 | .call c=>caq L c d
 |_=>kBad
def cU (L:Lk) (op:Op):K2->K2:=match op with
 | .nilCheck x=>nz_ (o2 x)
 | .store t a x=>stq L t (L.size t) (o2 a) (o2 x)
 | .mapUpdate t m k x=>hz_ false (fun xs H=>unitF (zqa L t (hd xs) (hd (tl xs)) (hd (tl (tl xs))) H)) (o2s [m,k,x])
 | .insert t m k x=>hz_ false (fun xs H=>unitF (zqa L t (hd xs) (hd (tl xs)) (hd (tl (tl xs))) H)) (o2s [m,k,x])
 | .call c=>(match c.callee with
  | .value (.func g)=>cz_ false g (o2s c.args.toList)
  | .value f=>cy_ false (o2s (f::c.args.toList))
  | .builtin b=>hz_ false (zda b L c.argTypes.toList) (o2s c.args.toList)
  | .invoke r nm=>.cn false (fun xs H=>zgd L (hd xs) nm (tl xs) H) (o2s (r::c.args.toList)) none)
 |_=>kBad
def gP (w:Bool):Option (Option Nat)->Option Nat->(K2->K2)->K2->K2
 |some (some c),some t,A=>o_ c w t A
 |some (some c),none,A=>oz_ c w A
 |_,some t,_=>sk_ t
 |_,none,_=>.sk none
def cG (ds:List (Option Nat)) (d:Option Nat) (A:K2->K2):Option (Nat×Bool)->K2->K2
 |none=>A
 |some (j,w)=>gP w (nth ds j) d A
def cO (L:Lk) (w:Bool) (ds:List (Option Nat)):List Oper->K2
 | []=>.done
 |o::l=>cG ds o.dst (match o.dst with|some d=>cM L w o d o.op|none=>cU L o.op) o.guard (cO L w ds l)
def cT (L:Lk) (c:Code):C2:=match c with
 | .skip=>.skip
 | .region _ ops w=>.reg (cO L w (ops.toList.map fun o=>o.dst) ops.toList)
 | .seq a b=>.seq (cT L a) (cT L b)
 | .cond x a b=>.cond (o2 x) (cT L a) (cT L b)
 | .block id a=>.block id (cT L a)
 | .loop a=> @lpI ⟨a⟩
 | .exit id=>.exit id
 | .scope a=>.scope (cT L a)
 | .label _=>.skip
 | .goto l=>.goto l
 | .ret=>.ret
 |_=>.bad
end
section
variable {L:Lk}{w:Bool}{a b:Code}{x y z:Operand}{id r d:Nat}{l:List Oper}{ds:List (Option Nat)}{op:Op}{ty t u:Nat}{p:String}{af:Array Edge}{g:Option (Nat×Bool)}{o:Oper}{k:K2}{A:K2->K2}
theorem cT_reg:cT L (.region r l.toArray w)= .reg (cO L w (l.map fun o=>o.dst) l):=rfl
theorem cT_seq:cT L (.seq a b)= .seq (cT L a) (cT L b):=rfl
theorem zli1:cT L (.cond x a b)= .cond (o2 x) (cT L a) (cT L b):=rfl
theorem cT_blk:cT L (.block id a)= .block id (cT L a):=rfl
theorem zmi1:cT L (.loop a)= @lpI ⟨a⟩:=rfl
theorem zni1:cT L (.exit id)= .exit id:=rfl
theorem cT_scp:cT L (.scope a)= .scope (cT L a):=rfl
theorem cT_ret:cT L .ret= .ret:=rfl
theorem zoi1:cT L .skip= .skip:=rfl
theorem cT_lab:cT L (.label r)= .skip:=rfl
theorem zpi1:cT L (.goto r)= .goto r:=rfl
theorem cO_nil:cO L w ds []= .done:=rfl
theorem cO_d:cO L w ds (⟨some d,op,ty,p,af,none⟩::l)=cM L w ⟨some d,op,ty,p,af,none⟩ d op (cO L w ds l):=rfl
theorem cO_u:cO L w ds (⟨none,op,ty,p,af,none⟩::l)=cU L op (cO L w ds l):=rfl
theorem cO_dg {j:Nat}{v:Bool}:cO L w ds (⟨some d,op,ty,p,af,some (j,v)⟩::l)=gP v (nth ds j) (some d) (cM L w ⟨some d,op,ty,p,af,some (j,v)⟩ d op) (cO L w ds l):=rfl
theorem cO_ug {j:Nat}{v:Bool}:cO L w ds (⟨none,op,ty,p,af,some (j,v)⟩::l)=gP v (nth ds j) none (cU L op) (cO L w ds l):=rfl
theorem cM_mv:cM L w o d (.move x)=m_ (o2 x) d:=rfl
theorem cM_as:cM L w o d (.assign x)=m_ (o2 x) d:=rfl
theorem cM_bin {b:BinOp}:cM L w o d (.binOp b t x y u)=b_ L b t x y d:=rfl
theorem cM_un {b:UnOp}:cM L w o d (.unOp b t x)=unq b (o2 x) d:=rfl
theorem zqi1:cM L w o d (.pick x y z)=pk_ (o2 x) (o2 y) (o2 z) d:=rfl
theorem zri1 {b:Bool}:cM L w o d (.lookup t x y b)=n_ (fun xs H=>zob L t (hd xs) (hd (tl xs)) b H) (o2s [x,y]) d:=rfl
theorem cM_ta {b:Bool}:cM L w o d (.typeAssert x u t b)=p_ (fun v=>zde L v t b) (o2 x) d:=rfl
theorem cM_mf {f:Nat}{aq bs:List Operand}:cM L w o d (.makeFunc (.func f) aq.toArray bs.toArray)=fnq f aq.length (o2s (aq ++ bs)) d:=rfl
theorem cM_ld:cM L w o d (.load t x)=ldq (ldL L t) (o2 x) d:=rfl
theorem cM_ix:cM L w o d (.indexAddr t x y)=ixq (ixL L t) (o2 x) (o2 y) d:=rfl
theorem cM_fa {f:Nat}:cM L w o d (.fieldAddr t x f)=foq (foL L t f) (o2 x) d:=rfl
theorem cM_ex {f:Nat}:cM L w o d (.extract x f)=ex_ f (o2 x) d:=rfl
theorem cM_fi {f:Nat}:cM L w o d (.field t x f)=p_ (fun v=>zwi L t v f) (o2 x) d:=rfl
theorem cM_in:cM L w o d (.index t x y)=q_ (zxd L t) (o2 x) (o2 y) d:=rfl
theorem cM_mi:cM L w o d (.makeInterface t x)=p_ (zva L t) (o2 x) d:=rfl
theorem cM_nil:cM L w o d (.nilCheck x)=nl_ (o2 x) d:=rfl
theorem cM_sl {lo hi:Option Operand}:cM L false o d (.slice t x lo hi none)= @lsI ⟨o⟩ (fun xs _=>zua L t lo.isSome hi.isSome false xs) (o2s (x::(lo.toList ++ (hi.toList ++ [])))) d:=rfl
theorem cM_slt {lo hi:Option Operand}:cM L true o d (.slice t x lo hi none)=n_ (fun xs _=>zua L t lo.isSome hi.isSome false xs) (o2s (x::(lo.toList ++ (hi.toList ++ [])))) d:=rfl
theorem cM_slm {lo hi:Option Operand}:cM L w o d (.slice t x lo hi (some y))=n_ (fun xs _=>zua L t lo.isSome hi.isSome true xs) (o2s (x::(lo.toList ++ (hi.toList ++ [y])))) d:=by cases w<;>rfl
theorem cM_cv:cM L w o d (.convert u t x)=cvq L u t (ikL L t) (o2 x) d:=rfl
theorem cM_bu {ps:List (Nat×Operand)}:cM L w o d (.build t ps.toArray)=bu_ L t (ps.map fun p=>p.1) (o2s (ps.map fun p=>p.2)) d:=rfl
theorem cM_al:cM L w o d (.alloc t)=alq t d (zqL L t):=rfl
theorem cM_bx:cM L w o d (.box t x)=bxq t (L.size t) (o2 x) d:=rfl
theorem cM_bs {n:Nat}{ps:List (Nat×Operand)}:cM L w o d (.buildSlice t n ps.toArray)=bsq n (ps.map fun p=>p.1) (bsL L t) (o2s (ps.map fun p=>p.2)) d:=rfl
theorem cM_mm:cM L w o d (.makeMap t none)=a_ false zxv d:=rfl
theorem cM_ms:cM L w o d (.makeSlice t x y)=hn_ false (fun xs H=>zqc L t (hd xs) (hd (tl xs)) H) (o2s [x,y]) d:=rfl
theorem cM_cl {f:Nat}{aq:List Operand}{ts:Array Nat}:cM L w o d (.call ⟨.value (.func f),aq.toArray,ts⟩)=cl_ false f (o2s aq) d:=rfl
theorem cM_cf {f:Nat}{aq:List Operand}{ts:Array Nat}:cM L w o d (.call ⟨.value (.tmp f),aq.toArray,ts⟩)=cf_ false (o2s (.tmp f::aq)) d:=rfl
theorem cM_ci {n:String}{aq:List Operand}{ts:Array Nat}:cM L w o d (.call ⟨.invoke x n,aq.toArray,ts⟩)= .cn false (fun xs H=>zgd L (hd xs) n (tl xs) H) (o2s (x::aq)) (some (sOf d)):=rfl
theorem cM_cb {b:Builtin}{aq:List Operand}{ts:List Nat}:cM L w o d (.call ⟨.builtin b,aq.toArray,ts.toArray⟩)=buq L ts (o2s aq) d b:=rfl
theorem cU_nil:cU L (.nilCheck x)=nz_ (o2 x):=rfl
theorem cU_st:cU L (.store t x y)=stq L t (L.size t) (o2 x) (o2 y):=rfl
theorem cU_mu:cU L (.mapUpdate t x y z)=hz_ false (fun xs H=>unitF (zqa L t (hd xs) (hd (tl xs)) (hd (tl (tl xs))) H)) (o2s [x,y,z]):=rfl
theorem cU_is:cU L (.insert t x y z)=hz_ false (fun xs H=>unitF (zqa L t (hd xs) (hd (tl xs)) (hd (tl (tl xs))) H)) (o2s [x,y,z]):=rfl
theorem cU_cl {f:Nat}{aq:List Operand}{ts:Array Nat}:cU L (.call ⟨.value (.func f),aq.toArray,ts⟩)=cz_ false f (o2s aq):=rfl
theorem cU_cy {f:Nat}{aq:List Operand}{ts:Array Nat}:cU L (.call ⟨.value (.tmp f),aq.toArray,ts⟩)=cy_ false (o2s (.tmp f::aq)):=rfl
theorem cU_cb {b:Builtin}{aq:List Operand}{ts:List Nat}:cU L (.call ⟨.builtin b,aq.toArray,ts.toArray⟩)=hz_ false (zda b L ts) (o2s aq):=rfl
abbrev pq1:=qa @cT_reg (qa @cT_seq (qa @zli1 (qa @cT_blk (qa @zmi1 (qa @zni1 (qa @cT_scp (qa @cT_ret (qa @zoi1 (qa @cT_lab (qa @zpi1 (qa @cO_nil (qa @cO_d (qa @cO_u (qa @cO_dg (qa @cO_ug (qa @cM_mv (qa @cM_as (qa @cM_bin (qa @cM_un (qa @zqi1 (qa @zri1 (qa @cM_ta (qa @cM_mf (qa @cM_ld (qa @cM_ix (qa @cM_fa (qa @cM_ex (qa @cM_fi (qa @cM_in (qa @cM_mi (qa @cM_nil (qa @cM_sl (qa @cM_slt (qa @cM_slm (qa @cM_cv (qa @cM_bu (qa @cM_al (qa @cM_bx (qa @cM_bs (qa @cM_mm (qa @cM_ms (qa @cM_cl (qa @cM_cf (qa @cM_ci (qa @cM_cb (qa @cU_nil (qa @cU_st (qa @cU_mu (qa @cU_is (qa @cU_cl (qa @cU_cy @cU_cb)))))))))))))))))))))))))))))))))))))))))))))))))))
end
section
variable {L:Lk}{w v:Bool}{x y:O2}{p q:Operand}{a b:Code}{id r d c t e s n:Nat}{z:AV}{A:K2->K2}{xs:List O2}{is ts:List Nat}{ps:List Operand}{ce:Ce}
theorem gP_d:gP w (some (some c)) (some d) A=o_ c w d A:=rfl
theorem gP_u:gP w (some (some c)) none A=oz_ c w A:=rfl
theorem gP_s:gP w (some none) (some d) A=sk_ d:=rfl
theorem gP_z:gP w (some none) none A= .sk none:=rfl
theorem nt_z {α:Type}{a:α}{l:List α}:nth (a::l) 0=some a:=rfl
theorem nt_s {α:Type}{a:α}{l:List α}{n:Nat}:nth (a::l) (n+1)=nth l n:=rfl
theorem o2s_n:o2s []= []:=rfl
theorem o2s_c:o2s (p::ps)=o2 p::o2s ps:=rfl
theorem o2_f:o2 (.func n)= .con (.fn (.func n) [] []):=rfl
theorem o2_g:o2 (.global n)= .con (.ext 2 n 0):=rfl
theorem ldq_t:ldq (some (true,n)) x d=lN_ n x d:=rfl
theorem ldq_f:ldq (some (false,n)) x d=l_ x d:=rfl
theorem ixq_s:ixq (some (none,n)) x y d=ix_ n x y d:=rfl
theorem ixq_a {m:Nat}:ixq (some (some m,n)) x y d=q_ (ixA m n) x y d:=rfl
theorem foq_s:foq (some n) x d=fa_ n x d:=rfl
theorem cvq_s {k:IntKind}:cvq L s t (some k) x d=p_ (cvI k) x d:=rfl
theorem cvq_n:cvq L s t none x d=h1_ false (zmb L s t) x d:=rfl
theorem alq_s:alq e d (some (ce,s))=al_ false ce e s d:=rfl
theorem bxq_s:bxq e (some s) x d=bx_ false e s x d:=rfl
theorem stq_1:stq L t (some 1) x y=s1_ false L t x y:=rfl
theorem stq_0:stq L t (some 0) x y=sN_ false 0 x y:=rfl
theorem stq_n:stq L t (some (n+2)) x y=sN_ false (n+2) x y:=rfl
theorem bsq_s:bsq n is (some (e,s,z)) xs d=hn_ false (fun xs H=>bsF s n z e (zipF is xs) H) xs d:=rfl
theorem apq_s {b:Nat}:apq L ts (some (e,n,b)) xs d=hn_ false (appX e n b) xs d:=rfl
theorem apq_n:apq L ts none xs d=hn_ false (zda .append L ts) xs d:=rfl
theorem unq_n:unq .not x d=nt_ x d:=rfl
theorem unq_g:unq .neg x d=p_ (evUn .neg) x d:=rfl
theorem fnq_s:fnq n t xs d=n_ (fun zs _=>some (.fn (.func n) (zfn t zs) (restN t zs))) xs d:=rfl
theorem buq_l:buq L (t::ts) (x::xs) d .len=le_ L t x d:=rfl
theorem buq_a:buq L ts xs d .append=apq L ts (apL L ts) xs d:=rfl
theorem buq_c:buq L ts xs d .copy=hn_ false (zda .copy L ts) xs d:=rfl
theorem buq_x:buq L ts xs d .max=n_ (fun xs H=>fstO (zda .max L ts xs H)) xs d:=rfl
theorem buq_i:buq L ts xs d .min=n_ (fun xs H=>fstO (zda .min L ts xs H)) xs d:=rfl
theorem buq_p:buq L ts xs d .cap=n_ (fun xs H=>fstO (zda .cap L ts xs H)) xs d:=rfl
abbrev pq2:=qa @gP_d (qa @gP_u (qa @gP_s (qa @gP_z (qa @nt_z (qa @nt_s (qa @o2s_n (qa @o2s_c (qa @o2_f (qa @o2_g (qa @ldq_t (qa @ldq_f (qa @ixq_s (qa @ixq_a (qa @foq_s (qa @cvq_s (qa @cvq_n (qa @alq_s (qa @bxq_s (qa @stq_1 (qa @stq_0 (qa @stq_n (qa @bsq_s (qa @apq_s (qa @apq_n (qa @unq_n (qa @unq_g (qa @fnq_s (qa @buq_l (qa @buq_a (qa @buq_c (qa @buq_x (qa @buq_i (qa @buq_p (qa @zoe1 (qa @zpe1 (qa @zqe1 (qa @zot (qa @zre1 (qa @o2_sl (qa @zse1 (qa @zte1 @o2_fn)))))))))))))))))))))))))))))))))))))))))
end
section
variable {L:Lk}{i:Inhabited Oper}{f:List AV->AH->Option AV}{xs:List O2}{d:Nat}{k:K2}{s:List Kf}{T:Tr AV}{H:AH}{Q:PostC}{v:AV}
theorem zoi:RK L (lsI f xs d k) s T H Q=lsE (f (evs xs T) H) L d k s T H Q:=zpk
theorem lsE_s:lsE (some v) L d k s T H Q=RK L k s (pS d v T) H Q:=lsR_s
end
theorem rc_lq {L:Lk}{s:List Kf}{T:Tr AV}{H:AH}{Q:PostC}{i:Inhabited Code}{c c1:C2}(I:Nat->Tr AV->AH->Prop) (n:Nat) (h0:I n T H) (h:∀n T H,I n T H->RC L c [] T H (LpR L s Q I n)) (e1:comp L i.default=c1) (e2:c1=c):RC L lpI s T H Q:=rc_lp (e1.trans e2) I n h0 h
noncomputable section
abbrev Ov:=List (Nat×List (Nat×Nat×List Nat))
def ovq (r:Nat):Ov->Option (List (Nat×Nat×List Nat))
 | []=>none
 |p::l=>if r=p.1 then some p.2 else ovq r l
def alW (e d:Nat):Option (Ce×Nat)->K2->K2
 |some (c,s)=>al_ true c e s d
 |none=>kBad
def bsW (n:Nat) (is:List Nat):Option (Nat×Nat×AV)->List O2->Nat->K2->K2
 |some (e,s,z)=>hn_ true (fun xs H=>bsF s n z e (zipF is xs) H)
 |none=>fun _ _=>kBad
def apW:Option (Nat×Nat×Nat)->List O2->Nat->K2->K2
 |some (e,z,b)=>hn_ true (appX e z b)
 |none=>fun _ _=>kBad
def cW (L:Lk) (ks:List Nat) (d:Nat) (op:Op):K2->K2:=match op with
 | .alloc e=>alW e d (zqL L e)
 | .buildSlice t n ps=>bsW n (ps.toList.map fun p=>p.1) (bsL L t) (o2s (ps.toList.map fun p=>p.2)) d
 | .call ⟨.builtin .append,aq,ts⟩=>apW (apL L ts.toList) (o2s aq.toList) d
 | .call ⟨.value (.func g),aq,_⟩=>.cw (some (ks.map sOf)) g (o2s aq.toList) (some (sOf d))
 |_=>kBad
def cWu (L:Lk) (ks:List Nat) (op:Op):K2->K2:=match op with
 | .call ⟨.value (.func g),aq,_⟩=>.cw (some (ks.map sOf)) g (o2s aq.toList) none
 |_=>kBad
def cFo (L:Lk) (w:Bool) (ks:List Nat) (o:Oper):K2->K2:=match o.dst,w with
 |some d,false=>cM L true o d o.op
 |some d,true=>cW L ks d o.op
 |none,false=>cU L o.op
 |none,true=>cWu L ks o.op
def cX (L:Lk) (ds:List (Option Nat)) (f:Nat) (ks:List Nat) (k:K2):Option Oper->K2
 |some o=>cG ds o.dst (cFo L (!Nat.beq f 0) ks o) o.guard k
 |none=>.fail
def cV (L:Lk) (ds:List (Option Nat)) (all:List Oper):List (Nat×Nat×List Nat)->K2
 | []=>.done
 |p::l=>cX L ds p.2.1 p.2.2 (cV L ds all l) (nth all p.1)
def cR' (L:Lk) (w:Bool) (l:List Oper):Option (List (Nat×Nat×List Nat))->K2
 |none=>cO L w (l.map fun o=>o.dst) l
 |some v=>cV L (l.map fun o=>o.dst) l v
def cTo (L:Lk) (ov:Ov) (c:Code):C2:=match c with
 | .skip=>.skip
 | .region r ops w=>.reg (cR' L w ops.toList (ovq r ov))
 | .seq a b=>.seq (cTo L ov a) (cTo L ov b)
 | .cond x a b=>.cond (o2 x) (cTo L ov a) (cTo L ov b)
 | .block id a=>.block id (cTo L ov a)
 | .loop a=> @lpI ⟨a⟩
 | .exit id=>.exit id
 | .scope a=>.scope (cTo L ov a)
 | .ret=>.ret
 |_=>.bad
end
section
variable {L:Lk}{ov:Ov}{w v:Bool}{a b:Code}{x y z:Operand}{id r d f i j:Nat}{l all:List Oper}{ds:List (Option Nat)}{op:Op}{ty t u:Nat}{p:String}{af:Array Edge}{o:Oper}{k:K2}{ks:List Nat}{rs:List (Nat×Nat×List Nat)}
theorem co_reg:cTo L ov (.region r l.toArray w)= .reg (cR' L w l (ovq r ov)):=rfl
theorem co_seq:cTo L ov (.seq a b)= .seq (cTo L ov a) (cTo L ov b):=rfl
theorem zsi1:cTo L ov (.cond x a b)= .cond (o2 x) (cTo L ov a) (cTo L ov b):=rfl
theorem co_blk:cTo L ov (.block id a)= .block id (cTo L ov a):=rfl
theorem zti1:cTo L ov (.loop a)= @lpI ⟨a⟩:=rfl
theorem zui1:cTo L ov (.exit id)= .exit id:=rfl
theorem co_scp:cTo L ov (.scope a)= .scope (cTo L ov a):=rfl
theorem co_ret:cTo L ov .ret= .ret:=rfl
theorem zvi1:cTo L ov .skip= .skip:=rfl
theorem ov_n:ovq r []=none:=rfl
theorem ov_c:ovq r ((i,rs)::ov)=if r=i then some rs else ovq r ov:=rfl
theorem cr_n:cR' L w l none=cO L w (l.map fun o=>o.dst) l:=rfl
theorem cr_s:cR' L w l (some rs)=cV L (l.map fun o=>o.dst) l rs:=rfl
theorem cv_n:cV L ds all []= .done:=rfl
theorem cv_c:cV L ds all ((i,f,ks)::rs)=cX L ds f ks (cV L ds all rs) (nth all i):=rfl
theorem cx_0:cX L ds 0 ks k (some ⟨some d,op,ty,p,af,none⟩)=cM L true ⟨some d,op,ty,p,af,none⟩ d op k:=rfl
theorem cx_1:cX L ds 1 ks k (some ⟨some d,op,ty,p,af,none⟩)=cW L ks d op k:=rfl
theorem cx_0u:cX L ds 0 ks k (some ⟨none,op,ty,p,af,none⟩)=cU L op k:=rfl
theorem cx_1u:cX L ds 1 ks k (some ⟨none,op,ty,p,af,none⟩)=cWu L ks op k:=rfl
theorem cx_0g:cX L ds 0 ks k (some ⟨some d,op,ty,p,af,some (j,v)⟩)=gP v (nth ds j) (some d) (cM L true ⟨some d,op,ty,p,af,some (j,v)⟩ d op) k:=rfl
theorem cx_1g:cX L ds 1 ks k (some ⟨some d,op,ty,p,af,some (j,v)⟩)=gP v (nth ds j) (some d) (cW L ks d op) k:=rfl
theorem cx_0h:cX L ds 0 ks k (some ⟨none,op,ty,p,af,some (j,v)⟩)=gP v (nth ds j) none (cU L op) k:=rfl
theorem cW_al:cW L ks d (.alloc t)=alW t d (zqL L t):=rfl
theorem cW_bs {n:Nat}{ps:List (Nat×Operand)}:cW L ks d (.buildSlice t n ps.toArray)=bsW n (ps.map fun p=>p.1) (bsL L t) (o2s (ps.map fun p=>p.2)) d:=rfl
theorem cW_ap {aq:List Operand}{ts:List Nat}:cW L ks d (.call ⟨.builtin .append,aq.toArray,ts.toArray⟩)=apW (apL L ts) (o2s aq) d:=rfl
theorem cW_cl {g:Nat}{aq:List Operand}{ts:Array Nat}:cW L ks d (.call ⟨.value (.func g),aq.toArray,ts⟩)= .cw (some (ks.map sOf)) g (o2s aq) (some (sOf d)):=rfl
theorem alW_s {e s:Nat}{ce:Ce}:alW e d (some (ce,s))=al_ true ce e s d:=rfl
theorem bsW_s {n e s:Nat}{is:List Nat}{z:AV}{xs:List O2}:bsW n is (some (e,s,z)) xs d=hn_ true (fun xs H=>bsF s n z e (zipF is xs) H) xs d:=rfl
theorem apW_s {e z b:Nat}{xs:List O2}:apW (some (e,z,b)) xs d=hn_ true (appX e z b) xs d:=rfl
abbrev po1:=qa @co_reg (qa @co_seq (qa @zsi1 (qa @co_blk (qa @zti1 (qa @zui1 (qa @co_scp (qa @co_ret (qa @zvi1 (qa @cr_n (qa @cr_s (qa @cv_n (qa @cv_c (qa @cx_0 (qa @cx_1 (qa @cx_0u (qa @cx_1u (qa @cx_0g (qa @cx_1g (qa @cx_0h (qa @cW_al (qa @cW_bs (qa @cW_ap (qa @cW_cl (qa @nt_z @nt_s))))))))))))))))))))))))
abbrev po2:=qa @ov_n (qa @ov_c (qa @alW_s (qa @bsW_s @apW_s)))
end
open Go.RowKit
def CallN (P:Program) (B:Nat) (E:Env) (H:AH) (w:World) (f:FuncId) (us:List Value) (R:AV->AH->Prop):Prop :=
 match (callFunc f us.toArray).run P w with
 | .ok (.value u) w1=> ∃v H1,R v H1/\Done B E H w v H1 u w1
 | .ok (.enter g vs) w'=>CallsIn Fence.wide 0 P g vs w' fun e w1=> ∃u v H1,e= .returned u/\R v H1/\Done B E H w v H1 u w1
 |_=>False
def FnN (P:Program) (B:Nat) (f:FuncId) (args:List AV) (H:AH) (R:AV->AH->Prop):Prop :=
 ∀E w us,H.Wf->St B E H w->StL E H.next args us->CallN P B E H w f us R
section
variable {L:Lk}{P:Program}{B:Nat}{rec:Rec}{F:Fence}{H:AH}{T:Tr AV}
theorem CallOk.n {E:Env}{w:World}{f:FuncId}{us:List Value}{R:AV->AH->Prop}{v:AV}{H1:AH}(h:CallOk P B E H w f us v H1) (hR:R v H1):CallN P B E H w f us R:=by
 unfold CallOk at h;unfold CallN
 revert h
 cases (callFunc f us.toArray).run P w with
 |ok nx w1 =>
  cases nx with
  |value u=>exact fun h=>⟨v,H1,hR,h⟩
  |enter g vs=>exact fun hc=>CallsIn.mono hc fun e w1 ⟨u,he,h2⟩=>⟨u,v,H1,he,hR,h2⟩
  |_=>exact fun hc=>hc
 |_=>exact fun hc=>hc
theorem CallN.ok {E E0:Env}{H0:AH}{w:World}{f:FuncId}{us:List Value}{R:AV->AH->Prop}{v:AV}{H1:AH}(h:CallN P B E0 H0 w f us R)
  (hD:∀v' H' u w1,R v' H'->Done B E0 H0 w v' H' u w1->Done B E H w v H1 u w1):CallOk P B E H w f us v H1:=by
 unfold CallN at h;unfold CallOk
 revert h
 cases (callFunc f us.toArray).run P w with
 |ok nx w1 =>
  cases nx with
  |value u=>exact fun ⟨v',H',h1,h2⟩=>hD _ _ _ _ h1 h2
  |enter g vs=>exact fun hc=>CallsIn.mono hc fun e w1 ⟨u,v',H',he,h1,h2⟩=>⟨u,he,hD _ _ _ _ h1 h2⟩
  |_=>exact fun hc=>hc
 |_=>exact fun hc=>hc
theorem zbz (hL:LOk L P) (hX:ExtOk L P B){f:FuncId}{args:List AV}{R:AV->AH->Prop}(h:FnE L f args H R):FnN P B f args H R:=by
 intro E w us hw hS hus;obtain ⟨v,H',hR,n,hn⟩:=h.h;have ho:=hn n (qn _);rw [zhm1] at ho;exact ((zvq hL hX n).call f args H _ ho E w us hw hS hus).n hR
end
end Go.Ev
open Go Go.Ev Go.Proofs Go.RowKit
namespace HS
set_option maxRecDepth 100000
def look:Lk:=lkZ Tryz.prog (Tr.ofList Tryz.prog.funcs.toList) (Tr.ofList Tryz.prog.types.toList) [] [(79,32)]
theorem zcz:LOk look Tryz.prog:=zae1 kR kR kR
theorem noext {f:Nat}:look.ext f=none:=rfl
theorem zbr (B:Nat):ExtOk look Tryz.prog B:=fun f g h=>by cases h
end HS
namespace HS.Ob
set_option maxRecDepth 100000
def zwi1:Code:=bodyN look 14
def f14l0:C2:=(.seq (.seq (.reg (m_ (tO 3) 8<|m_ (tO 2) 9<|le_ look 30 (tO 9) 10<|b_ look .lss 3 (.tmp 8) (.tmp 10) 11<| .done))
 (.cond (tO 11) .skip (.exit 0)))
 (.seq (.block 1 (.reg (m_ (tO 2) 14<|m_ (tO 3) 15<|m_ (tO 2) 16<|m_ (tO 3) 17<|ix_ 1 (tO 16) (tO 17) 18<|l_ (tO 18) 19<|b_ look .xor 5 (.tmp 19) (.const (.int .u8 (90))) 20<|ix_ 1 (tO 14) (tO 15) 21<|s1_ false look 5 (tO 21) (tO 20)<| .done)))
 (.reg (m_ (tO 3) 12<|b_ look .add 3 (.tmp 12) (.const (.int .i64 (1))) 13<|m_ (tO 13) 3<| .done))))
def f14b0:Code:=lpN zwi1 0
theorem zcr:comp look f14b0=f14l0:=kR
def f14c:C2:=(.seq (.reg (m_ (tO 0) 4<|m_ (tO 0) 5<|n_ (fun xs H=>fstO (zda .cap look [30] xs H)) [(tO 5)] 6<|ls_ (fun xs _=>zua look 30 false true false xs) [(tO 4),(tO 6)] (opN zwi1 0 3) 7<|m_ (tO 7) 2<| .done))
 (.seq (.reg (m_ (.con (.int .i64 (0))) 3<| .done))
 (.block 0 (.loop f14b0))))
theorem zqm1:fnF look 14=some ⟨22,f14c, []⟩:=kR
def zxi1:Code:=bodyN look 45
def f45l0:C2:=(.seq (.seq (.reg (m_ (tO 3) 8<|m_ (tO 2) 9<|le_ look 29 (tO 9) 10<|b_ look .lss 3 (.tmp 8) (.tmp 10) 11<| .done))
 (.cond (tO 11) .skip (.exit 0)))
 (.seq (.block 1 (.reg (m_ (tO 2) 14<|m_ (tO 3) 15<|m_ (tO 2) 16<|m_ (tO 3) 17<|ix_ 1 (tO 16) (tO 17) 18<|l_ (tO 18) 19<|b_ look .add 9 (.tmp 19) (.const (.string ⟨#[33]⟩)) 20<|ix_ 1 (tO 14) (tO 15) 21<|s1_ false look 9 (tO 21) (tO 20)<| .done)))
 (.reg (m_ (tO 3) 12<|b_ look .add 3 (.tmp 12) (.const (.int .i64 (1))) 13<|m_ (tO 13) 3<| .done))))
def f45b0:Code:=lpN zxi1 0
theorem zdz:comp look f45b0=f45l0:=kR
def f45c:C2:=(.seq (.reg (m_ (tO 0) 4<|m_ (tO 0) 5<|n_ (fun xs H=>fstO (zda .cap look [29] xs H)) [(tO 5)] 6<|ls_ (fun xs _=>zua look 29 false true false xs) [(tO 4),(tO 6)] (opN zxi1 0 3) 7<|m_ (tO 7) 2<| .done))
 (.seq (.reg (m_ (.con (.int .i64 (0))) 3<| .done))
 (.block 0 (.loop f45b0))))
theorem f45_eq:fnF look 45=some ⟨22,f45c, []⟩:=kR
end HS.Ob
namespace Go.Ev
open Go.RowKit
section
variable {P:Program}{B:Nat}{E E1:Env}{H H':AH}{w w1:World}
structure HW (H H':AH):Prop where
 next:H.next<=H'.next
 lo:H'.lo=H.lo
 hide:H'.hide=H.hide
 old:∀i,i<H.next->H'.tree.get i=H.tree.get i
theorem HX.hw (h:HX H H'):HW H H':=⟨h.next,h.lo,h.hide,h.old⟩
end
section
variable {P:Program}{B:Nat}{E E1:Env}{H H':AH}{w w1:World}
theorem zqg {b:Nat}{o:Obj}(h:w.heap[b]? =some o):zvc w b o=w:=by
 unfold zvc;have:w.heap.setIfInBounds b o=w.heap:=by
  refine qv6 fun j=> ?_
  rw [qc3];split
  ·next hj =>
   subst hj;split
   ·exact h.symm
   ·next hb=>exact absurd (qq2.1 h).1 hb
  ·rfl
 rw [this]
theorem zez (hw:H.Wf) (hS:St B E H w){i:Nat}{b0:ABlk}(hg0:H.get i=some b0) (hown:b0.own=true) (hlo:H.lo<=i) (b:ABlk)
  (hb:∀E',Agree H.next E E'->BRel E' i b w):St B E (H.put i b) w/\Post E H w E (H.put i b) w/\(H.put i b).Wf:=by
 have hl:b0.live=true:=by cases b0<;>first|rfl|(simp [ABlk.own] at hown)
 have hlt:=(hS.self.blk i b0 hg0).obj hl;have ho:w.heap[(E i).blk]? =some w.heap[(E i).blk]:=qu1 hlt;have key:=zmm hw hS hg0 hown hlo b w.heap[(E i).blk] (fun r hr=>⟨r,by rw [ho] at hr;exact ql3 hr⟩) (fun x off hx=>by rw [ho] at hx;cases hx;rfl) (by rw [zqg ho];exact hb)
 rw [zqg ho] at key;exact key
theorem zpt (hw:H.Wf) (hS:St B E H w){i:Nat}{c:Ce}{e z:Nat}(hg:H.get i=some (.cells c e z true false)) (hlo:H.lo<=i) :
  ∃rs:List AV,rs.length=(E i).extra*z/\(∀E',concL E' rs=concL E rs)/\(∀v∈rs,NV e (conc E v)/\(c.l ++ rs).length<=9223372036854775807*z) /\
   St B E (H.put i (.cells (.lst (c.l ++ rs)) e z false false)) w/\Post E H w E (H.put i (.cells (.lst (c.l ++ rs)) e z false false)) w/\(H.put i (.cells (.lst (c.l ++ rs)) e z false false)).Wf:=by
 have hi:=hw.get_lt hg;obtain ⟨cs,e',fz,h1,h2,h3⟩:=hS.self.blk i _ hg;obtain ⟨hf,hsz,hfl,hmk⟩:=h3 rfl;simp only [qc5] at hsz;have hx:∀k,k<(E i).extra*z-> ∃v:AV,(∀E',cs[(E i).off+c.l.length+k]? =some (conc E' v))/\NV e (conc E v)/\cs.size<=(E i).off+9223372036854775807*z:=fun k hk=>by
  have hlt:(E i).off+c.l.length+k<cs.size:=by rw [hsz];omega
  obtain ⟨⟨⟨v,hv⟩,hn⟩,hb⟩:=hfl rfl _ _ oM (qu1 hlt)
  exact ⟨v,fun E'=>by rw [hv E'];exact qu1 hlt,by rw [hv E];exact hn,hb⟩
 obtain ⟨g,hgn⟩:∃g:Nat->AV,∀k,k<(E i).extra*z->(∀E',cs[(E i).off+c.l.length+k]? =some (conc E' (g k)))/\NV e (conc E (g k))/\cs.size<=(E i).off+9223372036854775807*z :=
  ⟨fun k=>if h:k<(E i).extra*z then (hx k h).choose else .undef,fun k hk=>by
   simp only [dif_pos hk];exact (hx k hk).choose_spec⟩
 have hgk:∀k,k<(E i).extra*z-> ∀E',cs[(E i).off+c.l.length+k]? =some (conc E' (g k)):=fun k hk=>(hgn k hk).1
 have hrl:((List.range ((E i).extra*z)).map g).length=(E i).extra*z:=by simp
 have hrg:∀j v,((List.range ((E i).extra*z)).map g)[j]? =some v->j<(E i).extra*z/\v=g j:=fun j v hv=>by
  have hj:j<(E i).extra*z:=by
   have:=(qp.1 hv).1
   rwa [hrl] at this
  rw [qh1,qm5 hj] at hv;exact ⟨hj,(ql3 hv).symm⟩
 refine ⟨(List.range ((E i).extra*z)).map g,hrl,fun E'=> ?_,fun v hv=> ?_,zez hw hS hg rfl hlo _ fun E' hE=> ?_⟩
 ·refine qb4 fun j=> ?_
  rw [zna?,zna?];cases hv:((List.range ((E i).extra*z)).map g)[j]? with
  |none=>rfl
  |some v =>
   obtain ⟨hj,rfl⟩:=hrg j v hv;have:=(hgk j hj E').symm.trans (hgk j hj E);exact this
 ·obtain ⟨j,hj⟩:=qy.1 hv
  obtain ⟨hj2,rfl⟩:=hrg _ _ hj;refine ⟨(hgn j hj2).2.1,?_⟩;have:=(hgn j hj2).2.2;rw [qr,hrl];omega
 ·have hei:E' i=E i:=hE i hi
  obtain ⟨cs2,e2,fz2,k1,k2,k3⟩:=(hS E' hE).blk i _ hg;rw [hei,h1] at k1;cases k1;refine ⟨cs,e',fz,by rw [hei];exact h1,fun j v hv=> ?_,fun _=>⟨hf,?_,(fun h=>by cases h),hmk⟩⟩
  ·have hv:(c.l ++ (List.range ((E i).extra*z)).map g)[j]? =some v:=hv
   by_cases hj:j<c.l.length
   ·rw [qt1 hj] at hv
    exact k2 j v hv
   ·rw [qz1 oM] at hv
    obtain ⟨hj2,rfl⟩:=hrg _ _ hv;have:=hgk _ hj2 E';rw [hei];rw [show (E i).off+j=(E i).off+c.l.length+(j - c.l.length) from oM]
    exact this
  ·rw [hsz,hei]
   show _=(E i).off+(c.l ++ (List.range ((E i).extra*z)).map g).length+0
   rw [qr,hrl];omega
theorem St.ext (hn:H'.next=H.next) (hg:∀i,H'.get i=H.get i) (h:St B E H w):St B E H' w:=fun E' hE=>by
 have r:=h E' (by rw [← hn];exact hE)
 exact ⟨fun i b hi=>r.blk i b (by rw [← hg];exact hi),fun i j b c hi hj=>r.inj i j b c (by rw [← hg];exact hi) (by rw [← hg];exact hj),fun i b hi=>r.base i b (by rw [← hg];exact hi),r.size⟩
theorem Post.ext2 {E0:Env}{H0:AH}{w0:World}(hn:H'.next=H.next) (hl:H'.lo=H.lo) (hh:H'.hide=H.hide) (hz:H'.fz=H.fz) (ht:∀i,H'.tree.get i=H.tree.get i) (h:Post E0 H0 w0 E H w):Post E0 H0 w0 E H' w:=by
 have hg:∀i,H'.get i=H.get i:=fun i=>by unfold AH.get AH.vis;rw [hh,ht]
 refine ⟨h.ext,by rw [hn];exact h.next,hl.trans h.lo,hh.trans h.hide,h.tape,h.os,h.output,h.size,h.frame,fun c hc=>h.own c ?_,fun i hi=>(ht i).trans (h.keep i hi),h.loops,fun hf=>h.froz (by rw [← hz];exact hf),fun c hc=>h.lives c ?_,h.dr⟩
 ·obtain ⟨x,b,h1,h2,h3,h4⟩:=hc
  exact ⟨x,b,by rw [← hg];exact h1,h2,by rw [← hl];exact h3,h4⟩
 ·obtain ⟨x,b,h1,h2,h3⟩:=hc
  exact ⟨x,b,by rw [← hg];exact h1,h2,h3⟩
end
end Go.Ev
namespace HS.Ob
set_option maxRecDepth 100000
theorem uB:look.under 30=some (.slice 5):=kR
theorem uT:look.under 29=some (.slice 9):=kR
theorem zB:look.size 5=some 1:=kR
theorem zT:look.size 9=some 1:=kR
theorem xor_ok (a:Int) (xo yo:Operand):∃y,binF .xor (evBin look .xor 5 xo yo) (.int .u8 a) (.int .u8 90)=some (.int .u8 y):=⟨_,by rw [zcg];rfl⟩
theorem bang_ok (a:ByteArray) (ha:a.size<=1000000) (xo yo:Operand):∃y,binF .add (evBin look .add 9 xo yo) (.str a) (.str ⟨#[33]⟩)=some (.str y):=by
 refine ⟨a ++ ⟨#[33]⟩,?_⟩;rw [zcg];show evStr .add a ⟨#[33]⟩=_
 unfold evStr;simp only;rw [show Nat.ble (a.size+(⟨#[33]⟩:ByteArray).size) 9223372036854775807=true from qe (by have:(⟨#[33]⟩:ByteArray).size=1:=rfl;omega)]
theorem ix_c {i n c k:Nat}{op:Bool}(hk:k<n):ixS 1 (.sl i 0 n c op) (.int .i64 (k:Int))=some (.ptr i k):=by
 have h:= @ixS_eq look 30 5 1 uB zB (.sl i 0 n c op) (.int .i64 (k:Int));rw [h];unfold zfb;rw [uB];simp only [zB];show (match Nat.blt k n with|true=>some (AV.ptr i (0+k*1))|false=>none)=_
 rw [show Nat.blt k n=true from by rw [qt4];exact hk]
 simp
theorem zrm1 {H:AH}[hn:HN H]{i n:Nat}{l:List AV}(hg:Row H i false false 5 1 l) (hl:∀v,v∈l-> ∃x:Int,v= .int .u8 x) (hlo:H.lo<=i) (hm:l.length<=9223372036854775807) :
  FnE look 14 [.sl i 0 n l.length false] H fun r H'=>r= .tup []/\(∃l',Row H' i false false 5 1 l')/\HP (·≠ i) H H'/\H'.next=H.next:=by
 refine zuc zqm1 noext rfl ?_;have hc:∀H',fstO (zda .cap look [30] [.sl i 0 n l.length false] H')=some (.int .i64 (l.length:Int)):=fun H'=>cap_sl uB
 have hs:zua look 30 false true false [.sl i 0 n l.length false,.int .i64 (l.length:Int)]=some (.sl i 0 l.length l.length false):=by
  have:=sl_hi (i:=i) (o:=0) (n:=n) (c:=l.length) (k:=.i64) (m:=(l.length:Int)) uB zB oM oM
  rw [qc2] at this;exact this
 have hle:∀H',fstO (zda .len look [30] [.sl i 0 l.length l.length false] H')=some (.int .i64 (l.length:Int)):=fun H'=>rfl
 simp (maxSteps:=1000000) (disch:=first|assumption|omega|rfl|(simp only [nx];omega)) only [rq,rq2,qa2,qr1,Nat.reduceEqDiff,Nat.reduceAdd,reduceIte,reduceCtorEq,ne_eq,qf1,qc1,qs2,qm2,f14c,hc,zpk,hs,lsR_s];refine rc_lp zcr (fun m T H'=> ∃q l',m+q=l.length/\l'.length=l.length/\(∀k,q<=k->l'[k]? =l[k]?)/\Row H' i false false 5 1 l'/\HP (·≠ i) H H'/\H'.next=H.next /\
  gT T 2= .sl i 0 l.length l.length false/\gT T 3= .int .i64 q) l.length ?_ ?_
 ·exact ⟨0,l,rfl,rfl,fun _ _=>rfl,hg,HP.refl _ _,rfl,by simp (maxSteps:=1000000) (disch:=first|assumption|omega|rfl|(simp only [nx];omega)) only [rq,rq2,qa2,qr1,Nat.reduceEqDiff,Nat.reduceAdd,reduceIte,reduceCtorEq,ne_eq,qf1,qc1,qs2,qm2],by simp (maxSteps:=1000000) (disch:=first|assumption|omega|rfl|(simp only [nx];omega)) only [rq,rq2,qa2,qr1,Nat.reduceEqDiff,Nat.reduceAdd,reduceIte,reduceCtorEq,ne_eq,qf1,qc1,qs2,qm2];rfl⟩
 rintro m T H1 ⟨q,l',hmq,hll,hsame,g1,hp1,hn1,t2,t3⟩;unfold f14l0;haveI:=hp1.hn;cases m with
 |zero =>
  have d1:decide ((q:Int)<(l.length:Int))=false:=qq oM
  simp (maxSteps:=1000000) (disch:=first|assumption|omega|rfl|(simp only [nx];omega)) only [rq,rq2,qa2,qr1,Nat.reduceEqDiff,Nat.reduceAdd,reduceIte,reduceCtorEq,ne_eq,qf1,qc1,qs2,qm2,t2,t3,hle,d1];exact ⟨⟨l',g1⟩,hp1,hn1⟩
 |succ m =>
  have hq:q<l.length:=oM
  have d1:decide ((q:Int)<(l.length:Int))=true:=qk oM
  obtain ⟨x,hx⟩:=hl _ (qk7 hq);have hld:ld1 (.ptr i q) H1=some (.int .u8 x):=by
   exact g1.rd (by rw [hsame q (qn _),qo hq,hx])
  have hix:=ix_c (i:=i) (n:=l.length) (c:=l.length) (op:=false) hq;obtain ⟨y,hy⟩:∃y:Int,∀xo yo,binF .xor (evBin look .xor 5 xo yo) (.int .u8 x) (.int .u8 90)=some (.int .u8 y):=by
   obtain ⟨y,hy⟩:=xor_ok x (.tmp 0) (.tmp 0);exact ⟨y,fun xo yo=>by rw [← hy,zcg,zcg];rfl⟩
  have hlo1:H1.lo<=i:=by rw [hp1.lo];exact hlo
  obtain ⟨H2,hst,g2,hp2,hn2⟩:=g1.st1 (t:=5) (v:=.int .u8 y) hp1.hn.hide hlo1 zB rfl (by rw [hll];exact hq)
  simp (maxSteps:=1000000) (disch:=first|assumption|omega|rfl|(simp only [nx];omega)) only [rq,rq2,qa2,qr1,Nat.reduceEqDiff,Nat.reduceAdd,reduceIte,reduceCtorEq,ne_eq,qf1,qc1,qs2,qm2,t2,t3,hle,d1,hix,hld,hy,hst];refine ⟨m,oM,q+1,l'.set q (.int .u8 y),oM,by rw [qj2];exact hll,fun k hk=> ?_,g2,hp1.trans hp2 fun _ _ h=>⟨h,h⟩,hn2.trans hn1,by push_cast;rfl⟩
  rw [qi4 oM]
  exact hsame k oM
theorem zsm1 {H:AH}[hn:HN H]{i n:Nat}{l:List AV}(hg:Row H i false false 9 1 l) (hl:∀v,v∈l-> ∃x:ByteArray,v= .str x/\x.size<=1000000) (hlo:H.lo<=i) (hm:l.length<=9223372036854775807) :
  FnE look 45 [.sl i 0 n l.length false] H fun r H'=>r= .tup []/\(∃l',Row H' i false false 9 1 l')/\HP (·≠ i) H H'/\H'.next=H.next:=by
 refine zuc f45_eq noext rfl ?_;have hc:∀H',fstO (zda .cap look [29] [.sl i 0 n l.length false] H')=some (.int .i64 (l.length:Int)):=fun H'=>cap_sl uT
 have hs:zua look 29 false true false [.sl i 0 n l.length false,.int .i64 (l.length:Int)]=some (.sl i 0 l.length l.length false):=by
  have:=sl_hi (i:=i) (o:=0) (n:=n) (c:=l.length) (k:=.i64) (m:=(l.length:Int)) uT zT oM oM
  rw [qc2] at this;exact this
 have hle:∀H',fstO (zda .len look [29] [.sl i 0 l.length l.length false] H')=some (.int .i64 (l.length:Int)):=fun H'=>rfl
 simp (maxSteps:=1000000) (disch:=first|assumption|omega|rfl|(simp only [nx];omega)) only [rq,rq2,qa2,qr1,Nat.reduceEqDiff,Nat.reduceAdd,reduceIte,reduceCtorEq,ne_eq,qf1,qc1,qs2,qm2,f45c,hc,zpk,hs,lsR_s];refine rc_lp zdz (fun m T H'=> ∃q l',m+q=l.length/\l'.length=l.length/\(∀k,q<=k->l'[k]? =l[k]?)/\Row H' i false false 9 1 l'/\HP (·≠ i) H H'/\H'.next=H.next /\
  gT T 2= .sl i 0 l.length l.length false/\gT T 3= .int .i64 q) l.length ?_ ?_
 ·exact ⟨0,l,rfl,rfl,fun _ _=>rfl,hg,HP.refl _ _,rfl,by simp (maxSteps:=1000000) (disch:=first|assumption|omega|rfl|(simp only [nx];omega)) only [rq,rq2,qa2,qr1,Nat.reduceEqDiff,Nat.reduceAdd,reduceIte,reduceCtorEq,ne_eq,qf1,qc1,qs2,qm2],by simp (maxSteps:=1000000) (disch:=first|assumption|omega|rfl|(simp only [nx];omega)) only [rq,rq2,qa2,qr1,Nat.reduceEqDiff,Nat.reduceAdd,reduceIte,reduceCtorEq,ne_eq,qf1,qc1,qs2,qm2];rfl⟩
 rintro m T H1 ⟨q,l',hmq,hll,hsame,g1,hp1,hn1,t2,t3⟩;unfold f45l0;haveI:=hp1.hn;cases m with
 |zero =>
  have d1:decide ((q:Int)<(l.length:Int))=false:=qq oM
  simp (maxSteps:=1000000) (disch:=first|assumption|omega|rfl|(simp only [nx];omega)) only [rq,rq2,qa2,qr1,Nat.reduceEqDiff,Nat.reduceAdd,reduceIte,reduceCtorEq,ne_eq,qf1,qc1,qs2,qm2,t2,t3,hle,d1];exact ⟨⟨l',g1⟩,hp1,hn1⟩
 |succ m =>
  have hq:q<l.length:=oM
  have d1:decide ((q:Int)<(l.length:Int))=true:=qk oM
  obtain ⟨x,hx,hxs⟩:=hl _ (qk7 hq);have hld:ld1 (.ptr i q) H1=some (.str x):=by
   exact g1.rd (by rw [hsame q (qn _),qo hq,hx])
  have hix:=ix_c (i:=i) (n:=l.length) (c:=l.length) (op:=false) hq;obtain ⟨y,hy⟩:∃y:ByteArray,∀xo yo,binF .add (evBin look .add 9 xo yo) (.str x) (.str ⟨#[33]⟩)=some (.str y):=by
   obtain ⟨y,hy⟩:=bang_ok x hxs (.tmp 0) (.tmp 0);exact ⟨y,fun xo yo=>by rw [← hy,zcg,zcg];rfl⟩
  have hlo1:H1.lo<=i:=by rw [hp1.lo];exact hlo
  obtain ⟨H2,hst,g2,hp2,hn2⟩:=g1.st1 (t:=9) (v:=.str y) hp1.hn.hide hlo1 zT rfl (by rw [hll];exact hq)
  simp (maxSteps:=1000000) (disch:=first|assumption|omega|rfl|(simp only [nx];omega)) only [rq,rq2,qa2,qr1,Nat.reduceEqDiff,Nat.reduceAdd,reduceIte,reduceCtorEq,ne_eq,qf1,qc1,qs2,qm2,t2,t3,hle,d1,hix,hld,hy,hst];refine ⟨m,oM,q+1,l'.set q (.str y),oM,by rw [qj2];exact hll,fun k hk=> ?_,g2,hp1.trans hp2 fun _ _ h=>⟨h,h⟩,hn2.trans hn1,by push_cast;rfl⟩
  rw [qi4 oM]
  exact hsame k oM
open Go Go.Proofs Go.RowKit
open Go.Ev
theorem nilB {H:AH}[hn:HN H]:FnE look 14 [.nilSl] H fun r H'=>r= .tup []/\H'=H:=by
 refine zuc zqm1 noext rfl ?_;have hc:∀H',fstO (zda .cap look [30] [.nilSl] H')=some (.int .i64 0):=fun H'=>kR
 have hs:zua look 30 false true false [.nilSl,.int .i64 0]=some .nilSl:=kR
 have hle:∀H',fstO (zda .len look [30] [.nilSl] H')=some (.int .i64 0):=fun H'=>kR
 simp (maxSteps:=1000000) (disch:=first|assumption|omega|rfl|(simp only [nx];omega)) only [rq,rq2,qa2,qr1,Nat.reduceEqDiff,Nat.reduceAdd,reduceIte,reduceCtorEq,ne_eq,qf1,qc1,qs2,qm2,f14c,hc,zpk,hs,lsR_s];refine rc_lp zcr (fun m T H'=>H'=H/\gT T 2= .nilSl/\gT T 3= .int .i64 0) 0 ⟨rfl,by simp (maxSteps:=1000000) (disch:=first|assumption|omega|rfl|(simp only [nx];omega)) only [rq,rq2,qa2,qr1,Nat.reduceEqDiff,Nat.reduceAdd,reduceIte,reduceCtorEq,ne_eq,qf1,qc1,qs2,qm2],by simp (maxSteps:=1000000) (disch:=first|assumption|omega|rfl|(simp only [nx];omega)) only [rq,rq2,qa2,qr1,Nat.reduceEqDiff,Nat.reduceAdd,reduceIte,reduceCtorEq,ne_eq,qf1,qc1,qs2,qm2]⟩ ?_
 rintro m T H1 ⟨rfl,t2,t3⟩;unfold f14l0;have d1:decide ((0:Int)<(0:Int))=false:=dC
 simp (maxSteps:=1000000) (disch:=first|assumption|omega|rfl|(simp only [nx];omega)) only [rq,rq2,qa2,qr1,Nat.reduceEqDiff,Nat.reduceAdd,reduceIte,reduceCtorEq,ne_eq,qf1,qc1,qs2,qm2,t2,t3,hle,d1]
theorem endB {H:AH}[hn:HN H](i:Nat):FnE look 14 [.sl i 0 0 0 false] H fun r H'=>r= .tup []/\H'=H:=by
 refine zuc zqm1 noext rfl ?_;have hc:∀H',fstO (zda .cap look [30] [.sl i 0 0 0 false] H')=some (.int .i64 0):=fun H'=>kR
 have hs:zua look 30 false true false [.sl i 0 0 0 false,.int .i64 0]=some (.sl i 0 0 0 false):=kR
 have hle:∀H',fstO (zda .len look [30] [.sl i 0 0 0 false] H')=some (.int .i64 0):=fun H'=>kR
 simp (maxSteps:=1000000) (disch:=first|assumption|omega|rfl|(simp only [nx];omega)) only [rq,rq2,qa2,qr1,Nat.reduceEqDiff,Nat.reduceAdd,reduceIte,reduceCtorEq,ne_eq,qf1,qc1,qs2,qm2,f14c,hc,zpk,hs,lsR_s];refine rc_lp zcr (fun m T H'=>H'=H/\gT T 2= .sl i 0 0 0 false/\gT T 3= .int .i64 0) 0 ⟨rfl,by simp (maxSteps:=1000000) (disch:=first|assumption|omega|rfl|(simp only [nx];omega)) only [rq,rq2,qa2,qr1,Nat.reduceEqDiff,Nat.reduceAdd,reduceIte,reduceCtorEq,ne_eq,qf1,qc1,qs2,qm2],by simp (maxSteps:=1000000) (disch:=first|assumption|omega|rfl|(simp only [nx];omega)) only [rq,rq2,qa2,qr1,Nat.reduceEqDiff,Nat.reduceAdd,reduceIte,reduceCtorEq,ne_eq,qf1,qc1,qs2,qm2]⟩ ?_
 rintro m T H1 ⟨rfl,t2,t3⟩;unfold f14l0;have d1:decide ((0:Int)<(0:Int))=false:=dC
 simp (maxSteps:=1000000) (disch:=first|assumption|omega|rfl|(simp only [nx];omega)) only [rq,rq2,qa2,qr1,Nat.reduceEqDiff,Nat.reduceAdd,reduceIte,reduceCtorEq,ne_eq,qf1,qc1,qs2,qm2,t2,t3,hle,d1]
theorem nilT {H:AH}[hn:HN H]:FnE look 45 [.nilSl] H fun r H'=>r= .tup []/\H'=H:=by
 refine zuc f45_eq noext rfl ?_;have hc:∀H',fstO (zda .cap look [29] [.nilSl] H')=some (.int .i64 0):=fun H'=>kR
 have hs:zua look 29 false true false [.nilSl,.int .i64 0]=some .nilSl:=kR
 have hle:∀H',fstO (zda .len look [29] [.nilSl] H')=some (.int .i64 0):=fun H'=>kR
 simp (maxSteps:=1000000) (disch:=first|assumption|omega|rfl|(simp only [nx];omega)) only [rq,rq2,qa2,qr1,Nat.reduceEqDiff,Nat.reduceAdd,reduceIte,reduceCtorEq,ne_eq,qf1,qc1,qs2,qm2,f45c,hc,zpk,hs,lsR_s];refine rc_lp zdz (fun m T H'=>H'=H/\gT T 2= .nilSl/\gT T 3= .int .i64 0) 0 ⟨rfl,by simp (maxSteps:=1000000) (disch:=first|assumption|omega|rfl|(simp only [nx];omega)) only [rq,rq2,qa2,qr1,Nat.reduceEqDiff,Nat.reduceAdd,reduceIte,reduceCtorEq,ne_eq,qf1,qc1,qs2,qm2],by simp (maxSteps:=1000000) (disch:=first|assumption|omega|rfl|(simp only [nx];omega)) only [rq,rq2,qa2,qr1,Nat.reduceEqDiff,Nat.reduceAdd,reduceIte,reduceCtorEq,ne_eq,qf1,qc1,qs2,qm2]⟩ ?_
 rintro m T H1 ⟨rfl,t2,t3⟩;unfold f45l0;have d1:decide ((0:Int)<(0:Int))=false:=dC
 simp (maxSteps:=1000000) (disch:=first|assumption|omega|rfl|(simp only [nx];omega)) only [rq,rq2,qa2,qr1,Nat.reduceEqDiff,Nat.reduceAdd,reduceIte,reduceCtorEq,ne_eq,qf1,qc1,qs2,qm2,t2,t3,hle,d1]
def isB:AV->Bool| .int .u8 _=>true|_=>false
def isT:AV->Bool| .str s=>Nat.ble s.size 1000000|_=>false
def xOver (e:Nat) (p:AV->Bool) (d:Bool):XFn:=fun args H=>match args with
 | [.nilSl]=>(match H.hide with| []=>some (.tup [],H)|_::_=>none)
 | [.sl i 0 n c op]=>(match H.hide with
  | []=>(match op with
   |false=>(match Nat.beq n 0 && (Nat.beq c 0 && d) with|true=>some (.tup [],H)|false=>none)
   |true=>(match H.get i with
    |some (.cells ce e' z true false)=>(match Nat.ble H.lo i && (Nat.beq n c && (Nat.beq e' e && (Nat.beq z 1 && (Nat.beq ce.len n && (Nat.ble n 9223372036854775807 && ce.l.all p))))) with
     |true=>some (.tup [],H.drop i)
     |false=>none)
    |_=>none))
  |_::_=>none)
 |_=>none
theorem zpn (B:Nat){f e:Nat}{p:AV->Bool}{d:Bool}(h0:∀{H:AH}[HN H],FnE look f [.nilSl] H fun r H'=>r= .tup []/\H'=H) (h1:d=true-> ∀{H:AH}[HN H] (i:Nat),FnE look f [.sl i 0 0 0 false] H fun r H'=>r= .tup []/\H'=H)
  (h2:∀{H:AH}[HN H]{i n:Nat}{l:List AV},Row H i false false e 1 l->(∀v,v∈l->p v=true)->H.lo<=i->l.length<=9223372036854775807->FnE look f [.sl i 0 n l.length false] H fun r H'=>r= .tup []/\(∃l',Row H' i false false e 1 l')/\HP (·≠ i) H H'/\H'.next=H.next)
  (hp:∀(E:Env) (v:AV),NV e (conc E v)->p v=true):XOk Tryz.prog B f (xOver e p d):=by
 intro args H pp hq E w us hw hS hus;unfold xOver at hq;split at hq
 ·split at hq
  ·next hh =>
   cases hq
   haveI:HN H:=⟨hh,hw.lo⟩;refine (zbz zcz (zbr B) h0 E w us hw hS hus).ok ?_;rintro v' H' u w1 ⟨rfl,rfl⟩ hd;exact hd
  ·cases hq
 ·next i n c op =>
  split at hq
  ·next hh =>
   haveI:HN H:=⟨hh,hw.lo⟩;split at hq
   ·split at hq
    ·next hc =>
     cases hq
     simp only [qm] at hc;obtain ⟨hn0,hc0,hd⟩:=hc;have hn0:=qf hn0;have hc0:=qf hc0;subst hn0 hc0;refine (zbz zcz (zbr B) (h1 hd i) E w us hw hS hus).ok ?_;rintro v' H' u w1 ⟨rfl,rfl⟩ hd;exact hd
    ·cases hq
   ·split at hq
    ·next ce e' z hg =>
     split at hq
     ·next hc =>
      cases hq
      simp only [qm] at hc;obtain ⟨hlo,hnc,he,hz,hlen,hn63,hall⟩:=hc;have hlo:=qe1 hlo;have hn63:=qe1 hn63;have hnc:=qf hnc;have he:=qf he;have hz:=qf hz;have hlen:=qf hlen;rw [Ce.len_l] at hlen;subst hnc he hz;have hi:=hw.get_lt hg;have hvis:=(AH.get_some.1 hg).1;obtain ⟨rs,hrl,hrE,hnv,hS1,hP1,hw1⟩:=zpt hw hS hg hlo;rw [qs3] at hrl;have hgB:(H.put i (.cells (.lst (ce.l ++ rs)) e' 1 false false)).get i=some (.cells (.lst (ce.l ++ rs)) e' 1 false false):=AH.put_get hvis _ i |>.trans (qi rfl)
      have hnB:(H.put i (.cells (.lst (ce.l ++ rs)) e' 1 false false)).next=H.next:=rfl;have hlB:(H.put i (.cells (.lst (ce.l ++ rs)) e' 1 false false)).lo=H.lo:=rfl;have hhB:(H.put i (.cells (.lst (ce.l ++ rs)) e' 1 false false)).hide= []:=hh;have hzB:(H.put i (.cells (.lst (ce.l ++ rs)) e' 1 false false)).fz=H.fz:=rfl;have hpB:HP (·≠ i) H (H.put i (.cells (.lst (ce.l ++ rs)) e' 1 false false)):=HP.put _ _ _;generalize H.put i (.cells (.lst (ce.l ++ rs)) e' 1 false false)=HB at *
      have hr:Row HB i false false e' 1 (ce.l ++ rs):=⟨_,hgB,rfl⟩;have htl:(ce.l ++ rs).length=n+(E i).extra:=by rw [qr,hlen,hrl]
      have hb63:(ce.l ++ rs).length<=9223372036854775807:=by
       cases hrs:rs with
       |nil=>rw [qw1,hlen];exact hn63
       |cons x xs =>
        have:=(hnv x (by rw [hrs];exact qq1)).2
        rw [hrs,qs3] at this;exact this
      have hpa:∀v,v∈ce.l ++ rs->p v=true:=fun v hv=>by
       rcases qp2.1 hv with hv|hv
       ·exact qb1.1 hall v hv
       ·exact hp E v (hnv v hv).1
      have hus':StL E HB.next [.sl i 0 n (ce.l ++ rs).length false] us:=fun E' hE=>by
       rw [hus E' (by rw [hnB] at hE;exact hE)]
       have hei:E' i=E i:=hE i (by rw [hnB];exact hi)
       show [Value.slice (some ⟨(E' i).blk,(E' i).off+0,none⟩) n (n+(E' i).extra)]= [Value.slice (some ⟨(E' i).blk,(E' i).off+0,none⟩) n ((ce.l ++ rs).length+0)]
       rw [htl,hei];rfl
      haveI:HN HB:=⟨hhB,hw1.lo⟩;refine (zbz zcz (zbr B) (h2 hr hpa (by rw [hlB];exact hlo) hb63) E w us hw1 hS1 hus').ok ?_
      rintro v' H' u w1 ⟨rfl,⟨l',cc,hg',_⟩,hp',hn'⟩ ⟨E1,hv,hS2,hP2,hw2⟩;have hlo':H'.lo=H.lo:=hp'.lo.trans hlB;have hh':H'.hide= []:=hp'.hide.trans hhB;obtain ⟨hS3,hP3,hw3⟩:=zex hw2 hS2 hg' (by rw [hlo'];exact hlo)
      have htree:∀k,(H.drop i).tree.get k=(H'.drop i).tree.get k:=fun k=>by
       show (H.tree.set i _).get k=(H'.tree.set i _).get k
       rw [Tr.get_set,Tr.get_set];by_cases hk:k=i
       ·rw [qi hk,qi hk]
       ·rw [qd hk,qd hk]
        rcases qi2 k H.next with hkn|hkn
        ·rw [hp'.old k (by rw [hnB];exact hkn) hk,hpB.old k hkn hk]
        ·have e1:H.tree.get k=none:=by
          cases hx:H.tree.get k with
          |none=>rfl
          |some b=>exact absurd (hw.tree k b hx) oM
         have e2:H'.tree.get k=none:=by
          cases hx:H'.tree.get k with
          |none=>rfl
          |some b=>exact absurd (hw2.tree k b hx) oM
         rw [e1,e2]
      have hne:(H.drop i).next=(H'.drop i).next:=by show H.next=H'.next;omega
      have hle:(H.drop i).lo=(H'.drop i).lo:=hlo'.symm;have hhe:(H.drop i).hide=(H'.drop i).hide:=hh.trans hh'.symm;have hze:(H.drop i).fz=(H'.drop i).fz:=(hp'.fz.trans hzB).symm;have hget:∀k,(H.drop i).get k=(H'.drop i).get k:=fun k=>by
       unfold AH.get AH.vis;rw [hhe,htree]
      refine ⟨E1,fun E' hE=>hv E' fun k hk=>hE k (by rw [hne];exact hk),hS3.ext hne hget,((hP1.trans hP2).trans hP3).ext2 hne hle hhe hze htree,AH.put_wf hw hi _⟩
     ·cases hq
    ·cases hq
  ·cases hq
 ·cases hq
theorem xOverB_ok (B:Nat):XOk Tryz.prog B 14 (xOver 5 isB true) :=
 zpn B nilB (fun _=>endB) (fun hr hl hlo hm=>zrm1 hr (fun v hv=>by
  have:=hl v hv;unfold isB at this;split at this
  ·exact ⟨_,rfl⟩
  ·cases this) hlo hm) fun E v hv=>by
  have:=hv.1 rfl;cases v<;>first|(simp only [conc] at this;cases this;rfl)|(simp [conc] at this;done)|skip
  next k i o=>match k,o,this with|0,_,h=>cases h|1,0,h=>cases h|1,_+1,h=>cases h|2,_,h=>cases h|_+3,_,h=>cases h
theorem xOverT_ok (B:Nat):XOk Tryz.prog B 45 (xOver 9 isT false) :=
 zpn B nilT (fun h=>by cases h) (fun hr hl hlo hm=>zsm1 hr (fun v hv=>by
  have:=hl v hv;unfold isT at this;split at this
  ·exact ⟨_,rfl,qe1 this⟩
  ·cases this) hlo hm) fun E v hv=>by
  have:=hv.2 rfl;cases v<;>first|(simp only [conc] at this;cases this;rfl)|(simp [conc] at this;done)|skip
  next k i o=>match k,o,this with|0,_,h=>cases h|1,0,h=>cases h|1,_+1,h=>cases h|2,_,h=>cases h|_+3,_,h=>cases h
end HS.Ob
namespace HS.Md
open Go
theorem u8_lt {a b:UInt8}:(a<b)↔a.toNat<b.toNat:=qe7
theorem u8_eq {a b:UInt8}:a=b↔a.toNat=b.toNat:=⟨fun h=>h▸rfl,fun h=>UInt8.toNat_inj.1 h⟩
theorem bl_cons {a b:UInt8}{x y:List UInt8}:Op.bytesLess (a::x) (b::y)=true↔a.toNat<b.toNat\/(a.toNat=b.toNat/\Op.bytesLess x y=true):=by
 simp only [Op.bytesLess,qa5,qm,qs,qa7,u8_lt,u8_eq]
theorem bl_irr:∀l,Op.bytesLess l l=false
 | []=>rfl
 |a::l=>by
  rw [qf3];intro h;rcases bl_cons.1 h with h|⟨_,h⟩
  ·omega
  ·rw [bl_irr l] at h;cases h
theorem zfz:∀{x y z:List UInt8},Op.bytesLess x y=true->Op.bytesLess y z=true->Op.bytesLess x z=true
 | [], [],_,h,_=>by cases h
 |_::_, [],_,h,_=>by cases h
 |_,_::_, [],_,h=>by cases h
 | [],_::_,_::_,_,_=>rfl
 |a::x,b::y,c::z,h1,h2=>by
  rw [bl_cons] at *
  rcases h1 with h1|⟨e1,h1⟩<;>rcases h2 with h2|⟨e2,h2⟩
  ·exact .inl oM
  ·exact .inl oM
  ·exact .inl oM
  ·exact .inr ⟨oM,zfz h1 h2⟩
theorem bl_tri:∀{x y:List UInt8},Op.bytesLess x y=false->Op.bytesLess y x=false->x=y
 | [], [],_,_=>rfl
 | [],_::_,h,_=>by cases h
 |_::_, [],_,h=>by cases h
 |a::x,b::y,h1,h2=>by
  have h1':¬(a.toNat<b.toNat\/(a.toNat=b.toNat/\Op.bytesLess x y=true)):=fun h=>by rw [bl_cons.2 h] at h1;cases h1
  have h2':¬(b.toNat<a.toNat\/(b.toNat=a.toNat/\Op.bytesLess y x=true)):=fun h=>by rw [bl_cons.2 h] at h2;cases h2
  have e:a.toNat=b.toNat:=by
   rcases Nat.lt_trichotomy a.toNat b.toNat with h|h|h
   ·exact absurd (.inl h) h1'
   ·exact h
   ·exact absurd (.inl h) h2'
  have g1:Op.bytesLess x y=false:=by rw [qf3];exact fun h=>h1' (.inr ⟨e,h⟩)
  have g2:Op.bytesLess y x=false:=by rw [qf3];exact fun h=>h2' (.inr ⟨e.symm,h⟩)
  rw [u8_eq.2 e,bl_tri g1 g2]
def ltS (a b:ByteArray):Bool:=Op.bytesLess a.data.toList b.data.toList
theorem ba_ext {a b:ByteArray}(h:a.data.toList=b.data.toList):a=b:=by
 cases a;cases b;simp only [ByteArray.mk.injEq];exact Array.toList_inj.1 h
theorem zgz (a:ByteArray):ltS a a=false:=bl_irr _
theorem zqt {a b c:ByteArray}(h1:ltS a b=true) (h2:ltS b c=true):ltS a c=true:=zfz h1 h2
theorem zhz {a b:ByteArray}(h1:ltS a b=false) (h2:ltS b a=false):a=b:=ba_ext (bl_tri h1 h2)
def at64 (s:ByteArray):Option Nat:=(List.range s.size).find? fun i=>s[i]! == 64
def cutA (s:ByteArray):ByteArray:=match at64 s with|some i=>s.extract 0 i|none=>s
def cutB (s:ByteArray):ByteArray:=match at64 s with|some i=>s.extract (i+1) s.size|none=>ByteArray.empty
def cutF (s:ByteArray):Bool:=(at64 s).isSome
def byA (s:ByteArray) (i:Nat):Int:=(s.data.getD i 0).toNat
def okB (i:Nat) (c:Int):Bool:=decide (97<=c/\c<=122) || (i != 0 && (decide (48<=c/\c<=57) || decide (c=45\/c=46\/c=95)))
def zre (s:ByteArray):Nat->Nat->Bool
 |_,0=>true
 |i,n+1=>okB i (byA s i) && zre s (i+1) n
def partB (s:ByteArray):Bool:=decide (1<=s.size) && (decide (s.size<=20) && zre s 0 s.size)
def snapB (s:ByteArray):Bool:=cutF s && (partB (cutA s) && partB (cutB s))
def splA (s:ByteArray):ByteArray:=if snapB s then cutA s else ByteArray.empty
def splB (s:ByteArray):ByteArray:=if snapB s then cutB s else ByteArray.empty
def sign:ByteArray:=⟨#[64]⟩
def joinB (a b:ByteArray):ByteArray:=if partB a && partB b then a ++ sign ++ b else ByteArray.empty
def lessB (a b:ByteArray):Bool :=
 if cutA a=cutA b then (if cutF a && cutF b then ltS (cutB a) (cutB b) else !cutF a && cutF b) else ltS (cutA a) (cutA b)
theorem zmj {s:ByteArray}(h:cutF s=false):cutB s=ByteArray.empty:=by
 unfold cutF at h;unfold cutB;cases hs:at64 s with
 |none=>rfl
 |some i=>rw [hs] at h;cases h
theorem zqn (a:ByteArray):lessB a a=false:=by
 unfold lessB;rw [qi rfl];cases cutF a with
 |true=>simp [zgz]
 |false=>rfl
theorem zpi {a b c:ByteArray}(h1:lessB a b=true) (h2:lessB b c=true):lessB a c=true:=by
 unfold lessB at *
 by_cases e1:cutA a=cutA b
 ·rw [qi e1] at h1
  by_cases e2:cutA b=cutA c
  ·rw [qi e2] at h2
   rw [qi (e1.trans e2)];cases ha:cutF a<;>cases hb:cutF b<;>cases hc:cutF c<;>simp only [ha,hb,hc,qz3,qr3,qn3,qi3,qj5,qn5,qc5,qu3,ql1] at h1 h2 ⊢
   exact zqt h1 h2
  ·rw [qd e2] at h2
   rw [qd (by rw [e1];exact e2),e1]
   exact h2
 ·rw [qd e1] at h1
  by_cases e2:cutA b=cutA c
  ·rw [qd (by rw [← e2];exact e1),← e2]
   exact h1
  ·rw [qd e2] at h2
   have h3:=zqt h1 h2;rw [qd (fun e=>by rw [e,zgz] at h3;cases h3)]
   exact h3
def Key (a b:ByteArray):Prop:=cutA a=cutA b/\cutF a=cutF b/\cutB a=cutB b
theorem zue1 {a b:ByteArray}(h1:lessB a b=false) (h2:lessB b a=false):Key a b:=by
 unfold lessB at *
 by_cases e1:cutA a=cutA b
 ·rw [qi e1] at h1
  rw [qi e1.symm] at h2;cases ha:cutF a<;>cases hb:cutF b<;>simp only [ha,hb,qz3,qr3,qn3,qi3,qj5,qn5,qc5,qu3,ql1,reduceCtorEq] at h1 h2
  ·exact ⟨e1,by rw [ha,hb],by rw [zmj ha,zmj hb]⟩
  ·exact ⟨e1,by rw [ha,hb],zhz h1 h2⟩
 ·rw [qd e1] at h1
  rw [qd (fun e=>e1 e.symm)] at h2
  exact absurd (zhz h1 h2) e1
theorem zve1 {a b c:ByteArray}(h:Key b c):lessB b a=lessB c a/\lessB a b=lessB a c:=by
 obtain ⟨h1,h2,h3⟩:=h;unfold lessB;rw [h1,h2,h3];exact ⟨rfl,rfl⟩
theorem zmp {a b:ByteArray}(h:lessB a b=true):lessB b a=false:=by
 rw [qf3];intro h2;have:=zpi h h2;rw [zqn] at this;cases this
theorem le_trans {a b c:ByteArray}(h1:lessB b a=false) (h2:lessB c b=false):lessB c a=false:=by
 rw [qf3];intro h;cases hbc:lessB b c with
 |true =>
  have:=zpi hbc h;rw [h1] at this;cases this
 |false =>
  have hk:=zue1 hbc h2;rw [(zve1 (a:=a) hk).1,h] at h1;cases h1
structure Rc where
 id:Int
 nm:ByteArray
 kd:Int
 sz:Int
 md:Int
 ow:Int
 og:Int
 qu:Int
 rs:Int
def Rc0:Rc:=⟨0,ByteArray.empty,0,0,0,0,0,0,0⟩
def upto (f:Rc->Bool):List Rc->Nat
 | []=>0
 |r::l=>if f r=true then upto f l+1 else 0
theorem zrt (f:Rc->Bool):∀l,upto f l<=l.length
 | []=>qn _
 |r::l=>by
  unfold upto;split
  ·have:=zrt f l;simp only [ql2];omega
  ·exact qo2 _
theorem zae (f:Rc->Bool):∀{l:List Rc}{n:Nat},n<=l.length->(∀i r,i<n->l[i]? =some r->f r=true)->(∀r,l[n]? =some r->f r=false)->upto f l=n
 | [],n,h,_,_=>by simp at h;subst h;rfl
 |r::l,0,_,_,h2=>by
  unfold upto;rw [qd (by rw [h2 r rfl];decide)]
 |r::l,n+1,h,h1,h2=>by
  unfold upto;rw [qi (h1 0 r oM rfl),zae f (n:=n) (by simpa using h) (fun i r hi hr=>h1 (i+1) r oM (by simpa using hr)) (fun r hr=>h2 r (by simpa using hr))]
theorem zst (f:Rc->Bool):∀{l:List Rc}{i:Nat}{r:Rc},i<upto f l->l[i]? =some r->f r=true
 | [],i,r,h,_=>by simp [upto] at h
 |a::l,i,r,h,hr=>by
  unfold upto at h;split at h
  ·next ha =>
   cases i with
   |zero=>cases hr;exact ha
   |succ i=>exact zst f (l:=l) (Nat.lt_of_succ_lt_succ h) (by simpa using hr)
  ·omega
theorem ztt (f:Rc->Bool):∀{l:List Rc}{r:Rc},l[upto f l]? =some r->f r=false
 | [],r,h=>by simp [upto] at h
 |a::l,r,h=>by
  unfold upto at h;split at h
  ·exact ztt f (l:=l) (by simpa using h)
  ·next ha=>cases h;simpa using ha
def Srt (l:List Rc):Prop:=l.Pairwise fun a b=>lessB b.nm a.nm=false
def plc (x:Rc) (l:List Rc):Nat:=upto (fun r=>lessB r.nm x.nm) l
def layL (x:Rc) (l:List Rc):List Rc:=l.take (plc x l) ++ x::l.drop (plc x l)
theorem ztm1 (x:Rc) (l:List Rc):(layL x l).length=l.length+1:=by
 have:=zrt (fun r=>lessB r.nm x.nm) l
 unfold layL plc;simp only [qr,qa1,ql2,qb2];omega
theorem ziz {l:List Rc}(h:Srt l){i j:Nat}{a b:Rc}(hi:l[i]? =some a) (hj:l[j]? =some b) (hij:i<j):lessB b.nm a.nm=false:=by
 obtain ⟨h1,rfl⟩:=qp.1 hi;obtain ⟨h2,rfl⟩:=qp.1 hj;exact List.pairwise_iff_getElem.1 h i j h1 h2 hij
theorem zum1 {x:Rc}{l:List Rc}(h:Srt l){n:Nat}(hn:n<=l.length) (h1:∀r,0<n->l[n - 1]? =some r->lessB r.nm x.nm=true) (h2:∀r,l[n]? =some r->lessB r.nm x.nm=false):plc x l=n:=by
 refine zae _ hn (fun i r hi hr=> ?_) h2
 have hlt:n - 1<l.length:=oM
 have hg:=qo hlt;have h3:=h1 _ oM hg
 rcases qi2 i (n - 1) with h4|h4
 ·have h5:=ziz h hr hg h4
  cases h6:lessB r.nm x.nm with
  |true=>rfl
  |false =>
   have:=le_trans (a:=x.nm) (b:=r.nm) (c:=l[n - 1].nm) h6 h5;rw [h3] at this;cases this
 ·have:i=n - 1:=oM
  subst this;rw [hr] at hg;cases hg;exact h3
theorem zvm1 {x:Rc}{l:List Rc}(h:Srt l):Srt (layL x l):=by
 unfold layL;refine qx5.2 ⟨List.Pairwise.sublist (List.take_sublist _ _) h,qw6.2 ⟨fun b hb=> ?_,List.Pairwise.sublist (List.drop_sublist _ _) h⟩,fun a ha b hb=> ?_⟩
 ·-- what stands behind
  obtain ⟨j,hj⟩:=qy.1 hb;rw [qu2] at hj;have hlt:=(qp.1 hj).1;have h0:plc x l<l.length:=oM
  have hg:=qo h0;have h1:=ztt _ hg;cases j with
  |zero=>rw [qx4,hg] at hj;cases hj;exact h1
  |succ j=>exact le_trans h1 (ziz h hg hj oM)
 ·obtain ⟨i,hi⟩:=qy.1 ha
  have hil:i<plc x l:=by
   have:=(qp.1 hi).1;rw [qa1] at this;omega
  rw [qf2 hil] at hi;have h1:=zst _ hil hi;rcases qg1.1 hb with rfl|hb
  ·exact zmp h1
  ·obtain ⟨j,hj⟩:=qy.1 hb
   rw [qu2] at hj;exact ziz h hi hj oM
def sortL (l:List Rc):List Rc:=l.foldl (fun out x=>layL x out) []
theorem zut:∀(l out:List Rc),Srt out->Srt (l.foldl (fun out x=>layL x out) out)
 | [],_,h=>h
 |x::l,out,h=>zut l _ (zvm1 h)
theorem znj (l:List Rc) (x:Rc):sortL (l ++ [x])=layL x (sortL l):=by
 unfold sortL;rw [List.foldl_append];rfl
def zdr (l:List Rc):Prop:= ∀i a b,l[i]? =some a->l[i+1]? =some b->lessB a.nm b.nm=true
theorem zuh {l:List Rc}(h:zdr l):∀{j i:Nat}{a b:Rc},l[i]? =some a->l[j]? =some b->i<j->lessB a.nm b.nm=true
 |0,i,a,b,_,_,hij=>oM
 |j+1,i,a,b,hi,hj,hij=>by
  rcases qi2 i j with h1|h1
  ·have hlt:j<l.length:=by have:=(qp.1 hj).1;omega
   have hg:=qo hlt;exact zpi (zuh h hi hg h1) (h j _ _ hg hj)
  ·have:i=j:=oM
   subst this;exact h i a b hi hj
theorem zjz {l:List Rc}(h:zdr l):Srt l:=by
 refine List.pairwise_iff_getElem.2 fun i j hi hj hij=>zmp (zuh h (qo hi) (qo hj) hij)
theorem zkz {l:List Rc}{x:Rc}(h:zdr (l ++ [x])):zdr l:=fun i a b hi hj=>by
 have h1:=(qp.1 hi).1;have h2:=(qp.1 hj).1;exact h i a b (by rw [qt1 h1];exact hi) (by rw [qt1 h2];exact hj)
theorem zer (l:List Rc):zdr l->sortL l=l:=by
 have key:∀n,∀l:List Rc,l.length=n->zdr l->sortL l=l:=by
  intro n
  induction n with
  |zero=>intro l hl _;rw [qk1 hl];rfl
  |succ n ih =>
   intro l hl hs;obtain ⟨m,x,rfl⟩:∃m x,l=m ++ [x]:=⟨l.dropLast,l.getLast (by intro h;rw [h] at hl;cases hl),(List.dropLast_concat_getLast _).symm⟩
   have hm:m.length=n:=by simpa using hl
   have hsm:=zkz hs;rw [znj,ih m hm hsm];have hp:plc x m=m.length:=zae _ (qn _) (fun i r hi hr=>zuh hs (i:=i) (j:=m.length) (by rw [qt1 hi];exact hr) (by simp) hi) (fun r hr=>by simp at hr)
   unfold layL;rw [hp];simp
 exact key l.length l rfl
structure Tb where
 nx:Int
 rs:List Rc
def wi (n a b:Int):Bool:=decide (n>=a/\n<=b)
def maxN:Int:=2147483647
def aloneB (x:Rc):Bool:=wi x.id 1 maxN && (wi x.sz 1 64 && (wi x.md 1 2147483648 &&
 (if x.kd=1 then partB x.nm && (decide (x.ow=0) && (wi x.og 0 maxN && (wi x.qu 0 64 && wi x.rs 0 64)))
  else if x.kd=2 then snapB x.nm && (wi x.ow 1 maxN && (decide (x.og=0) && (decide (x.qu=0) && (decide (x.rs=0) && decide (0<=x.md)))))
  else false)))
def fnd (s:ByteArray) (l:List Rc):Nat:=upto (fun r=>decide (r.nm≠s)) l
def hasB (s:ByteArray) (l:List Rc):Bool:=decide (fnd s l<l.length)
def fndI (s:ByteArray) (l:List Rc):Nat:=if fnd s l<l.length then fnd s l else 0
def get (l:List Rc) (i:Nat):Rc:=l.getD i Rc0
def kinB (l:List Rc) (x:Rc):Bool :=
 if x.kd=2 then hasB (splA x.nm) l && decide ((get l (fndI (splA x.nm) l)).id=x.ow)
 else decide (x.og=0) || l.any fun y=>decide (y.id=x.og) && decide (y.kd=2)
def relB (t:Tb) (i:Nat):Bool :=
 ((t.rs.take i).all fun y=>decide (y.id≠(get t.rs i).id)) && (decide ((get t.rs i).id<t.nx) && kinB t.rs (get t.rs i))
def ordB (l:List Rc) (i:Nat):Bool:=decide (i=0) || lessB (get l (i - 1)).nm (get l i).nm
def headB (t:Tb):Bool:=wi t.nx 1 2147483648 && decide (t.rs.length<=16)
def zvb (t:Tb):Bool:=headB t && (((List.range t.rs.length).all fun i=>aloneB (get t.rs i) && ordB t.rs i) && ((List.range t.rs.length).all fun i=>relB t i))
theorem zbh {l:List Rc}{i:Nat}{a:Rc}(h:l[i]? =some a):get l i=a:=by
 unfold get;rw [ql6,h];rfl
theorem get_lt {l:List Rc}{i:Nat}(h:i<l.length):l[i]? =some (get l i):=by
 unfold get;rw [ql6,qo h];rfl
structure Ok (t:Tb):Prop where
 nx:1<=t.nx/\t.nx<=2147483648
 len:t.rs.length<=16
 alone:∀i,i<t.rs.length->aloneB (get t.rs i)=true
 ord:∀i,i<t.rs.length->ordB t.rs i=true
 rel:∀i,i<t.rs.length->relB t i=true
theorem checkB_ok {t:Tb}:zvb t=true↔Ok t:=by
 unfold zvb headB wi;simp only [qm,qs,qb1,qp3];constructor
 ·rintro ⟨⟨h1,h2⟩,h3,h4⟩
  exact ⟨⟨h1.1,h1.2⟩,h2,fun i hi=>(h3 i hi).1,fun i hi=>(h3 i hi).2,h4⟩
 ·rintro ⟨h1,h2,h3,h4,h5⟩
  exact ⟨⟨⟨h1.1,h1.2⟩,h2⟩,fun i hi=>⟨h3 i hi,h4 i hi⟩,h5⟩
theorem Ok.strict {t:Tb}(h:Ok t):zdr t.rs:=fun i a b hi hj=>by
 have h1:=(qp.1 hj).1;have:=h.ord (i+1) h1;unfold ordB at this;rw [zbh hj,qc6,zbh hi] at this
 simpa using this
theorem Ok.srt {t:Tb}(h:Ok t):Srt t.rs:=zjz h.strict
theorem zrn {s:ByteArray}{l:List Rc}(h:fnd s l<l.length):(get l (fnd s l)).nm=s:=by
 have h1:decide ((get l (fnd s l)).nm≠s)=false:=ztt (fun r=>decide (r.nm≠s)) (get_lt h)
 simpa using h1
theorem Ok.ids {t:Tb}(h:Ok t){i j:Nat}(hi:i<t.rs.length) (hj:j<t.rs.length) (e:(get t.rs i).id=(get t.rs j).id):i=j:=by
 have key:∀i j,i<j->j<t.rs.length->(get t.rs i).id≠(get t.rs j).id:=by
  intro i j hij hj;have hr:=h.rel j hj;unfold relB at hr;rw [qm,qb1] at hr;have hm:get t.rs i∈t.rs.take j:=qy.2 ⟨i,by rw [qf2 hij];exact get_lt oM⟩
  simpa using hr.1 _ hm
 rcases Nat.lt_trichotomy i j with h1|h1|h1
 ·exact absurd e (key i j h1 hj)
 ·exact h1
 ·exact absurd e.symm (key j i h1 hi)
theorem Ok.lt {t:Tb}(h:Ok t){i:Nat}(hi:i<t.rs.length):(get t.rs i).id<t.nx:=by
 have hr:=h.rel i hi;unfold relB at hr;rw [qm,qm,qs] at hr;exact hr.2.1
theorem Ok.kin {t:Tb}(h:Ok t){i:Nat}(hi:i<t.rs.length):kinB t.rs (get t.rs i)=true:=by
 have hr:=h.rel i hi;unfold relB at hr;rw [qm,qm] at hr;exact hr.2.2
theorem znp {s:ByteArray}:∀{n i:Nat},zre s i n=true-> ∀j,i<=j->j<i+n->okB j (byA s j)=true
 |0,_,_,j,h1,h2=>oM
 |n+1,i,h,j,h1,h2=>by
  unfold zre at h;rw [qm] at h;rcases qi2 i j with h3|h3
  ·exact znp h.2 j oM oM
  ·have:j=i:=oM
   subst this;exact h.1
theorem zwm1 {s:ByteArray}(h:partB s=true):cutF s=false:=by
 unfold partB at h;simp only [qm,qs] at h;unfold cutF at64;rw [Option.isSome_eq_false_iff,Option.isNone_iff_eq_none,List.find?_eq_none];intro i hi hc;have hi':=qp3.1 hi;have h1:=znp h.2.2 i oM oM
 have h2:s[i]! =64:=by simpa using hc
 have h3:byA s i=64:=by
  unfold byA;have h4:s[i]! =s.data.getD i 0:=by
   have:i<s.data.size:=hi';rw [getElem!_pos s i hi',qn1,qu1 this];rfl
  rw [← h4,h2];rfl
 rw [h3] at h1;unfold okB at h1;simp at h1
theorem zoj {s:ByteArray}(h:snapB s=true):partB s=false:=by
 cases hp:partB s with
 |false=>rfl
 |true =>
  unfold snapB at h;rw [zwm1 hp] at h;cases h
theorem zvh {x:Rc}(h:aloneB x=true):(x.kd=1/\partB x.nm=true/\x.ow=0)\/(x.kd=2/\snapB x.nm=true/\1<=x.ow/\x.og=0):=by
 unfold aloneB wi at h;simp only [qm,qs] at h;obtain ⟨_,_,_,h⟩:=h;split at h
 ·next h1=>exact .inl ⟨h1,by simp only [qm,qs] at h;exact ⟨h.1,h.2.1⟩⟩
 ·split at h
  ·next h1=>exact .inr ⟨h1,by simp only [qm,qs] at h;exact ⟨h.1,h.2.1.1,h.2.2.1⟩⟩
  ·cases h
abbrev Res:=Option Tb×Int
def bad (e:Int):Res:=(none,e)
def good (t:Tb):Res:=(some t,0)
def roomE (t:Tb) (s:ByteArray):Int:=if hasB s t.rs then 7 else if t.rs.length>=16\/t.nx>=2147483648 then 8 else 0
def putT (t:Tb) (x:Rc):Tb:=⟨t.nx+1,layL {x with id:=t.nx} t.rs⟩
def makeT (t:Tb) (s:ByteArray) (n:Int):Res :=
 if zvb t && (partB s && wi n 1 64) then (if roomE t s=0 then good (putT t ⟨0,s,1,n,1,0,0,0,0⟩) else bad (roomE t s)) else bad 2
def snapT (t:Tb) (s:ByteArray):Res :=
 if zvb t && snapB s then
  (if hasB (splA s) t.rs then (if roomE t s=0 then good (putT t ⟨0,s,2,(get t.rs (fndI (splA s) t.rs)).sz,1,(get t.rs (fndI (splA s) t.rs)).id,0,0,0⟩) else bad (roomE t s)) else bad 6)
 else bad 2
def zsn (t:Tb) (s to:ByteArray):Res :=
 if zvb t && (snapB s && partB to) then
  (if hasB s t.rs then (if roomE t to=0 then good (putT t ⟨0,to,1,(get t.rs (fndI s t.rs)).sz,1,0,(get t.rs (fndI s t.rs)).id,0,0⟩) else bad (roomE t to)) else bad 6)
 else bad 2
def zop (a b:Rc):Bool:=decide (a.md>b.md) || (decide (a.md=b.md) && decide (a.id>b.id))
def setSz (l:List Rc) (i:Nat) (n:Int):List Rc:=l.set i {get l i with sz:=n}
def rollT (t:Tb) (s:ByteArray):Res :=
 if zvb t && snapB s then
  (if hasB s t.rs then
   (if t.rs.any fun x=>decide (x.ow=(get t.rs (fndI s t.rs)).ow) && zop x (get t.rs (fndI s t.rs)) then bad 17
    else good ⟨t.nx,setSz t.rs (fndI (splA s) t.rs) (get t.rs (fndI s t.rs)).sz⟩) else bad 6)
 else bad 2
def dropT (t:Tb) (s:ByteArray):Res :=
 if zvb t && (partB s || snapB s) then
  (if hasB s t.rs then
   (if t.rs.any fun x=>decide (x.ow=(get t.rs (fndI s t.rs)).id) || decide (x.og=(get t.rs (fndI s t.rs)).id) then bad 17
    else good ⟨t.nx,t.rs.eraseIdx (fndI s t.rs)⟩) else bad 6)
 else bad 2
def zgj (a b:ByteArray):Bool:=(partB a && partB b) || (snapB a && (snapB b && decide (splA a=splA b)))
def ren (s to:ByteArray) (x:Rc):Rc:=if x.nm=s then {x with nm:=to} else if snapB x.nm && decide (splA x.nm=s) then {x with nm:=joinB to (splB x.nm)} else x
def renT (t:Tb) (s to:ByteArray):Res :=
 if zvb t && zgj s to then (if hasB s t.rs then (if hasB to t.rs then bad 7 else good ⟨t.nx,sortL (t.rs.map (ren s to))⟩) else bad 6) else bad 2
def zsd (t:Tb) (s:ByteArray) (fine:Bool) (f:Rc->Rc):Res :=
 if zvb t && (fine && (partB s || snapB s)) then
  (if hasB s t.rs then (if (get t.rs (fndI s t.rs)).kd=2 then bad 18 else good ⟨t.nx,t.rs.set (fndI s t.rs) (f (get t.rs (fndI s t.rs)))⟩) else bad 6)
 else bad 2
def sizeT (t:Tb) (s:ByteArray) (n:Int):Res:=zsd t s (wi n 1 64) fun x=> {x with sz:=n}
def limT (t:Tb) (s:ByteArray) (q r:Int):Res:=zsd t s (wi q 0 64 && wi r 0 64) fun x=> {x with qu:=q,rs:=r}
def renD (id:Int) (s to:ByteArray) (x:Rc):Rc:=if x.nm=s then {x with nm:=to} else if (partB s && partB to) && (snapB x.nm && decide (x.ow=id)) then {x with nm:=to ++ sign ++ splB x.nm} else x
theorem splA_of {s:ByteArray}(h:snapB s=true):partB (splA s)=true/\partB (splB s)=true:=by
 have h':=h;unfold snapB at h';rw [qm,qm] at h';unfold splA splB;rw [qi h,qi h];exact h'.2
theorem ren_eq {t:Tb}(hk:Ok t){s to:ByteArray}(ha:zgj s to=true) (hs:hasB s t.rs=true){i:Nat}(hi:i<t.rs.length) :
  ren s to (get t.rs i)=renD (get t.rs (fndI s t.rs)).id s to (get t.rs i):=by
 unfold ren renD;by_cases h1:(get t.rs i).nm=s
 ·rw [qi h1,qi h1]
 rw [qd h1,qd h1];unfold hasB at hs;rw [qs] at hs;have hfi:fndI s t.rs=fnd s t.rs:=by unfold fndI;rw [qi hs]
 rw [hfi];have hks:=hk.alone i hi;cases hsn:snapB (get t.rs i).nm with
 |false=>simp
 |true =>
  have hp:=splA_of hsn;have hkd:(get t.rs i).kd=2:=by
   rcases zvh hks with ⟨h2,h3,_⟩|⟨h2,_⟩
   ·rw [zoj hsn] at h3;cases h3
   ·exact h2
  have hkin:=hk.kin hi;unfold kinB at hkin;rw [qi hkd,qm,qs] at hkin;obtain ⟨hh,hid⟩:=hkin;unfold hasB at hh;rw [qs] at hh;have hvi:fndI (splA (get t.rs i).nm) t.rs=fnd (splA (get t.rs i).nm) t.rs:=by unfold fndI;rw [qi hh]
  rw [hvi] at hid;simp only [qn3];by_cases hv:splA (get t.rs i).nm=s
  ·have hps:partB s=true:=by rw [← hv];exact hp.1
   have hpt:partB to=true:=by
    unfold zgj at ha;cases h5:snapB s with
    |true=>rw [zoj h5] at hps;cases hps
    |false=>rw [h5] at ha;simp at ha;exact ha.2
   rw [hv] at hid;rw [hps,hpt];simp only [hv,hid,qa2,qr2,qc5];unfold joinB;rw [hpt,hp.2];rfl
  ·have hne:(get t.rs i).ow≠(get t.rs (fnd s t.rs)).id:=by
    rw [← hid];intro e;have:=hk.ids hh hs e;have h6:=zrn hh;rw [this,zrn hs] at h6;exact hv h6.symm
   simp only [hv,hne,qr1,qr3,ql1,qu3]
theorem zyi1 {t:Tb}(hk:Ok t){s to:ByteArray}(ha:zgj s to=true) (hs:hasB s t.rs=true) :
  t.rs.map (ren s to)=t.rs.map (renD (get t.rs (fndI s t.rs)).id s to):=by
 refine qb4 fun i=> ?_
 rw [qh1,qh1];rcases qi2 i t.rs.length with h|h
 ·rw [get_lt h];exact qu4 some (ren_eq hk ha hs h)
 ·rw [qk2 h];rfl
theorem zxm1 {t:Tb}(hk:Ok t){s:ByteArray}(hsn:snapB s=true) (hs:hasB s t.rs=true) :
  (t.rs.any fun x=>decide (x.ow=(get t.rs (fndI s t.rs)).ow) && zop x (get t.rs (fndI s t.rs))) =
  (t.rs.any fun x=>decide (x.kd=2) && (decide (x.ow=(get t.rs (fndI s t.rs)).ow) && zop x (get t.rs (fndI s t.rs)))):=by
 have hs':=hs;unfold hasB at hs;rw [qs] at hs;have hfi:fndI s t.rs=fnd s t.rs:=by unfold fndI;rw [qi hs]
 rw [hfi];have h1:=hk.alone _ hs;have hnm:=zrn hs;have how:1<=(get t.rs (fnd s t.rs)).ow:=by
  rcases zvh h1 with ⟨_,h3,_⟩|⟨_,_,h3,_⟩
  ·rw [hnm,zoj hsn] at h3;cases h3
  ·exact h3
 rw [qa3,qw3,qw3];constructor
 ·rintro ⟨x,hx,h2⟩
  refine ⟨x,hx,?_⟩;obtain ⟨i,hi⟩:=qy.1 hx;have hil:=(qp.1 hi).1;have h3:=hk.alone i hil;rw [zbh hi] at h3;rw [qm,qs] at h2;have:x.kd=2:=by
   rcases zvh h3 with ⟨_,_,h4⟩|⟨h4,_⟩
   ·rw [← h2.1,h4] at how;omega
   ·exact h4
  rw [qm,qm,qs,qs];exact ⟨this,h2⟩
 ·rintro ⟨x,hx,h2⟩
  rw [qm] at h2;exact ⟨x,hx,h2.2⟩
theorem zym1 {t:Tb}(hk:Ok t) (x:Rc):layL x t.rs=sortL (t.rs ++ [x]):=by rw [znj,zer _ hk.strict]
structure Od where
 op:Int
 nm:ByteArray
 to:ByteArray
 n:Int
 m:Int
 l:List ByteArray
 b:List Nat
def usesO (op:Int):Bool×Bool×Bool×Bool×Bool×Bool :=
 if op=1\/op=7 then (true,false,true,false,false,false)
 else if op=2\/op=4\/op=5\/op=9\/op=15\/op=16 then (true,false,false,false,false,false)
 else if op=3\/op=6\/op=10 then (true,true,false,false,false,false)
 else if op=8\/op=12\/op=14 then (true,false,true,true,false,false)
 else if op=11 then (false,false,false,false,true,false)
 else if op=13 then (true,false,true,false,false,true)
 else if op=18\/op=20\/op=21 then (false,false,true,false,false,false)
 else (false,false,false,false,false,false)
def ordOk (o:Od):Bool :=
 let u:=usesO o.op
 wi o.op 1 24 && (wi o.n 0 maxN && (wi o.m 0 maxN && (decide (o.l.length<=16) && (decide (o.b.length<=16384) && (decide (o.nm.size<=48) && (decide (o.to.size<=48) && ((o.l.all fun s=>decide (s.size<=48)) &&
  ((decide (o.nm.size=0) || u.1) && ((decide (o.to.size=0) || u.2.1) && ((decide (o.n=0) || u.2.2.1) && ((decide (o.m=0) || u.2.2.2.1) && ((decide (o.l.length=0) || u.2.2.2.2.1) && (decide (o.b.length=0) || u.2.2.2.2.2)))))))))))))
abbrev Bk:=List Nat
def zeroB:Bk:=List.replicate 16384 0
def atB (b:Bk) (k:Nat):List Nat:=(b.drop (256*k)).take 256
def noB:List Nat:=List.replicate 256 0
def zfg (b:Bk):Nat->Nat->Nat
 |_,0=>0
 |k,n+1=>(if atB b k=noB then 0 else 1)+zfg b (k+1) n
def usedB (b:Bk):Nat:=zfg b 0 64
def putB (b:Bk) (at_:Nat) (x:List Nat):Bk:=b.take at_ ++ x ++ b.drop (at_+x.length)
def cutK (b:Bk) (i:Nat) (n:Nat):Bk:=putB b (256*i) (List.replicate (256*n) 0)
structure Ms where
 t:Tb
 b:Int->Bk
def setK (b:Int->Bk) (i:Int) (x:Bk):Int->Bk:=fun j=>if j=i then x else b j
def M0:Ms:=⟨⟨1, []⟩,fun _=>zeroB⟩
def chgT (t:Tb) (o:Od):Res :=
 if o.op=1 then makeT t o.nm o.n else if o.op=2 then snapT t o.nm else if o.op=3 then zsn t o.nm o.to else if o.op=4 then rollT t o.nm
 else if o.op=5 then dropT t o.nm else if o.op=6 then renT t o.nm o.to else if o.op=7 then sizeT t o.nm o.n else limT t o.nm o.n o.m
def recO (t:Tb) (s:ByteArray):Rc:=if hasB s t.rs then get t.rs (fndI s t.rs) else Rc0
def chgB (del:Bool) (s:Ms) (o:Od):Int->Bk :=
 let x:=recO s.t o.nm
 let v:=recO s.t (splA o.nm)
 if o.op=1 then setK s.b s.t.nx zeroB else if o.op=2 then setK s.b s.t.nx (s.b v.id) else if o.op=3 then setK s.b s.t.nx (s.b x.id)
 else if o.op=4 then setK s.b v.id (s.b x.id) else if o.op=5 then (if del then setK s.b x.id zeroB else s.b)
 else if o.op=7 then setK s.b x.id (cutK (s.b x.id) o.n.toNat (64 - o.n.toNat)) else s.b
structure Rp where
 err:Int
 n:List Int
 b:List Nat
def er (e:Int):Rp:=⟨e, [], []⟩
def someB (b:Bk) (i n:Nat):List Nat:=(b.drop (256*i)).take (256*n)
def zyd (del:Bool) (s:Ms) (o:Od):Rp×Ms:=match chgT s.t o with
 |(some t,_)=>(er 0,⟨t,chgB del s o⟩)
 |(none,e)=>(er e,s)
def zqk (s:Ms) (but:ByteArray):Int :=
 s.t.rs.foldl (fun n x=>if x.kd=1/\x.nm≠but then n+max (x.rs - (usedB (s.b x.id):Int)) 0 else n) 0
def zlf (s:Ms) (o:Od) (x:Rc):Rp×Ms :=
 let to:Int:=if o.op=13 then o.n+((o.b.length / 256:Nat):Int) else o.m
 if x.kd=2 then (er 18,s) else if o.n>to\/to>x.sz then (er 5,s) else
 let next:=putB (cutK (s.b x.id) o.n.toNat (to.toNat - o.n.toNat)) (256*o.n.toNat) o.b
 if o.op=13/\usedB next>usedB (s.b x.id)/\x.qu>0/\(usedB next:Int)>x.qu then (er 16,s) else (er 0,⟨s.t,setK s.b x.id next⟩)
def asksM (s:Ms) (o:Od):Rp×Ms :=
 if (o.op=13/\(o.b.length=0\/o.b.length%256≠0))\/(partB o.nm || snapB o.nm)=false then (er 2,s)
 else if hasB o.nm s.t.rs=false then (er 6,s)
 else
  let x:=recO s.t o.nm
  if o.op=12 then (if o.n>x.sz\/o.m>x.sz - o.n then er 5 else ⟨0, [],someB (s.b x.id) o.n.toNat o.m.toNat⟩,s)
  else if o.op=15 then (⟨0, [(usedB (s.b x.id):Int)], []⟩,s)
  else zlf s o x
def zhc (del:Bool) (s:Ms) (o:Od):Rp×Bool×Ms :=
 if ordOk o then
  (if o.op<=8 then ((zyd del s o).1,true,(zyd del s o).2)
   else if o.op=16 then (⟨0, [zqk s o.nm], []⟩,true,s)
   else if 12<=o.op/\o.op<=15 then ((asksM s o).1,true,(asksM s o).2)
   else (er 0,false,s))
 else (er 2,true,s)
structure Like (s w:Ms):Prop where
 t:s.t=w.t
 b:∀i,i<s.t.rs.length->s.b (get s.t.rs i).id=w.b (get s.t.rs i).id
 sz:∀i,i<s.t.rs.length->1<=(get s.t.rs i).sz/\(get s.t.rs i).sz<=64
theorem like0:Like M0 M0:=⟨rfl,fun _ _=>rfl,fun i h=>by cases h⟩
theorem zza {s:ByteArray}{l:List Rc}(h:hasB s l=true):fndI s l<l.length/\(get l (fndI s l)).nm=s:=by
 unfold hasB at h;rw [qs] at h;unfold fndI;rw [qi h];exact ⟨h,zrn h⟩
theorem zlz {t:Tb}(x:Rc){i:Nat}(hi:i<(putT t x).rs.length):get (putT t x).rs i= {x with id:=t.nx}\/ ∃j,j<t.rs.length/\get (putT t x).rs i=get t.rs j:=by
 have h:=get_lt hi;have hm:get (putT t x).rs i∈layL {x with id:=t.nx} t.rs:=qy.2 ⟨i,h⟩
 unfold layL at hm;rcases qp2.1 hm with h1|h1
 ·obtain ⟨j,hj⟩:=qy.1 (qd5 h1)
  exact .inr ⟨j,(qp.1 hj).1,(zbh hj).symm⟩
 ·rcases qg1.1 h1 with h2|h2
  ·exact .inl h2
  ·obtain ⟨j,hj⟩:=qy.1 (qt3 h2)
   exact .inr ⟨j,(qp.1 hj).1,(zbh hj).symm⟩
theorem zfr {s w:Ms}(h:Like s w) (hk:Ok s.t){x:Rc}(hx:1<=x.sz/\x.sz<=64){z z':Bk}(hz:z=z') :
  Like ⟨putT s.t x,setK s.b s.t.nx z⟩ ⟨putT w.t x,setK w.b w.t.nx z'⟩:=by
 subst hz;rw [← h.t];refine ⟨rfl,fun i hi=> ?_,fun i hi=> ?_⟩
 ·rcases zlz x hi with h1|⟨j,hj,h1⟩
  ·show setK s.b s.t.nx z (get (putT s.t x).rs i).id=setK w.b s.t.nx z (get (putT s.t x).rs i).id
   rw [h1];unfold setK;rw [qi rfl,qi rfl]
  ·show setK s.b s.t.nx z (get (putT s.t x).rs i).id=setK w.b s.t.nx z (get (putT s.t x).rs i).id
   rw [h1];have:=hk.lt hj;unfold setK;rw [qd oM,qd oM]
   exact h.b j hj
 ·rcases zlz x hi with h1|⟨j,hj,h1⟩
  ·show 1<=(get (putT s.t x).rs i).sz/\_
   rw [h1];exact hx
  ·show 1<=(get (putT s.t x).rs i).sz/\_
   rw [h1];exact h.sz j hj
theorem zgr {s w:Ms}(h:Like s w){l:List Rc}(hl:∀i,i<l.length-> ∃j,j<s.t.rs.length/\(get l i).id=(get s.t.rs j).id)
  (hsz:∀i,i<l.length->1<=(get l i).sz/\(get l i).sz<=64){b b':Int->Bk}(hb:∀j,j<s.t.rs.length->b (get s.t.rs j).id=b' (get s.t.rs j).id) (n:Int) :
  Like ⟨⟨n,l⟩,b⟩ ⟨⟨n,l⟩,b'⟩:=by
 refine ⟨rfl,fun i hi=> ?_,hsz⟩
 obtain ⟨j,hj,e⟩:=hl i hi;show b (get l i).id=b' (get l i).id
 rw [e];exact hb j hj
theorem get_set {l:List Rc}{k i:Nat}{x:Rc}(hi:i<(l.set k x).length):(i=k/\get (l.set k x) i=x)\/(i≠k/\get (l.set k x) i=get l i):=by
 rw [qj2] at hi;by_cases e:i=k
 ·subst e
  exact .inl ⟨rfl,zbh (by rw [qk4 hi])⟩
 ·exact .inr ⟨e,zbh (by rw [qi4 (fun h=>e h.symm)];exact get_lt hi)⟩
theorem zmz {x y:Rc}{l:List Rc}(h:y∈layL x l):y=x\/y∈l:=by
 unfold layL at h;rcases qp2.1 h with h|h
 ·exact .inr (qd5 h)
 ·rcases qg1.1 h with h|h
  ·exact .inl h
  ·exact .inr (qt3 h)
theorem znz {y:Rc}:∀(l out:List Rc),y∈l.foldl (fun out x=>layL x out) out->y∈l\/y∈out
 | [],out,h=>.inr h
 |x::l,out,h=>by
  rcases znz l (layL x out) h with h|h
  ·exact .inl (qj1 _ h)
  ·rcases zmz h with h|h
   ·exact .inl (h▸qq1)
   ·exact .inr h
theorem ztn {y:Rc}{l:List Rc}(h:y∈sortL l):y∈l:=by
 rcases znz l [] h with h|h
 ·exact h
 ·cases h
theorem zya {c:Prop}[Decidable c]{e:Int}{r:Res}{t:Tb}{z:Int}(h:(if c then r else bad e)=(some t,z)):c/\r=(some t,z):=by
 split at h
 ·next hc=>exact ⟨hc,h⟩
 ·cases h
theorem zgg {c:Prop}[Decidable c]{e:Int}{r:Res}{t:Tb}{z:Int}(h:(if c then bad e else r)=(some t,z)):¬c/\r=(some t,z):=by
 split at h
 ·cases h
 ·next hc=>exact ⟨hc,h⟩
theorem zcd {t t':Tb}{z:Int}(h:good t'=(some t,z)):t'=t:=by cases h;rfl
theorem zmf {t:Tb}{s:ByteArray}(h:hasB s t.rs=true):recO t s=get t.rs (fndI s t.rs):=qi h
theorem zoz {s w:Ms}(h:Like s w) (o:Od){t:Tb}{z:Int}(hc:chgT s.t o=(some t,z)):Like ⟨t,chgB true s o⟩ ⟨t,chgB false w o⟩:=by
 unfold chgT at hc;unfold chgB;simp only;by_cases e1:o.op=1
 ·rw [qi e1] at hc ⊢;rw [qi e1]
  unfold makeT at hc;obtain ⟨c1,hc⟩:=zya hc;obtain ⟨c2,hc⟩:=zya hc;simp only [qm] at c1;have:=zcd hc;subst this;have c3:=c1.2.2;unfold wi at c3;rw [qs] at c3;have:=zfr h (checkB_ok.1 c1.1) (x:=⟨0,o.nm,1,o.n,1,0,0,0,0⟩) ⟨c3.1,c3.2⟩ (z:=zeroB) rfl;rw [← h.t] at this ⊢
  exact this
 rw [qd e1] at hc ⊢;rw [qd e1];by_cases e2:o.op=2
 ·rw [qi e2] at hc ⊢;rw [qi e2]
  unfold snapT at hc;obtain ⟨c1,hc⟩:=zya hc;obtain ⟨c2,hc⟩:=zya hc;obtain ⟨c3,hc⟩:=zya hc;simp only [qm] at c1;have:=zcd hc;subst this;obtain ⟨m1,m2⟩:=zza c2;have:=zfr h (checkB_ok.1 c1.1) (x:=⟨0,o.nm,2,(get s.t.rs (fndI (splA o.nm) s.t.rs)).sz,1,(get s.t.rs (fndI (splA o.nm) s.t.rs)).id,0,0,0⟩) (h.sz _ m1) (h.b _ m1);rw [← h.t] at this ⊢
  rw [zmf c2];exact this
 rw [qd e2] at hc ⊢;rw [qd e2];by_cases e3:o.op=3
 ·rw [qi e3] at hc ⊢;rw [qi e3]
  unfold zsn at hc;obtain ⟨c1,hc⟩:=zya hc;obtain ⟨c2,hc⟩:=zya hc;obtain ⟨c3,hc⟩:=zya hc;simp only [qm] at c1;have:=zcd hc;subst this;obtain ⟨m1,m2⟩:=zza c2;have:=zfr h (checkB_ok.1 c1.1) (x:=⟨0,o.to,1,(get s.t.rs (fndI o.nm s.t.rs)).sz,1,0,(get s.t.rs (fndI o.nm s.t.rs)).id,0,0⟩) (h.sz _ m1) (h.b _ m1);rw [← h.t] at this ⊢
  rw [zmf c2];exact this
 rw [qd e3] at hc ⊢;rw [qd e3];by_cases e4:o.op=4
 ·rw [qi e4] at hc ⊢;rw [qi e4]
  unfold rollT at hc;obtain ⟨c1,hc⟩:=zya hc;obtain ⟨c2,hc⟩:=zya hc;obtain ⟨c3,hc⟩:=zgg hc;have:=zcd hc;subst this;obtain ⟨m1,m2⟩:=zza c2;rw [← h.t,zmf c2];have hx:=h.b _ m1;refine zgr h (fun i hi=> ?_) (fun i hi=> ?_) (fun j hj=> ?_) _
  ·rcases get_set hi with ⟨e0,e⟩|⟨_,e⟩
   ·have hi':i<s.t.rs.length:=by unfold setSz at hi;rwa [qj2] at hi
    refine ⟨fndI (splA o.nm) s.t.rs,by rw [← e0];exact hi',?_⟩
    show (get (setSz _ _ _) i).id=_
    unfold setSz;rw [e]
   ·have hi':i<s.t.rs.length:=by unfold setSz at hi;rwa [qj2] at hi
    exact ⟨i,hi',by show (get (setSz _ _ _) i).id=_;unfold setSz;rw [e]⟩
  ·have hi':i<s.t.rs.length:=by unfold setSz at hi;rwa [qj2] at hi
   rcases get_set hi with ⟨_,e⟩|⟨_,e⟩
   ·show 1<=(get (setSz _ _ _) i).sz/\(get (setSz _ _ _) i).sz<=64
    unfold setSz;rw [e];exact h.sz _ m1
   ·show 1<=(get (setSz _ _ _) i).sz/\(get (setSz _ _ _) i).sz<=64
    unfold setSz;rw [e];exact h.sz _ hi'
  ·unfold setK
   split
   ·exact hx
   ·exact h.b j hj
 rw [qd e4] at hc ⊢;rw [qd e4];by_cases e5:o.op=5
 ·rw [qi e5] at hc ⊢;rw [qi e5]
  unfold dropT at hc;obtain ⟨c1,hc⟩:=zya hc;obtain ⟨c2,hc⟩:=zya hc;obtain ⟨c3,hc⟩:=zgg hc;have:=zcd hc;subst this;simp only [qm] at c1;have hk:=checkB_ok.1 c1.1;obtain ⟨m1,m2⟩:=zza c2;rw [zmf c2];generalize fndI o.nm s.t.rs=k at *
  have key:∀i,i<(s.t.rs.eraseIdx k).length-> ∃j,j<s.t.rs.length/\j≠k/\get (s.t.rs.eraseIdx k) i=get s.t.rs j:=by
   intro i hi;have hg:=get_lt hi;rw [List.getElem?_eraseIdx] at hg;split at hg
   ·next hlt=>exact ⟨i,oM,oM,(zbh hg).symm⟩
   ·next hlt=>exact ⟨i+1,(qp.1 hg).1,oM,(zbh hg).symm⟩
  refine ⟨rfl,fun i hi=> ?_,fun i hi=> ?_⟩
  ·obtain ⟨j,hj,hne,e⟩:=key i hi
   show setK s.b (get s.t.rs k).id zeroB (get (s.t.rs.eraseIdx k) i).id=w.b (get (s.t.rs.eraseIdx k) i).id
   rw [e];unfold setK;rw [qd fun e=>hne (hk.ids hj m1 e)]
   exact h.b j hj
  ·obtain ⟨j,hj,_,e⟩:=key i hi
   show 1<=(get (s.t.rs.eraseIdx k) i).sz/\_
   rw [e];exact h.sz j hj
 rw [qd e5] at hc ⊢;rw [qd e5];by_cases e6:o.op=6
 ·rw [qi e6] at hc
  rw [qd oM,qd oM]
  unfold renT at hc;obtain ⟨c1,hc⟩:=zya hc;obtain ⟨c2,hc⟩:=zya hc;obtain ⟨c3,hc⟩:=zgg hc;have:=zcd hc;subst this;have key:∀i,i<(sortL (s.t.rs.map (ren o.nm o.to))).length-> ∃j,j<s.t.rs.length/\(get (sortL (s.t.rs.map (ren o.nm o.to))) i).id=(get s.t.rs j).id/\(get (sortL (s.t.rs.map (ren o.nm o.to))) i).sz=(get s.t.rs j).sz:=by
   intro i hi;have hm:=ztn (qy.2 ⟨i,get_lt hi⟩);obtain ⟨y,hy,e⟩:=qy2.1 hm;obtain ⟨j,hj⟩:=qy.1 hy;refine ⟨j,(qp.1 hj).1,?_⟩;rw [← e,zbh hj];unfold ren;split
   ·exact ⟨rfl,rfl⟩
   ·split<;>exact ⟨rfl,rfl⟩
  refine zgr h (fun i hi=> ?_) (fun i hi=> ?_) (fun j hj=>h.b j hj) _
  ·obtain ⟨j,hj,e,_⟩:=key i hi;exact ⟨j,hj,e⟩
  ·obtain ⟨j,hj,_,e⟩:=key i hi;rw [e];exact h.sz j hj
 rw [qd e6] at hc;have chg:∀(fine:Bool) (f:Rc->Rc),(∀x,(f x).id=x.id)->(∀x,fine=true->1<=x.sz/\x.sz<=64->1<=(f x).sz/\(f x).sz<=64)-> ∀b b':Int->Bk,(hasB o.nm s.t.rs=true-> ∀j,j<s.t.rs.length->b (get s.t.rs j).id=b' (get s.t.rs j).id) ->
   zsd s.t o.nm fine f=(some t,z)->Like ⟨t,b⟩ ⟨t,b'⟩:=by
  intro fine f hf hsz b b' hb hc;unfold zsd at hc;obtain ⟨c1,hc⟩:=zya hc;obtain ⟨c2,hc⟩:=zya hc;obtain ⟨c3,hc⟩:=zgg hc;have:=zcd hc;subst this;simp only [qm] at c1;obtain ⟨m1,m2⟩:=zza c2;refine zgr h (fun i hi=> ?_) (fun i hi=> ?_) (hb c2) _
  ·rcases get_set hi with ⟨e0,e⟩|⟨_,e⟩
   ·exact ⟨_,m1,by rw [e,hf]⟩
   ·rw [qj2] at hi;exact ⟨i,hi,by rw [e]⟩
  ·rcases get_set hi with ⟨e0,e⟩|⟨_,e⟩
   ·rw [e];exact hsz _ c1.2.1 (h.sz _ m1)
   ·rw [qj2] at hi;rw [e];exact h.sz i hi
 by_cases e7:o.op=7
 ·rw [qi e7] at hc ⊢;rw [qi e7]
  refine chg (wi o.n 1 64) (fun x=> {x with sz:=o.n}) (fun x=>rfl) (fun x hf _=> ?_) _ _ (fun hh j hj=> ?_) hc
  ·unfold wi at hf
   rw [qs] at hf;exact ⟨hf.1,hf.2⟩
  ·obtain ⟨m1,_⟩:=zza hh
   rw [← h.t,zmf hh,← h.b _ m1];unfold setK;split
   ·rfl
   ·exact h.b j hj
 ·rw [qd e7] at hc ⊢;rw [qd e7]
  exact chg (wi o.n 0 64 && wi o.m 0 64) (fun x=> {x with qu:=o.n,rs:=o.m}) (fun x=>rfl) (fun x _ hx=>hx) _ _ (fun _ j hj=>h.b j hj) hc
theorem zpz {s w:Ms}(h:Like s w) (o:Od) (hh:hasB o.nm s.t.rs=true):(zlf s o (recO s.t o.nm)).1=(zlf w o (recO w.t o.nm)).1/\Like (zlf s o (recO s.t o.nm)).2 (zlf w o (recO w.t o.nm)).2:=by
 obtain ⟨m1,_⟩:=zza hh;rw [← h.t,zmf hh];unfold zlf;simp only;rw [← h.b _ m1];generalize (if o.op=13 then o.n+((o.b.length / 256:Nat):Int) else o.m)=to
 split
 ·exact ⟨rfl,h⟩
 split
 ·exact ⟨rfl,h⟩
 split
 ·exact ⟨rfl,h⟩
 ·refine ⟨rfl,?_⟩
  have:w.t=s.t:=h.t.symm;refine ⟨this.symm,fun i hi=> ?_,h.sz⟩
  show setK s.b _ _ (get s.t.rs i).id=setK w.b _ _ (get s.t.rs i).id
  unfold setK;split
  ·rfl
  ·exact h.b i hi
theorem zqz {s w:Ms}(h:Like s w) (but:ByteArray):zqk s but=zqk w but:=by
 unfold zqk;rw [← h.t];have key:∀(l:List Rc) (n:Int),(∀x,x∈l->s.b x.id=w.b x.id) ->
   l.foldl (fun n x=>if x.kd=1/\x.nm≠but then n+max (x.rs - (usedB (s.b x.id):Int)) 0 else n) n=l.foldl (fun n x=>if x.kd=1/\x.nm≠but then n+max (x.rs - (usedB (w.b x.id):Int)) 0 else n) n:=by
  intro l
  induction l with
  |nil=>intro n _;rw [List.foldl_nil,List.foldl_nil]
  |cons x l ih =>
   intro n hx;rw [qr6,qr6,hx x qq1];exact ih _ fun y hy=>hx y (qj1 _ hy)
 refine key _ _ fun x hx=> ?_
 obtain ⟨i,hi⟩:=qy.1 hx;have:=h.b i (qp.1 hi).1
 rwa [zbh hi] at this
theorem zrz {s w:Ms}(h:Like s w) (o:Od):(zhc true s o).1=(zhc false w o).1/\(zhc true s o).2.1=(zhc false w o).2.1/\Like (zhc true s o).2.2 (zhc false w o).2.2:=by
 unfold zhc;split
 ·split
  ·unfold zyd
   rw [← h.t];cases hc:chgT s.t o with
   |mk r z =>
    cases r with
    |none=>exact ⟨rfl,rfl,h⟩
    |some t=>exact ⟨rfl,rfl,zoz h o hc⟩
  ·split
   ·exact ⟨by rw [zqz h],rfl,h⟩
   ·split
    ·unfold asksM
     rw [← h.t];split
     ·exact ⟨rfl,rfl,h⟩
     ·split
      ·exact ⟨rfl,rfl,h⟩
      ·next hn =>
       have hh:hasB o.nm s.t.rs=true:=by simpa using hn
       obtain ⟨m1,_⟩:=zza hh;have hb:=h.b _ m1;have hw:=zpz h o hh;rw [← h.t] at hw;rw [zmf hh] at hw ⊢
       simp only;rw [← hb];split
       ·exact ⟨rfl,trivial,h⟩
       ·split
        ·exact ⟨rfl,trivial,h⟩
        ·exact ⟨hw.1,trivial,hw.2⟩
    ·exact ⟨rfl,rfl,h⟩
 ·exact ⟨rfl,rfl,h⟩
end HS.Md
namespace Go.Ev
open HS.Md
section
variable {α:Type}{f:α->List AV}{z:Nat}
def encC (f:α->List AV) (l:List α):List AV:=l.flatMap f
theorem znd (a:α) (l:List α):encC f (a::l)=f a ++ encC f l:=by simp [encC]
theorem zqi (l m:List α):encC f (l ++ m)=encC f l ++ encC f m:=by simp [encC]
theorem zmc (hf:∀a,(f a).length=z) (l:List α):(encC f l).length=l.length*z:=by
 induction l with
 |nil=>simp [encC]
 |cons a l ih=>rw [znd,qr,hf,ih,ql2,qj4,qm6,qm7]
theorem znf (hf:∀a,(f a).length=z):∀(l:List α) (k:Nat),(encC f l).drop (k*z)=encC f (l.drop k)
 |l,0=>by simp
 | [],k+1=>by simp [encC]
 |a::l,k+1=>by
  have h1:(f a ++ encC f l).drop z=encC f l:=by
   have:=List.drop_left (l₁:=f a) (l₂:=encC f l)
   rwa [hf] at this
  rw [znd,qj4,qm6,qm7,← qq3,h1,znf hf l k];rfl
theorem zse (hf:∀a,(f a).length=z):∀(l:List α) (k:Nat),(encC f l).take (k*z)=encC f (l.take k)
 |l,0=>by simp [encC]
 | [],k+1=>by simp [encC]
 |a::l,k+1=>by
  rw [znd,qj4,qm6,qm7,← hf a,List.take_length_add_append,hf a,zse hf l k,List.take_succ_cons,znd]
theorem zof (hf:∀a,(f a).length=z){l:List α}{k:Nat}{a:α}(h:l[k]? =some a):((encC f l).drop (k*z)).take z=f a:=by
 rw [znf hf];obtain ⟨hk,rfl⟩:=qp.1 h;rw [qt6 hk,znd,qo3 (by rw [hf];exact qn _),qx (by rw [hf];exact qn _)]
theorem zri (hf:∀a,(f a).length=z){l:List α}{k j:Nat}{a:α}(h:l[k]? =some a) (hj:j<z):(encC f l)[k*z+j]? =(f a)[j]? :=by
 rw [← zof hf h,qf2 hj,qu2]
theorem zsz (hf:∀a,(f a).length=z){l:List α}{k:Nat}(b:α) (h:k<l.length):(encC f l).take (k*z) ++ f b ++ (encC f l).drop (k*z+z)=encC f (l.set k b):=by
 rw [zse hf,show k*z+z=(k+1)*z from by rw [qj4,qm6],znf hf,qr4,qi h,zqi,znd,qi1]
theorem zwh (hf:∀a,(f a).length=z){l:List α}{k j:Nat}{a b:α}{x:AV}(h:l[k]? =some a) (hj:j<z) (hb:(f a).set j x=f b):(encC f l).set (k*z+j) x=encC f (l.set k b):=by
 obtain ⟨hk,rfl⟩:=qp.1 h;rw [← zsz hf b hk,← hb];have hl:=zmc hf l;have hkz:k*z+z<=(encC f l).length:=by
  rw [hl];have:(k+1)*z<=l.length*z:=qd2 z hk;rw [qj4,qm6] at this;exact this
 refine qb4 fun i=> ?_
 have hp:=zof hf h;have htk:((encC f l).take (k*z)).length=k*z:=by rw [qa1];omega
 have hfl:((f l[k]).set j x).length=z:=by rw [qj2,hf]
 rcases qi2 i (k*z) with h1|h1
 ·rw [qi4 oM,qi1,qt1 oM,qf2 h1]
 ·rcases qi2 i (k*z+z) with h2|h2
  ·rw [qi1,qz1 oM,htk,qt1 oM]
   by_cases h3:i=k*z+j
   ·subst h3
    rw [qk4 oM,Nat.add_sub_cancel_left,qk4 (by rw [hf];exact hj)]
   ·rw [qi4 (fun e=>h3 e.symm),qi4 oM,← hp,qf2 oM,qu2,show k*z+(i - k*z)=i from oM]
  ·rw [qi4 oM,qz1 (by rw [qr];omega),qr,htk,hfl,qu2,show k*z+z+(i - (k*z+z))=i from oM]
def SlE (f:α->List AV) (z:Nat) (H:AH) (v:AV) (l:List α):Prop:=SlZ H v l.length z (encC f l)
theorem SlE.is {H:AH}{v:AV}{l:List α}(h:SlE f z H v l):IsSl H v l.length:=SlZ.is h
theorem SlE.hx {H H':AH}{v:AV}{l:List α}(h:SlE f z H v l) (hx:HX H H'):SlE f z H' v l:=SlZ.hx h hx
theorem SlE.rd {H:AH}{v:AV}{l:List α}(hf:∀a,(f a).length=z) (h:SlE f z H v l){k j:Nat}{a:α}{x:AV}(hk:l[k]? =some a) (hj:j<z) (hx:(f a)[j]? =some x):ld1 (elB z v k j) H=some x :=
 SlZ.rd h (qp.1 hk).1 hj ((zri hf hk hj).trans hx)
theorem SlE.rdN {H:AH}{v:AV}{l:List α}(hf:∀a,(f a).length=z) (h:SlE f z H v l){k:Nat}{a:α}(hk:l[k]? =some a):∃c:Ce,ldN z (elA z v k) H=some c.toV/\c.l=f a:=by
 obtain ⟨c,h1,h2⟩:=SlZ.rdN h (qp.1 hk).1;exact ⟨c,h1,by rw [h2,zof hf hk]⟩
end
def z32:List AV:=List.replicate 32 (.int .u8 0)
def rcL (p:AV×Rc):List AV:= [.int .i64 p.2.id,.str p.2.nm,.int .i64 p.2.kd,.int .i64 p.2.sz,p.1,.int .i64 0,.int .i64 0] ++ (z32 ++ [.int .i64 p.2.md,.int .i64 p.2.ow,.int .i64 p.2.og,.int .i64 p.2.qu,.int .i64 p.2.rs])
theorem zra (p:AV×Rc):(rcL p).length=44:=rfl
theorem zbc (p:AV×Rc) (h:p.1.oneCell=true):(rcL p).all AV.oneCell=true:=by
 show (true && (true && (true && (true && (p.1.oneCell && _)))))=true
 rw [h];rfl
def roL (a:AV):List AV:= [a,.int .i64 0,.int .i64 0] ++ z32
theorem ztz (a:AV):(roL a).length=35:=rfl
theorem len_c {a:AV}{l:List AV}:(a::l).length=l.length+1:=rfl
theorem len_n:([]:List AV).length=0:=rfl
theorem zzi1:z32.length=32:=rfl
abbrev lens:=qa @zra (qa @ztz (qa zzi1 (qa @len_c @len_n)))
structure SlRc (H:AH) (v:AV) (l:List (AV×Rc)):Prop where
 sl:SlE rcL 44 H v l
 hole:∀p,p∈l->IsSl H p.1 0
 cap:∀i o n c op,v= .sl i o n c op->n<=c
theorem SlRc.hx {H H':AH}{v:AV}{l:List (AV×Rc)}(h:SlRc H v l) (hx:HX H H'):SlRc H' v l:=⟨h.sl.hx hx,fun p hp=>(h.hole p hp).hx hx,h.cap⟩
theorem SlRc.holeAt {H:AH}{v:AV}{l:List (AV×Rc)}(h:SlRc H v l){k:Nat}{p:AV×Rc}(hk:l[k]? =some p):IsSl H p.1 0:=h.hole p (qy.2 ⟨k,hk⟩)
theorem SlRc.pre {L:Lk}{t e:Nat}(ht:L.under t=some (.slice e)) (hz:L.size e=some 44){H:AH}{v:AV}{l:List (AV×Rc)}(h:SlRc H v l){k:Nat}(hk:k<l.length):∃v',zua L t false true false [v,.int .i64 (k:Int)]=some v'/\SlRc H v' (l.take k):=by
 rcases h.sl.hv with ⟨rfl,h0⟩|⟨i,o,c,op,ro,op',e2,z',row,rfl,hi,hr,hl,hc⟩
 ·omega
 ·have hcap:=h.cap _ _ _ _ _ rfl
  refine ⟨.sl i o k c op,?_,⟨⟨?_,.inr ⟨i,o,c,op,ro,op',e2,z',row,?_,hi,hr,?_,?_⟩⟩,fun p hp=>h.hole p (qd5 hp),?_⟩⟩
  ·show zgb L t (.sl i o l.length c op) none (some (.int .i64 (k:Int))) none=_
   unfold zgb;simp only [maxOk,bndOf,ht,hz,natOf];rw [show Nat.ble 0 k=true from qe (qo2 _),show Nat.ble k c=true from qe oM]
   cases op with
   |false =>
    show some (AV.sl i (offOf c 0 o 44) (k - 0) (c - 0) false)=_
    have:offOf c 0 o 44=o:=by unfold offOf;split<;>omega
    rw [this];rfl
   |true =>
    show (match Nat.beq c 0 with|true=>_|false=>some (AV.sl i (o+0*44) (k - 0) (c - 0) true))=_
    rw [show Nat.beq c 0=false from by cases c with|zero=>omega|succ c=>rfl]
    show some (AV.sl i (o+0*44) (k - 0) (c - 0) true)=_
    rw [qy4];rfl
  ·rw [zmc zra]
  ·rw [qa1,qv3 oM]
  ·rw [qa1,qv3 oM]
   have:k*44<=l.length*44:=qd2 44 oM
   omega
  ·rw [qa1,qv3 oM,← zse zra,← hc,qh5,qv3 (qd2 44 oM)]
  ·intro i2 o2 n2 c2 op2 he
   cases he;omega
theorem SlRc.is {H:AH}{v:AV}{l:List (AV×Rc)}(h:SlRc H v l):IsSl H v l.length:=h.sl.is
theorem SlRc.agg {H:AH}{v:AV}{l:List (AV×Rc)}(h:SlRc H v l){k:Nat}{p:AV×Rc}(hk:l[k]? =some p):ldN 44 (elA 44 v k) H=some (.agg (rcL p)):=by
 obtain ⟨c,h1,h2⟩:=SlE.rdN zra h.sl hk;rw [h1,zuy (x:=.int .i64 p.2.id) (l:=(rcL p).tail) (by rw [h2];rfl) (fun n hn=>by cases hn)]
 rfl
theorem SlRc.fld {H:AH}{v:AV}{l:List (AV×Rc)}(h:SlRc H v l){k j:Nat}{p:AV×Rc}{x:AV}(hk:l[k]? =some p) (hx:(rcL p)[j]? =some x):ld1 (elB 44 v k j) H=some x :=
 SlE.rd zra h.sl hk (by have:=(qp.1 hx).1;rwa [zra] at this) hx
abbrev Es:=List (AV×AV×Nat)
def IsM (es:Es) (kv:List (Int×AV)):Prop:=es.map (fun e=>(e.1,e.2.1))=kv.map fun p=>(AV.int .i64 p.1,p.2)
def idxK (k:Int):List (Int×AV)->Option Nat
 | []=>none
 |p::l=>if p.1=k then some 0 else (idxK k l).map (·+ 1)
def lkK (k:Int):List (Int×AV)->Option AV
 | []=>none
 |p::l=>if p.1=k then some p.2 else lkK k l
def upK (k:Int) (x:AV):List (Int×AV)->List (Int×AV)
 | []=> [(k,x)]
 |p::l=>if p.1=k then (k,x)::l else p::upK k x l
def delK (k:Int):List (Int×AV)->List (Int×AV)
 | []=> []
 |p::l=>if p.1=k then l else p::delK k l
theorem lkK_up (k:Int) (x:AV):∀(l:List (Int×AV)) (j:Int),lkK j (upK k x l)=if j=k then some x else lkK j l
 | [],j=>by
  show (if k=j then some x else none)=_
  by_cases h:j=k
  ·rw [qi h.symm,qi h]
  ·rw [qd fun e=>h e.symm,qd h];rfl
 |p::l,j=>by
  unfold upK;by_cases hp:p.1=k
  ·rw [qi hp]
   show (if k=j then some x else lkK j l)=if j=k then some x else if p.1=j then some p.2 else lkK j l
   by_cases h:j=k
   ·rw [qi h.symm,qi h]
   ·rw [qd fun e=>h e.symm,qd h,hp,qd fun e=>h e.symm]
  ·rw [qd hp]
   show (if p.1=j then some p.2 else lkK j (upK k x l))=if j=k then some x else if p.1=j then some p.2 else lkK j l
   rw [lkK_up k x l j];by_cases h:p.1=j
   ·rw [qi h,qi h,qd (by rw [← h];exact hp)]
   ·rw [qd h,qd h]
theorem mem_up {k:Int}{x:AV}{j:Int}:∀{l:List (Int×AV)},j∈(upK k x l).map (·.1)->j=k\/j∈l.map (·.1)
 | [],h=>by simpa [upK] using h
 |p::l,h=>by
  unfold upK at h;split at h
  ·next hp=>simp only [qp1,qg1] at h ⊢;rcases h with h|h<;>simp [h]
  ·simp only [qp1,qg1] at h ⊢
   rcases h with h|h
   ·exact .inr (.inl h)
   ·rcases mem_up h with h|h
    ·exact .inl h
    ·exact .inr (.inr h)
def NdK (l:List (Int×AV)):Prop:=(l.map (·.1)).Nodup
theorem NdK.up {k:Int}{x:AV}:∀{l:List (Int×AV)},NdK l->NdK (upK k x l)
 | [],_=>by simp [NdK,upK]
 |p::l,h=>by
  unfold NdK at h ⊢
  simp only [qp1,qh4] at h;unfold upK;split
  ·next hp=>simp only [qp1,qh4];rw [← hp];exact h
  ·next hp =>
   simp only [qp1,qh4];refine ⟨fun hm=> ?_,NdK.up h.2⟩
   rcases mem_up hm with h1|h1
   ·exact hp h1
   ·exact h.1 h1
theorem zuz {j:Int}:∀{l:List (Int×AV)},j ∉ l.map (·.1)->lkK j l=none
 | [],_=>rfl
 |p::l,h=>by
  simp only [qp1,qg1,not_or] at h;unfold lkK;rw [qd fun e=>h.1 e.symm,zuz h.2]
theorem zaj1 (k:Int):∀(l:List (Int×AV)),NdK l-> ∀j:Int,lkK j (delK k l)=if j=k then none else lkK j l
 | [],_,j=>by unfold delK lkK;split<;>rfl
 |p::l,h,j=>by
  unfold NdK at h;simp only [qp1,qh4] at h;unfold delK;by_cases hp:p.1=k
  ·rw [qi hp]
   show _=if j=k then none else if p.1=j then some p.2 else lkK j l
   by_cases hj:j=k
   ·rw [qi hj,hj,← hp,zuz h.1]
   ·rw [qd hj,hp,qd fun e=>hj e.symm]
  ·rw [qd hp]
   show (if p.1=j then some p.2 else lkK j (delK k l))=if j=k then none else if p.1=j then some p.2 else lkK j l
   rw [zaj1 k l h.2 j];by_cases hj:p.1=j
   ·rw [qi hj,qi hj,qd (by rw [← hj];exact hp)]
   ·rw [qd hj,qd hj]
theorem zbj1 {k j:Int}:∀{l:List (Int×AV)},j∈(delK k l).map (·.1)->j∈l.map (·.1)
 | [],h=>h
 |p::l,h=>by
  unfold delK at h;split at h
  ·exact qj1 _ h
  ·simp only [qp1,qg1] at h ⊢
   rcases h with h|h
   ·exact .inl h
   ·exact .inr (zbj1 h)
theorem NdK.del {k:Int}:∀{l:List (Int×AV)},NdK l->NdK (delK k l)
 | [],h=>h
 |p::l,h=>by
  unfold NdK at h ⊢
  simp only [qp1,qh4] at h;unfold delK;split
  ·exact h.2
  ·simp only [qp1,qh4]
   exact ⟨fun hm=>h.1 (zbj1 hm),NdK.del h.2⟩
theorem zvt (k:Int):∀{es:Es}{kv:List (Int×AV)}(h:IsM es kv) (i:Nat),findKey (.int .i64) (.int .i64 k) es i=some ((idxK k kv).map fun j=>(i+j,(lkK k kv).getD .undef))
 | [], [],_,_=>rfl
 | [],p::kv,h,_=>by cases h
 |e::es, [],h,_=>by cases h
 |e::es,p::kv,h,i=>by
  have h0:(e.1,e.2.1)=(AV.int .i64 p.1,p.2)/\IsM es kv:=by
   unfold IsM at h;rw [qp1,qp1] at h
   injection h with h1 h2
   exact ⟨h1,h2⟩
  obtain ⟨h1,h2⟩:=h0
  injection h1 with h1 h3
  have ih:=zvt k h2 (i+1);unfold findKey at ih ⊢
  rw [zta,h1];have hs:zpf (.int .i64) (.int .i64 k) (.int .i64 p.1)=some (k == p.1):=rfl;rw [hs];unfold idxK lkK;by_cases hp:p.1=k
  ·rw [qi hp,qi hp,hp,show (k == k)=true from beq_self_eq_true k,h3]
   rfl
  ·rw [qd hp,qd hp,show (k == p.1)=false from by simpa using fun e=>hp e.symm]
   show _=_
   refine ih.trans ?_;cases idxK k kv with
   |none=>rfl
   |some j=>show some (some (i+1+j,_))=some (some (i+(j+1),_));rw [show i+1+j=i+(j+1) from oM]
theorem zwe1 {L:Lk}{t:TypeId}(ht:L.under t=some (.int .i64)) (k:Int){es:Es}{kv:List (Int×AV)}(h:IsM es kv) :
  zqf L t (.int .i64 k) es=some ((idxK k kv).map fun j=>(j,(lkK k kv).getD .undef)):=by
 unfold zqf;rw [ht];show (match zpf (.int .i64) (.int .i64 k) (.int .i64 k) with|some _=>findKey (.int .i64) (.int .i64 k) es 0|none=>none)=_
 rw [show zpf (.int .i64) (.int .i64 k) (.int .i64 k)=some (k == k) from rfl]
 show findKey _ _ _ _=_
 rw [zvt k h 0];congr 1;cases idxK k kv<;>simp
theorem idx_lk {k:Int}{kv:List (Int×AV)}:(idxK k kv=none↔lkK k kv=none):=by
 induction kv with
 |nil=>exact ⟨fun _=>rfl,fun _=>rfl⟩
 |cons p l ih =>
  unfold idxK lkK;by_cases hp:p.1=k
  ·rw [qi hp,qi hp];exact ⟨fun h=>(by cases h),fun h=>(by cases h)⟩
  ·rw [qd hp,qd hp,qi7];exact ih
theorem zzm1 {L:Lk}{t kt et:TypeId}{z:AV}{i c:Nat}{H:AH}(ht:L.under t=some (.map kt et)) (hk:L.under kt=some (.int .i64)) (hz:L.zero et=some z) (k:Int){es:Es}{kv:List (Int×AV)}(hg:H.get i=some (.map es c)) (h:IsM es kv) :
  zob L t (.map i) (.int .i64 k) false H=some ((lkK k kv).getD z):=by
 unfold zob;simp only [ht,hz,hg];rw [zwe1 hk k h];cases hi:idxK k kv with
 |none=>rw [idx_lk.1 hi];rfl
 |some j =>
  cases hl:lkK k kv with
  |none=>rw [idx_lk.2 hl] at hi;cases hi
  |some v=>rfl
def brn (es:Es) (j:Nat):Nat:=match es[j]? with|some e=>e.2.2|none=>0
theorem IsM.up {es:Es}{kv:List (Int×AV)}(h:IsM es kv) (k:Int) (x:AV) (c:Nat):IsM (match idxK k kv with|some j=>es.set j (.int .i64 k,x,brn es j)|none=>es ++ [(.int .i64 k,x,c)]) (upK k x kv):=by
 unfold IsM at *
 induction kv generalizing es with
 |nil =>
  cases es with
  |nil=>rfl
  |cons e es=>cases h
 |cons p l ih =>
  cases es with
  |nil=>cases h
  |cons e es =>
   rw [qp1,qp1] at h
   injection h with h1 h2
   unfold idxK upK;by_cases hp:p.1=k
   ·rw [qi hp,qi hp]
    show _::_=_::_
    rw [h2]
   ·rw [qd hp,qd hp]
    have:=ih h2;cases hi:idxK k l with
    |none =>
     rw [hi] at this;show (e.1,e.2.1)::(es ++ [_]).map _=_::_
     rw [h1];exact qu4 _ this
    |some j =>
     rw [hi] at this;show (e.1,e.2.1)::(es.set j _).map _=_::_
     rw [h1];exact qu4 _ this
theorem IsM.del {es:Es}{kv:List (Int×AV)}(h:IsM es kv) (k:Int):IsM (match idxK k kv with|some j=>es.eraseIdx j|none=>es) (delK k kv):=by
 unfold IsM at *
 induction kv generalizing es with
 |nil=>exact h
 |cons p l ih =>
  cases es with
  |nil=>cases h
  |cons e es =>
   rw [qp1,qp1] at h
   injection h with h1 h2
   unfold idxK delK;by_cases hp:p.1=k
   ·rw [qi hp,qi hp];exact h2
   ·rw [qd hp,qd hp]
    have:=ih h2;cases hi:idxK k l with
    |none =>
     rw [hi] at this;show (e.1,e.2.1)::es.map _=_::_
     rw [h1];exact qu4 _ this
    |some j =>
     rw [hi] at this;show (e.1,e.2.1)::(es.eraseIdx j).map _=_::_
     rw [h1];exact qu4 _ this
theorem IsM.len {es:Es}{kv:List (Int×AV)}(h:IsM es kv):es.length=kv.length:=by
 have:=qu4 List.length h
 simpa using this
theorem idx_lt {k:Int}:∀{kv:List (Int×AV)}{j:Nat},idxK k kv=some j->j<kv.length
 | [],j,h=>by cases h
 |p::l,j,h=>by
  unfold idxK at h;split at h
  ·cases h;exact ql7 _
  ·cases hi:idxK k l with
   |none=>rw [hi] at h;cases h
   |some q=>rw [hi] at h;cases h;exact Nat.succ_lt_succ (idx_lt hi)
theorem zjw {L:Lk}{t kt et:TypeId}{i c:Nat}{H:AH}(ht:L.under t=some (.map kt et)) (hk:L.under kt=some (.int .i64)) (k:Int) (x:AV){es:Es}{kv:List (Int×AV)}(hg:H.get i=some (.map es c)) (hlo:H.lo<=i) (h:IsM es kv) :
  ∃es' c',zqa L t (.map i) (.int .i64 k) x H=some (H.put i (.map es' c'))/\IsM es' (upK k x kv):=by
 unfold zqa;rw [ht];simp only;rw [show Nat.ble H.lo i=true from qe hlo,hg]
 simp only;rw [zwe1 hk k h];have hup:=h.up k x c;cases hi:idxK k kv with
 |none=>rw [hi] at hup;exact ⟨_,_,rfl,hup⟩
 |some j =>
  rw [hi] at hup;have hj:j<es.length:=by rw [h.len];exact idx_lt hi
  have hn:nth es j=some es[j]:=by rw [zug,qo hj]
  have ho:zod [((AV.int .i64 k,x,es[j].2.2):AV×AV×Nat)] es j=some (es.set j (.int .i64 k,x,es[j].2.2)):=by
   refine (zcc _ _ _ _).2 ⟨by show j+1<=es.length;omega,?_⟩
   rw [qr4,qi hj];simp
  show ∃es' c',(match nth es j with|some e=>(match zod [((AV.int .i64 k,x,e.2.2):AV×AV×Nat)] es j with|some es'=>some (H.put i (.map es' c))|none=>none)|none=>none)=some (H.put i (.map es' c'))/\_
  rw [hn];simp only;rw [ho];refine ⟨_,_,rfl,?_⟩;have:brn es j=es[j].2.2:=by unfold brn;rw [qo hj]
  replace hup:IsM (es.set j (.int .i64 k,x,brn es j)) (upK k x kv):=hup
  rw [this] at hup;exact hup
open Go.RowKit
def zun:XFn:=fun args H=>match args with
 | [.ifc t (.map i)]=>(match H.get i with|some (.map es clock)=>some (.ifc t (.map H.next),H.new (.map es clock))|_=>none)
 |_=>none
theorem zhr {P:Program}{B:Nat}{f:FuncId}(hf:Bare P f Extern.MapsClone.clone):XOk P B f zun:=by
 intro args H p hp E w us hw hS hus;unfold zun at hp;split at hp
 ·next t i =>
  split at hp
  ·next es clock hg =>
   cases hp
   have hu:=hus E (Agree.refl _ _);subst hu;have hm:=hS.self.map hg;obtain ⟨h1,h2,h3⟩:=zyu hw hS (.map es clock) (.map (es.map (entryOf E)).toArray clock) 0 (fun E' hE he=>by
    show (wNew w _).heap[(E' H.next).blk]? =some (.map (es.map (entryOf E')).toArray clock)
    rw [he,map_E hw hS hg hE];exact zkg)
   have hc:(callFunc f (concL E [.ifc t (.map i)]).toArray).run P w= .ok (.value (.iface t (.map (some w.heap.size)))) (wNew w (.map (es.map (entryOf E)).toArray clock)):=by
    refine hf.run ?_;show (Extern.MapsClone.clone #[.iface t (.map (some (E i).blk))]).run P w=_
    have hi:Extern.MapsClone.clone #[Value.iface t (.map (some (E i).blk))]=(do
      let .map entries clock ← getObj (E i).blk | stuck "maps.clone: a map expected"
      pure (.iface t (.map (some (← newObj (.map entries clock)))))):=rfl
    rw [hi];simp only [qj];rw [zrc hm (fun _ _ _=>by simp)]
    rfl
   unfold CallOk;rw [hc];refine ⟨_,fun E' hE=> ?_,h1,h2,h3⟩
   have:E' H.next=⟨w.heap.size,0,0⟩:=(hE H.next (qd1 _)).trans (Env.add_self _ _ _);show _=Value.iface t (.map (some (E' H.next).blk))
   rw [this]
  ·cases hp
 ·cases hp
def xOver:XFn:=fun args H=>match args with
 | [.sl i o _ _ _,.sl j _ _ _ _]=>(match Nat.beq i j,H.get i,H.get j with
  |false,some (.cells ci _ zi _ false),some (.cells cj _ _ _ false)=>(match Nat.beq zi 1,Nat.blt o ci.len,Nat.blt 0 cj.len with
   |false,true,true=>some (.bool false,H)
   |_,_,_=>none)
  |_,_,_=>none)
 |_=>none
theorem zpn {P:Program}{B:Nat}{f tS tR e size:Nat}(hf:Bare P f (Extern.SlicesOverlaps.overlaps #[tS,tS] #[tR])) (ht:P.underlying tS=some (.slice e)) (hz:∀w,(Go.sizeOf e).run P w= .ok size w):XOk P B f xOver:=by
 intro args H p hp E w us hw hS hus;unfold xOver at hp;split at hp
 ·next i o n c op j p' m d oq =>
  split at hp
  ·next ci ei zi opi cj ej zj opj hij hgi hgj =>
   split at hp
   ·next hz1 ho hl =>
    cases hp
    have hu:=hus E (Agree.refl _ _);subst hu;have hne:i≠j:=fun h=>by subst h;rw [qt2] at hij;cases hij
    have hzn:zi≠1:=fun h=>by subst h;cases hz1
    rw [qt4,Ce.len_l] at ho hl;obtain ⟨cs,e1,fz,a1,a2,a3⟩:=hS.self.blk i _ hgi;obtain ⟨⟨hf1,hf2⟩,hsz,_,hmk⟩:=a3 rfl;obtain ⟨cs2,e2,fz2,b1,b2,b3⟩:=hS.self.blk j _ hgj;obtain ⟨_,hsz2,_,_⟩:=b3 rfl;have hblk:(E i).blk≠(E j).blk:=hS.self.inj i j _ _ hgi hgj hne rfl rfl;have hsa:w.shape? (E i).blk=some (e1,cs.size):=by unfold World.shape?;rw [a1]
    have hsb:w.shape? (E j).blk=some (e2,cs2.size):=by unfold World.shape?;rw [b1]
    unfold CallOk;have key:=Go.Lib.run_overlaps_apart (P:=P) w tS tR e ht size hz ⟨(E i).blk,(E i).off+o,none⟩ ⟨(E j).blk,(E j).off+p',none⟩ n (c+if op then (E i).extra else 0) m (d+if oq then (E j).extra else 0) hblk e1 e2 cs.size cs2.size hsa hsb oM
     (by
      rw [zme];simp only [a1];have:=hf2 ((E i).off+o) oM
      simpa [objFz] using this)
     (by
      rw [zme];simp only [a1];have:=hmk.1 hzn
      simpa [objFz] using this)
    have:(callFunc f (concL E [.sl i o n c op,.sl j p' m d oq]).toArray).run P w= .ok (.value (.bool false)) w:=hf.run key;rw [this];exact Done.same hw hS (fun _ _=>rfl)
   ·cases hp
  ·cases hp
 ·cases hp
end Go.Ev
namespace HS.Ins
set_option maxRecDepth 100000
theorem bOv:Bare Tryz.prog 187 (Extern.SlicesOverlaps.overlaps #[49,49] #[4]):=⟨Tryz.f187,Tryz.func187,kR,kR,kR,kR⟩
def lookI:Lk:=lkZ Tryz.prog (Tr.ofList Tryz.prog.funcs.toList) (Tr.ofList Tryz.prog.types.toList) [(187,xOver)] []
theorem lookI_ok:LOk lookI Tryz.prog:=zae1 kR kR kR
theorem noextI:lookI.ext 175=none:=rfl
def znc:Code:=bodyN lookI 175
def f175r0:K2 :=
 .mv (.con .nilSl) (some (sOf 6)) <|
 .done
def f175r1:K2 :=
 .mv (tO 0) (some (sOf 10)) <|
 .mv (tO 1) (some (sOf 11)) <|
 .ls (fun xs _=>zua lookI 49 true false false xs) [(tO 10),(tO 11)] (opN znc 1 2) (some (sOf 12)) <|
 .done
def f175r2:K2 :=
 .mv (tO 2) (some (sOf 13)) <|
 .ln (fun xs H=>fstO (zda .len lookI [49] xs H)) [(tO 13)] (some (sOf 14)) <|
 .mv (tO 14) (some (sOf 7)) <|
 .done
def f175r3:K2 :=
 .mv (tO 7) (some (sOf 15)) <|
 .p2 (binF .eql (evBin lookI .eql 3 (.tmp 15) (.const (.int .i64 (0))))) (tO 15) (.con (.int .i64 (0))) (some (sOf 16)) <|
 .done
def f175r4:K2 :=
 .mv (tO 0) (some (sOf 17)) <|
 .mv (tO 17) (some (sOf 6)) <|
 .done
def f175r5:K2 :=
 .mv (tO 0) (some (sOf 18)) <|
 .ln (fun xs H=>fstO (zda .len lookI [49] xs H)) [(tO 18)] (some (sOf 19)) <|
 .mv (tO 19) (some (sOf 8)) <|
 .done
def f175r6:K2 :=
 .mv (tO 1) (some (sOf 20)) <|
 .mv (tO 8) (some (sOf 21)) <|
 .p2 (binF .eql (evBin lookI .eql 3 (.tmp 20) (.tmp 21))) (tO 20) (tO 21) (some (sOf 22)) <|
 .done
def f175r7:K2 :=
 .mv (tO 0) (some (sOf 23)) <|
 .mv (tO 2) (some (sOf 24)) <|
 .hn false (appX 84 44 152) [(tO 23),(tO 24)] (some (sOf 25)) <|
 .mv (tO 25) (some (sOf 6)) <|
 .done
def f175r8:K2 :=
 .mv (tO 8) (some (sOf 26)) <|
 .mv (tO 7) (some (sOf 27)) <|
 .p2 (binF .add (evBin lookI .add 3 (.tmp 26) (.tmp 27))) (tO 26) (tO 27) (some (sOf 28)) <|
 .mv (tO 0) (some (sOf 29)) <|
 .ln (fun xs H=>fstO (zda .cap lookI [49] xs H)) [(tO 29)] (some (sOf 30)) <|
 .p2 (binF .gtr (evBin lookI .gtr 3 (.tmp 28) (.tmp 30))) (tO 28) (tO 30) (some (sOf 31)) <|
 .done
def f175r9:K2 :=
 .mv (tO 0) (some (sOf 32)) <|
 .mv (tO 1) (some (sOf 33)) <|
 .ls (fun xs _=>zua lookI 49 false true false xs) [(tO 32),(tO 33)] (opN znc 9 2) (some (sOf 34)) <|
 .mv (tO 8) (some (sOf 35)) <|
 .mv (tO 7) (some (sOf 36)) <|
 .p2 (binF .add (evBin lookI .add 3 (.tmp 35) (.tmp 36))) (tO 35) (tO 36) (some (sOf 37)) <|
 .mv (tO 1) (some (sOf 38)) <|
 .p2 (binF .sub (evBin lookI .sub 3 (.tmp 37) (.tmp 38))) (tO 37) (tO 38) (some (sOf 39)) <|
 .hn false (zda .append lookI [49,3]) [(tO 34),(tO 39)] (some (sOf 40)) <|
 .mv (tO 40) (some (sOf 9)) <|
 .done
def f175r10:K2 :=
 .mv (tO 9) (some (sOf 41)) <|
 .mv (tO 1) (some (sOf 42)) <|
 .ls (fun xs _=>zua lookI 49 true false false xs) [(tO 41),(tO 42)] (opN znc 10 2) (some (sOf 43)) <|
 .mv (tO 2) (some (sOf 44)) <|
 .hn false (zda .copy lookI [49,49]) [(tO 43),(tO 44)] (some (sOf 45)) <|
 .done
def f175r11:K2 :=
 .mv (tO 9) (some (sOf 46)) <|
 .mv (tO 1) (some (sOf 47)) <|
 .mv (tO 7) (some (sOf 48)) <|
 .p2 (binF .add (evBin lookI .add 3 (.tmp 47) (.tmp 48))) (tO 47) (tO 48) (some (sOf 49)) <|
 .ln (fun xs _=>zua lookI 49 true false false xs) [(tO 46),(tO 49)] (some (sOf 50)) <|
 .mv (tO 0) (some (sOf 51)) <|
 .mv (tO 1) (some (sOf 52)) <|
 .ln (fun xs _=>zua lookI 49 true false false xs) [(tO 51),(tO 52)] (some (sOf 53)) <|
 .hn false (zda .copy lookI [49,49]) [(tO 50),(tO 53)] (some (sOf 54)) <|
 .done
def f175r12:K2 :=
 .mv (tO 9) (some (sOf 55)) <|
 .mv (tO 55) (some (sOf 6)) <|
 .done
def f175r13:K2 :=
 .mv (tO 0) (some (sOf 56)) <|
 .mv (tO 8) (some (sOf 57)) <|
 .mv (tO 7) (some (sOf 58)) <|
 .p2 (binF .add (evBin lookI .add 3 (.tmp 57) (.tmp 58))) (tO 57) (tO 58) (some (sOf 59)) <|
 .ls (fun xs _=>zua lookI 49 false true false xs) [(tO 56),(tO 59)] (opN znc 13 4) (some (sOf 60)) <|
 .mv (tO 60) (some (sOf 0)) <|
 .done
def f175r14:K2 :=
 .mv (tO 2) (some (sOf 61)) <|
 .mv (tO 0) (some (sOf 62)) <|
 .mv (tO 1) (some (sOf 63)) <|
 .mv (tO 7) (some (sOf 64)) <|
 .p2 (binF .add (evBin lookI .add 3 (.tmp 63) (.tmp 64))) (tO 63) (tO 64) (some (sOf 65)) <|
 .ls (fun xs _=>zua lookI 49 true false false xs) [(tO 62),(tO 65)] (opN znc 14 5) (some (sOf 66)) <|
 .cl false 187 [(tO 61),(tO 66)] (some (sOf 67)) <|
 .p1 notF (tO 67) (some (sOf 68)) <|
 .done
def f175r15:K2 :=
 .mv (tO 0) (some (sOf 69)) <|
 .mv (tO 1) (some (sOf 70)) <|
 .mv (tO 7) (some (sOf 71)) <|
 .p2 (binF .add (evBin lookI .add 3 (.tmp 70) (.tmp 71))) (tO 70) (tO 71) (some (sOf 72)) <|
 .ln (fun xs _=>zua lookI 49 true false false xs) [(tO 69),(tO 72)] (some (sOf 73)) <|
 .mv (tO 0) (some (sOf 74)) <|
 .mv (tO 1) (some (sOf 75)) <|
 .ln (fun xs _=>zua lookI 49 true false false xs) [(tO 74),(tO 75)] (some (sOf 76)) <|
 .hn false (zda .copy lookI [49,49]) [(tO 73),(tO 76)] (some (sOf 77)) <|
 .done
def f175r16:K2 :=
 .mv (tO 0) (some (sOf 78)) <|
 .mv (tO 1) (some (sOf 79)) <|
 .ls (fun xs _=>zua lookI 49 true false false xs) [(tO 78),(tO 79)] (opN znc 16 2) (some (sOf 80)) <|
 .mv (tO 2) (some (sOf 81)) <|
 .hn false (zda .copy lookI [49,49]) [(tO 80),(tO 81)] (some (sOf 82)) <|
 .done
def f175r17:K2 :=
 .mv (tO 0) (some (sOf 83)) <|
 .mv (tO 83) (some (sOf 6)) <|
 .done
def f175r18:K2 :=
 .mv (tO 0) (some (sOf 84)) <|
 .mv (tO 8) (some (sOf 85)) <|
 .ls (fun xs _=>zua lookI 49 true false false xs) [(tO 84),(tO 85)] (opN znc 18 2) (some (sOf 86)) <|
 .mv (tO 2) (some (sOf 87)) <|
 .hn false (zda .copy lookI [49,49]) [(tO 86),(tO 87)] (some (sOf 88)) <|
 .done
def f175r19:K2 :=
 .mv (tO 0) (some (sOf 89)) <|
 .mv (tO 1) (some (sOf 90)) <|
 .ls (fun xs _=>zua lookI 49 true false false xs) [(tO 89),(tO 90)] (opN znc 19 2) (some (sOf 91)) <|
 .mv (tO 7) (some (sOf 92)) <|
 .cl false 188 [(tO 91),(tO 92)] (some (sOf 93)) <|
 .done
def f175r20:K2 :=
 .mv (tO 0) (some (sOf 94)) <|
 .mv (tO 94) (some (sOf 6)) <|
 .done
def f175c:C2:=(.seq (.reg f175r0)
 (.seq (.reg f175r1)
 (.seq (.reg f175r2)
 (.seq (.seq (.reg f175r3)
 (.cond (tO 16) (.seq (.reg f175r4)
 .ret) .skip))
 (.seq (.reg f175r5)
 (.seq (.seq (.reg f175r6)
 (.cond (tO 22) (.seq (.reg f175r7)
 .ret) .skip))
 (.seq (.seq (.reg f175r8)
 (.cond (tO 31) (.seq (.reg f175r9)
 (.seq (.reg f175r10)
 (.seq (.reg f175r11)
 (.seq (.reg f175r12)
 .ret)))) .skip))
 (.seq (.reg f175r13)
 (.seq (.seq (.reg f175r14)
 (.cond (tO 68) (.seq (.reg f175r15)
 (.seq (.reg f175r16)
 (.seq (.reg f175r17)
 .ret))) .skip))
 (.seq (.reg f175r18)
 (.seq (.reg f175r19)
 (.seq (.reg f175r20)
 .ret))))))))))))
theorem zwt:fnF lookI 175=some ⟨95,f175c, [.tmp 6]⟩:=kR
open Go Go.Proofs Go.RowKit
open Go.Ev
open Ra Rb Rc Rd Re Rf Rh Rk
theorem app_z {L:Lk}{t t' e z b:Nat}{zv:AV}{H:AH}(ht:L.under t=some (.slice e)) (ht':L.under t'=some (.int .i64)) (hz:L.size e=some z) (hb:L.bytes e=some b) (hzv:L.zero e=some zv) (hzl:zv.cells.length=z) (hz0:0<z)
  {i o l c n:Nat}{ro op':Bool}{e' z':Nat}{row:List AV}(hr:Row H i ro op' e' z' row) (hl:o+l*z<=row.length) (hc:c<l+n) (hbb:(l+n)*b<=140737488355328) (hm:l+n<=9223372036854775807) (hone:(Ce.repC zv.cells n).one=true) (hh:H.hide= []) :
  ∃H',zda .append L [t,t'] [.sl i o l c false,.int .i64 (n:Nat)] H=some (.sl H.next 0 (l+n) (l+n) true,H')/\HX H H'/\H'.next=H.next+1/\Row H' H.next false true e z ((row.drop o).take (l*z) ++ (Ce.repC zv.cells n).l):=by
 obtain ⟨cc,h2,rfl⟩:=hr;obtain ⟨old,h3,h4⟩:=Ce.sub_ex (c:=cc) (o:=o) (n:=l*z) hl;have hnb:n*b<=140737488355328:=qx2 (qd2 b (Nat.le_add_left n l)) hbb;refine ⟨H.new (.cells (Ce.app old (Ce.repC zv.cells n)) e z true false),?_,HX.new _ _,rfl,?_⟩
 ·show (match L.under t' with
   |some (.slice _)=>zxc L t (.sl i o l c false) (.int .i64 (n:Nat)) H
   |some .string=>zxc L t (.sl i o l c false) (.int .i64 (n:Nat)) H
   |some (.int _)=>zle L t (.sl i o l c false) (.int .i64 (n:Nat)) H
   |_=>none)=_
  rw [ht'];show zle L t (.sl i o l c false) (.int .i64 (.ofNat n)) H=_
  unfold zle;rw [ht];simp only [hz,hb,hzv];rw [show (Nat.beq z 0 || !Nat.beq (len zv.cells) z)=false from by
   rw [zxe,hzl,qt2];cases z with
   |zero=>omega
   |succ z=>rfl]
  rw [show Nat.ble (n*b) 140737488355328=true from qe hnb,show Nat.ble n 9223372036854775807=true from qe oM]
  simp only [qr2,hone];unfold znl;simp only;rw [show Nat.ble (l+n) c=false from by cases h:Nat.ble (l+n) c with|false=>rfl|true=>have:=qe1 h;omega]
  simp only;rw [show Nat.ble ((l+n)*b) 140737488355328=true from qe hbb,show Nat.ble (l+n) 9223372036854775807=true from qe hm]
  have:H.subC i o (l*z)=some old:=by unfold AH.subC;rw [h2];exact h3
  rw [this];rfl
 ·have:=Row.new hh (Ce.app old (Ce.repC zv.cells n)) e z true false
  rwa [Ce.app_l,h4] at this
theorem uR:lookI.under 49=some (.slice 84):=kR
theorem uN:lookI.under 3=some (.int .i64):=kR
theorem zR:lookI.size 84=some 44:=kR
theorem bR:lookI.bytes 84=some 152:=kR
abbrev zv:AV:=match lookI.zero 84 with|some v=>v|none=>.undef
theorem zvR:lookI.zero 84=some zv:=kR
theorem zlR:zv.cells.length=44:=kR
theorem zoR:zv.cells.all AV.oneCell=true:=kR
theorem rep_one (n:Nat):(Ce.repC zv.cells n).one=true:=by
 unfold Ce.repC;split
 ·rfl
 ·show (rep zv.cells n).all AV.oneCell=true
  induction n with
  |zero=>rfl
  |succ n ih=>rw [zyj,qo7,zoR,ih];rfl
theorem ln (i o n c:Nat) (op:Bool) (H:AH):fstO (zda .len lookI [49] [.sl i o n c op] H)=some (.int .i64 (n:Nat)):=kR
theorem cp (i n:Nat) (H:AH) (c:Nat):fstO (zda .cap lookI [49] [.sl i 0 n c false] H)=some (.int .i64 ((c:Nat):Int)):=kR
theorem zan1 {c l o z:Nat}(h:l<c):offOf c l o z=o+l*z:=by
 unfold offOf;have:Nat.beq c l=false:=by
  cases hb:Nat.beq c l with
  |false=>rfl
  |true=>have:=qf hb;omega
 rw [this]
theorem sl_lo {L:Lk}{t e z:Nat}{i o n c:Nat}{op:Bool}{p:Nat}(ht:L.under t=some (.slice e)) (hz:L.size e=some z) (h0:p<=n) (h1:n<=c) (h2:p<c) :
  zua L t true false false [.sl i o n c op,.int .i64 (p:Nat)]=some (.sl i (o+p*z) (n - p) (c - p) op):=by
 show zgb L t (.sl i o n c op) (some (.int .i64 (.ofNat p))) none none=_
 unfold zgb;rw [ht];show (match L.size e with|none=>none|some z=>(match some n with
    |none=>none
    |some h=>match Nat.ble p h && Nat.ble h c with
      |true=>(match op with
       |false=>some (AV.sl i (offOf c p o z) (h - p) (c - p) false)
       |true=>match Nat.beq c p with
        |true=>(match Nat.beq o 0 with|true=>some (.ext 1 i (c*z+1))|false=>none)
        |false=>some (AV.sl i (o+p*z) (h - p) (c - p) true))
      |false=>none))=_
 rw [hz];simp only;rw [show Nat.ble p n=true from qe h0,show Nat.ble n c=true from qe h1]
 have hb:Nat.beq c p=false:=by
  cases hb:Nat.beq c p with
  |false=>rfl
  |true=>have:=qf hb;omega
 cases op with
 |false=>simp only [qr2,zan1 h2]
 |true=>simp only [qr2,hb]
theorem insA (H:AH) (b n p j q c2:Nat) (op2:Bool) (l:List AV) (cv:Ce) (hp:p<n) (hl:l.length=n*44) (hn:(n+1)*152<=140737488355328) (hr:Row H b false false 84 44 l) (hb:b<H.next) (hv:H.subC j q 44=some cv) (hcl:cv.l.length=44) (hone:cv.one=true) (hj:j<H.next) (hone2:l.all AV.oneCell=true) (hlo:H.lo<=H.next) (hh:H.hide= []) :
  FnE lookI 175 [.sl b 0 n n false,.int .i64 (p:Nat),.sl j q 1 c2 op2] H fun r H'=>r= .sl H.next 0 (n+1) (n+1) true/\Row H' H.next false true 84 44 (l.take (p*44) ++ cv.l ++ l.drop (p*44))/\HX H H'/\H'.next=H.next+1:=by
 refine zuc zwt noextI rfl ?_;unfold f175c;obtain ⟨H1,ha,hx1,hn1,hr1⟩:=app_z (L:=lookI) (t:=49) (t':=3) (H:=H) (i:=b) (o:=0) (l:=p) (c:=n) (n:=n+1 - p) uR uN zR bR zvR zlR dC hr (by rw [hl];omega) oM (by rw [show p+(n+1 - p)=n+1 from oM];exact hn) oM (rep_one _) hh
 rw [show p+(n+1 - p)=n+1 from oM] at ha
 have hcast:((n+1 - p:Nat):Int)=(n:Int)+1 - (p:Int):=oM
 rw [hcast] at ha;have hx01:H.next<H1.next:=oM
 have hh1:H1.hide= []:=hx1.hide.trans hh;have hA:(l.take (p*44)).length=p*44:=by rw [qa1,hl];omega
 obtain ⟨zs,hzs,hzl⟩:∃zs,zs=(Ce.repC zv.cells (n+1 - p)).l/\zs.length=(n+1 - p)*44:=⟨_,rfl,by rw [Ce.repC_l,zqd,zlR]⟩
 rw [← hzs,qd3] at hr1;have min1:minN 1 (n+1 - p)=1:=by unfold minN;rw [show Nat.ble 1 (n+1 - p)=true from qe oM]
 have hsv:zib 44 (.sl j q 1 c2 op2) (minN 1 (n+1 - p)) H1=some cv:=by
  rw [min1];show AH.subC H1 j q (1*44)=_
  rw [qm6,← hv];unfold AH.subC;rw [hx1.get hj]
 obtain ⟨H2,hc1,hr2,hp2,hn2⟩:=zje1 (L:=lookI) (ts:= []) (t:=49) (t':=49) (e:=84) (H:=H1) (i:=H.next) (o:=p*44) (n:=n+1 - p) (c:=n+1 - p) (op:=true) (x:=.sl j q 1 c2 op2) (m:=1) (new:=cv) uR zR rfl hsv hr1 hh1 (by rw [hx1.lo];exact hlo) hone (by rw [qr,hA,hzl,hcl];omega)
 have er2:(l.take (p*44) ++ zs).take (p*44) ++ cv.l ++ (l.take (p*44) ++ zs).drop (p*44+cv.l.length)=l.take (p*44) ++ cv.l ++ zs.drop 44:=by
  rw [qo3 oM,qx oM,List.drop_append,qq5 oM,hA,hcl]
  simp
 rw [er2] at hr2;have hh2:H2.hide= []:=hp2.hide.trans hh1;have hrb:Row H2 b false false 84 44 l:=(hr.hx hx1 hb).hp hp2 oM oM
 obtain ⟨nw,hs2,hnl⟩:=zzq (z:=44) (i:=b) (o:=p*44) (n:=n - p) (m:=n - p) (c:=n - p) (op:=false) hrb (by rw [hl];omega)
 have hnl:nw.l=l.drop (p*44):=by
  rw [hnl,qx];rw [qb2,hl];omega
 have hnll:nw.l.length=(n - p)*44:=by rw [hnl,qb2,hl];omega
 have one2:nw.one=true:=by
  cases nw with
  |lst x =>
   have hx:x=l.drop (p*44):=hnl;show x.all AV.oneCell=true
   rw [hx,qb1];exact fun v hv=>qb1.1 hone2 v (qt3 hv)
  |byt n N=>rfl
 have min2:minN (n - p) (n+1 - (p+1))=n - p:=by unfold minN;rw [show Nat.ble (n - p) (n+1 - (p+1))=true from qe oM]
 obtain ⟨H3,hc2,hr3,hp3,hn3⟩:=zje1 (L:=lookI) (ts:= []) (t:=49) (t':=49) (e:=84) (H:=H2) (i:=H.next) (o:=(p+1)*44) (n:=n+1 - (p+1)) (c:=n+1 - (p+1)) (op:=true) (x:=.sl b (p*44) (n - p) (n - p) false) (m:=n - p) (new:=nw) uR zR rfl (by rw [min2];exact hs2) hr2 hh2 (by rw [hp2.lo,hx1.lo];exact hlo) one2 (by rw [qr,qr,hA,qb2,hzl,hcl,hnll];omega)
 have er3:(l.take (p*44) ++ cv.l ++ zs.drop 44).take ((p+1)*44) ++ nw.l ++ (l.take (p*44) ++ cv.l ++ zs.drop 44).drop ((p+1)*44+nw.l.length)=l.take (p*44) ++ cv.l ++ l.drop (p*44):=by
  have h1:(l.take (p*44) ++ cv.l).length=(p+1)*44:=by rw [qr,hA,hcl];omega
  rw [qo3 oM,qx oM,qq5 (by rw [qr,h1,qb2,hzl,hnll];omega),hnl,qw1]
 rw [er3] at hr3;have hx3:HX H H3:=(((hx1.hp fun _=>True).trans hp2 (r:=fun _=>True) fun i hi _=>⟨trivial,oM⟩).trans hp3 (r:=fun _=>True) fun i hi _=>⟨trivial,oM⟩).hx fun _ _=>trivial
 have qc:=fun H'=>cp b n H' n
 have ql:=ln;have q1:zua lookI 49 true false false [.sl b 0 n n false,.int .i64 (p:Nat)]=some (.sl b (p*44) (n - p) (n - p) false):=by
  rw [sl_lo uR zR oM (qn _) hp,qy1]
 have q2:zua lookI 49 false true false [.sl b 0 n n false,.int .i64 (p:Nat)]=some (.sl b 0 p n false):=by
  rw [sl_hi uR zR oM oM];rfl
 have q3:zua lookI 49 true false false [.sl H.next 0 (n+1) (n+1) true,.int .i64 (p:Nat)]=some (.sl H.next (p*44) (n+1 - p) (n+1 - p) true):=by
  rw [sl_lo uR zR oM (qn _) oM,qy1]
 have q4:zua lookI 49 true false false [.sl H.next 0 (n+1) (n+1) true,.int .i64 ((p:Int)+((1:Nat):Int))]=some (.sl H.next ((p+1)*44) (n+1 - (p+1)) (n+1 - (p+1)) true):=by
  have:= @sl_lo lookI 49 84 44 H.next 0 (n+1) (n+1) true (p+1) uR zR oM (qn _) oM
  rw [qy1] at this;exact this
 (repeat' (first|refine Z ?_|refine Zq ?_|refine rn_blk_x dC ?_|((first|refine' Y ?_ ?_|refine' X ?_ ?_ ?_);rotate_left;(·(first|(simp (disch:=omega) only [evl,Nat.reduceEqDiff,Nat.reduceAdd,reduceIte,reduceCtorEq,qc,ql,q1,q2,q3,q4]<;>exact rfl)|exact rfl));all_goals try (refine fun (hb:_=_)=> ?_;try simp only [Zu,ne_eq,reduceCtorEq] at hb))|(apply zbj;·simp [evl])))
 refine rk_hn (by (simp (disch:=omega) only [evl,Nat.reduceEqDiff,Nat.reduceAdd,reduceIte,reduceCtorEq]);exact ha) ?_
 simp only [zil]
 (repeat' (first|refine Z ?_|refine Zq ?_|refine rn_blk_x dC ?_|((first|refine' Y ?_ ?_|refine' X ?_ ?_ ?_);rotate_left;(·(first|(simp (disch:=omega) only [evl,Nat.reduceEqDiff,Nat.reduceAdd,reduceIte,reduceCtorEq,qc,ql,q1,q2,q3,q4]<;>exact rfl)|exact rfl));all_goals try (refine fun (hb:_=_)=> ?_;try simp only [Zu,ne_eq,reduceCtorEq] at hb))|(apply zbj;·simp [evl])))
 refine rk_hn (by (simp (disch:=omega) only [evl,Nat.reduceEqDiff,Nat.reduceAdd,reduceIte,reduceCtorEq]);exact hc1) ?_
 simp only [zil]
 (repeat' (first|refine Z ?_|refine Zq ?_|refine rn_blk_x dC ?_|((first|refine' Y ?_ ?_|refine' X ?_ ?_ ?_);rotate_left;(·(first|(simp (disch:=omega) only [evl,Nat.reduceEqDiff,Nat.reduceAdd,reduceIte,reduceCtorEq,qc,ql,q1,q2,q3,q4]<;>exact rfl)|exact rfl));all_goals try (refine fun (hb:_=_)=> ?_;try simp only [Zu,ne_eq,reduceCtorEq] at hb))|(apply zbj;·simp [evl])))
 refine rk_hn (by (simp (disch:=omega) only [evl,Nat.reduceEqDiff,Nat.reduceAdd,reduceIte,reduceCtorEq]);exact hc2) ?_
 simp only [zil]
 (repeat' (first|refine Z ?_|refine Zq ?_|refine rn_blk_x dC ?_|((first|refine' Y ?_ ?_|refine' X ?_ ?_ ?_);rotate_left;(·(first|(simp (disch:=omega) only [evl,Nat.reduceEqDiff,Nat.reduceAdd,reduceIte,reduceCtorEq]<;>exact rfl)|exact rfl));all_goals try (refine fun (hb:_=_)=> ?_;try simp only [Zu,ne_eq,reduceCtorEq] at hb))|(apply zbj;·simp [evl])))
 refine zjm1 ?_;refine zhw (zgw _ _) ⟨?_,hr3,hx3,oM⟩
 (simp (disch:=omega) only [evl,Nat.reduceEqDiff,Nat.reduceAdd,reduceIte,reduceCtorEq])
theorem ovF (H:AH) (i o n c j p m d:Nat) (op oq:Bool){ci cj:Ce}{ei ej zi zj:Nat}{opi opj:Bool}(hij:i≠j) (hi:H.get i=some (.cells ci ei zi opi false)) (hj:H.get j=some (.cells cj ej zj opj false)) (hz:zi≠1) (ho:o<ci.l.length) (hl:0<cj.l.length) :
  FnE lookI 187 [.sl i o n c op,.sl j p m d oq] H fun r H'=>r= .bool false/\H'=H:=by
 refine zaj (show lookI.ext 187=some xOver from rfl) ?_
 have h1:Nat.beq i j=false:=by
  cases hb:Nat.beq i j with
  |false=>rfl
  |true=>exact absurd (qf hb) hij
 have h2:Nat.beq zi 1=false:=by
  cases hb:Nat.beq zi 1 with
  |false=>rfl
  |true=>exact absurd (qf hb) hz
 show (match Nat.beq i j,H.get i,H.get j with
  |false,some (.cells ci _ zi _ false),some (.cells cj _ _ _ false)=>(match Nat.beq zi 1,Nat.blt o ci.len,Nat.blt 0 cj.len with
   |false,true,true=>some (AV.bool false,H)
   |_,_,_=>none)
  |_,_,_=>none)=_
 rw [h1,hi,hj];simp only;rw [h2,show Nat.blt o ci.len=true from by rw [qt4,Ce.len_l];exact ho,show Nat.blt 0 cj.len=true from by rw [qt4,Ce.len_l];exact hl]
theorem insB (H:AH) (b n p x j q c2:Nat) (op2:Bool) (l rs:List AV) (cv cj:Ce) (ej zj:Nat) (opj:Bool) (hp:p<n) (hx:0<x) (hl:l.length=n*44) (hrs:rs.length=x*44) (hbig:n<=1000000) (hr:Row H b false false 84 44 (l ++ rs)) (hv:H.subC j q 44=some cv) (hcl:cv.l.length=44) (hone:cv.one=true) (hjg:H.get j=some (.cells cj ej zj opj false)) (hjz:zj≠1) (hq:q<cj.l.length) (hjb:j≠b) (hbn:b<H.next) (hjn:j<H.next) (hone2:l.all AV.oneCell=true) (hlo:H.lo<=b) (hh:H.hide= []) :
  FnE lookI 175 [.sl b 0 n (n+x) false,.int .i64 (p:Nat),.sl j q 1 c2 op2] H fun r H'=>r= .sl b 0 (n+1) (n+x) false/\Row H' b false false 84 44 (l.take (p*44) ++ cv.l ++ l.drop (p*44) ++ rs.drop 44)/\HP (·≠ b) H H'/\H'.next=H.next:=by
 refine zuc zwt noextI rfl ?_;unfold f175c;have hA:(l.take (p*44)).length=p*44:=by rw [qa1,hl];omega
 have hD:(l.drop (p*44)).length=(n - p)*44:=by rw [qb2,hl];omega
 have min2:minN (n+1 - p) (n+1 - (p+1))=n - p:=by
  unfold minN;split
  ·next h=>have:=qe1 h;omega
  ·omega
 obtain ⟨nw,hs2,hnl⟩:=zzq (z:=44) (i:=b) (o:=p*44) (n:=n - p) (m:=n+1 - p) (c:=n+x - p) (op:=false) hr (by rw [qr,hl,hrs];omega)
 have hnl:nw.l=l.drop (p*44):=by
  rw [hnl,qe6 oM,qo3 oM,qx oM]
 have hnll:nw.l.length=(n - p)*44:=by rw [hnl,hD]
 have one2:nw.one=true:=by
  cases nw with
  |lst y =>
   have hy:y=l.drop (p*44):=hnl;show y.all AV.oneCell=true
   rw [hy,qb1];exact fun v hv=>qb1.1 hone2 v (qt3 hv)
  |byt n N=>rfl
 obtain ⟨H2,hc1,hr2,hp2,hn2⟩:=zje1 (L:=lookI) (ts:= []) (t:=49) (t':=49) (e:=84) (H:=H) (i:=b) (o:=(p+1)*44) (n:=n+1 - (p+1)) (c:=n+x - (p+1)) (op:=false) (x:=.sl b (p*44) (n+1 - p) (n+x - p) false) (m:=n+1 - p) (new:=nw) uR zR rfl (by rw [min2];exact hs2) hr hh hlo one2 (by rw [qr,hl,hrs,hnll];omega)
 have hh2:H2.hide= []:=hp2.hide.trans hh;have hT:((l ++ rs).take ((p+1)*44)).length=(p+1)*44:=by rw [qa1,qr,hl,hrs];omega
 have min1:minN 1 (n+1 - p)=1:=by unfold minN;rw [show Nat.ble 1 (n+1 - p)=true from qe oM]
 have hsv:zib 44 (.sl j q 1 c2 op2) (minN 1 (n+1 - p)) H2=some cv:=by
  rw [min1];show AH.subC H2 j q (1*44)=_
  rw [qm6,← hv];unfold AH.subC;rw [hp2.get hjn hjb]
 obtain ⟨H3,hc2,hr3,hp3,hn3⟩:=zje1 (L:=lookI) (ts:= []) (t:=49) (t':=49) (e:=84) (H:=H2) (i:=b) (o:=p*44) (n:=n+1 - p) (c:=n+x - p) (op:=false) (x:=.sl j q 1 c2 op2) (m:=1) (new:=cv) uR zR rfl hsv hr2 hh2 (by rw [hp2.lo];exact hlo) hone (by rw [qr,qr,hT,hnll,hcl];omega)
 have er:((l ++ rs).take ((p+1)*44) ++ nw.l ++ (l ++ rs).drop ((p+1)*44+nw.l.length)).take (p*44) ++ cv.l ++ ((l ++ rs).take ((p+1)*44) ++ nw.l ++ (l ++ rs).drop ((p+1)*44+nw.l.length)).drop (p*44+cv.l.length)=l.take (p*44) ++ cv.l ++ l.drop (p*44) ++ rs.drop 44:=by
  have e1:((l ++ rs).take ((p+1)*44) ++ nw.l ++ (l ++ rs).drop ((p+1)*44+nw.l.length)).take (p*44)=l.take (p*44):=by
   rw [qi1,qo3 oM,qh5,qv3 oM,qo3 oM]
  have e2:((l ++ rs).take ((p+1)*44) ++ nw.l ++ (l ++ rs).drop ((p+1)*44+nw.l.length)).drop (p*44+cv.l.length)=l.drop (p*44) ++ rs.drop 44:=by
   rw [hcl,show p*44+44=(p+1)*44 from oM,qi1,qe6 oM,qq5 oM,qm1,hnl,hD]
   congr 1
   rw [List.drop_append,qq5 oM,qm1]
   congr 1
   omega
  rw [e1,e2,qi1];simp [qi1]
 rw [er] at hr3;obtain ⟨cb,hbg,hbl⟩:=hr;have hov:=ovF H j q 1 c2 b ((p+1)*44) (n+1 - (p+1)) (n+x - (p+1)) op2 false hjb hjg hbg hjz hq (by rw [hbl,qr,hl];omega)
 have qc:=fun H'=>cp b n H' (n+x)
 have ql:=ln;have q1:zua lookI 49 true false false [.sl b 0 n (n+x) false,.int .i64 (p:Nat)]=some (.sl b (p*44) (n - p) (n+x - p) false):=by
  rw [sl_lo uR zR oM oM oM,qy1]
 have q5:zua lookI 49 false true false [.sl b 0 n (n+x) false,.int .i64 ((n:Int)+((1:Nat):Int))]=some (.sl b 0 (n+1) (n+x) false):=by
  rw [sl_hi uR zR oM oM];rfl
 have q6:zua lookI 49 true false false [.sl b 0 (n+1) (n+x) false,.int .i64 ((p:Int)+((1:Nat):Int))]=some (.sl b ((p+1)*44) (n+1 - (p+1)) (n+x - (p+1)) false):=by
  have:= @sl_lo lookI 49 84 44 b 0 (n+1) (n+x) false (p+1) uR zR oM oM oM
  rw [qy1] at this;exact this
 have q7:zua lookI 49 true false false [.sl b 0 (n+1) (n+x) false,.int .i64 (p:Nat)]=some (.sl b (p*44) (n+1 - p) (n+x - p) false):=by
  rw [sl_lo uR zR oM oM oM,qy1]
 (repeat' (first|refine Z ?_|refine Zq ?_|refine rn_blk_x dC ?_|((first|refine' Y ?_ ?_|refine' X ?_ ?_ ?_);rotate_left;(·(first|(simp (disch:=omega) only [evl,Nat.reduceEqDiff,Nat.reduceAdd,reduceIte,reduceCtorEq,qc,ql,q1,q5,q6,q7]<;>exact rfl)|exact rfl));all_goals try (refine fun (hb:_=_)=> ?_;try simp only [Zu,ne_eq,reduceCtorEq] at hb))|(apply zbj;·simp [evl])))
 refine rk_cl (by (simp (disch:=omega) only [evl,Nat.reduceEqDiff,Nat.reduceAdd,reduceIte,reduceCtorEq]);exact hov) ?_
 rintro r H1 ⟨rfl,rfl⟩;simp only [zil]
 (repeat' (first|refine Z ?_|refine Zq ?_|refine rn_blk_x dC ?_|((first|refine' Y ?_ ?_|refine' X ?_ ?_ ?_);rotate_left;(·(first|(simp (disch:=omega) only [evl,Nat.reduceEqDiff,Nat.reduceAdd,reduceIte,reduceCtorEq,qc,ql,q1,q5,q6,q7]<;>exact rfl)|exact rfl));all_goals try (refine fun (hb:_=_)=> ?_;try simp only [Zu,ne_eq,reduceCtorEq] at hb))|(apply zbj;·simp [evl])))
 refine rk_hn (by (simp (disch:=omega) only [evl,Nat.reduceEqDiff,Nat.reduceAdd,reduceIte,reduceCtorEq]);exact hc1) ?_
 simp only [zil]
 (repeat' (first|refine Z ?_|refine Zq ?_|refine rn_blk_x dC ?_|((first|refine' Y ?_ ?_|refine' X ?_ ?_ ?_);rotate_left;(·(first|(simp (disch:=omega) only [evl,Nat.reduceEqDiff,Nat.reduceAdd,reduceIte,reduceCtorEq,qc,ql,q1,q5,q6,q7]<;>exact rfl)|exact rfl));all_goals try (refine fun (hb:_=_)=> ?_;try simp only [Zu,ne_eq,reduceCtorEq] at hb))|(apply zbj;·simp [evl])))
 refine rk_hn (by (simp (disch:=omega) only [evl,Nat.reduceEqDiff,Nat.reduceAdd,reduceIte,reduceCtorEq]);exact hc2) ?_
 simp only [zil]
 (repeat' (first|refine Z ?_|refine Zq ?_|refine rn_blk_x dC ?_|((first|refine' Y ?_ ?_|refine' X ?_ ?_ ?_);rotate_left;(·(first|(simp (disch:=omega) only [evl,Nat.reduceEqDiff,Nat.reduceAdd,reduceIte,reduceCtorEq]<;>exact rfl)|exact rfl));all_goals try (refine fun (hb:_=_)=> ?_;try simp only [Zu,ne_eq,reduceCtorEq] at hb))|(apply zbj;·simp [evl])))
 refine zjm1 ?_;refine zhw (zgw _ _) ⟨?_,hr3,hp2.trans hp3 fun _ _ h=>⟨h,h⟩,oM⟩
 (simp (disch:=omega) only [evl,Nat.reduceEqDiff,Nat.reduceAdd,reduceIte,reduceCtorEq])
end HS.Ins
end
