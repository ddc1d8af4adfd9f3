/-
  PROVED HERE: the function ModelScript of package caulkerlaw30, called with any orders, answers true and leaves them as they were.
-/
import Derived.Test.YtmdkejaglfokaaaGreatWAAG
import Derived.Test.YtmdkejaglfokaaaGreatWAAL
import Derived.Test.YtmdkejaglfokaaaGreatChecked
import Derived.Test.YtmdkejaglfokaaaGreatRows
import Derived.KernelRfl
set_option maxHeartbeats 8000000
set_option linter.unusedSimpArgs false
set_option linter.unusedVariables false
namespace Go.Proofs.YtmdkejaglfokaaaGreat
open Go.ChangeShapes Go.WideShapes Go.ChangeAt Go.RowKit
open Go.Ev HS HS.Md Go.Deep
open Go.ChangeMaps (open_string shut_string)
theorem zxg1 {P:Program}{w:World}{base t e:Nat}{v:Value}(hu:P.underlying t=some (.slice e)) (h:Value.okWide P w .any base t v):∃a l c,v= .slice a l c:=by
 unfold Value.okWide at h;rw [hu] at h;simp only at h;unfold Cell.okWide at h;rw [hu] at h;have h:Cell.ok P w .any base t v:=by cases v<;>exact h
 unfold Cell.ok at h;rw [hu] at h;cases v<;>first|exact h.elim|exact ⟨_,_,_,rfl⟩
namespace modelScript
theorem own:ownKnob Tryz.prog.godebug=none:=kR
theorem laidOut:laidOutB Tryz.prog=true:=kR
theorem hasB:(match lookM.func 3 with|some fn=>fn.body.isSome|none=>false)=true:=kR
set_option maxRecDepth 100000 in
theorem lifted (os:Os) (started:os.Started) (H:Type) (enc:TypeId×Value->H) :
  ReturnsInHanded {} Tryz.checked os 3 .any (Rows.modelScriptSpec.pre6 enc Tryz.prog Tryz.f3 Rows.modelScriptRow.domain false) (Rows.modelScriptSpec.post enc Tryz.prog Tryz.f3 false true false false):=by
 refine returnsInHanded_of_change (C:=Tryz.checked) own started kR Tryz.func3
  (ChangeSpec.witness6 (enc:=enc) (C:=Tryz.checked) false ⟨#[],#[.slice none 0 0], []⟩ 8 kR kR kR kR) ?_
 intro W base args ds gs before hval0 hW hcnd _;have hval:∀(j:Nat) t v,Tryz.f3.params[j]? =some t->args[j]? =some v->Value.okWide Tryz.prog W .any base t v:=hval0
 have hW':=hW;obtain ⟨p,q,hA0,hV,rfl,hfz,hnd⟩:=hW;have hAll:DataW.TrodAll enc Tryz.prog W 0 (fun _=>true) true Tryz.f3.params.toList args.toList ds p:=hA0
 rw [Tryz.params3] at hAll hval;obtain ⟨v0,vs0,d0,ds0,p0,q0,hargs,rfl,rfl,h0,r0⟩:=trodAll_cons hAll;obtain ⟨rfl,rfl,rfl⟩:=trodAll_nil r0;obtain rfl:args= #[v0]:=by cases args;simp_all
 obtain ⟨rfl,rfl⟩:=trodVars_none hV;have k0:=h0;have lt0:∀x∈p0,x.block<W.heap.size:=by obtain ⟨m,hm⟩:=k0;exact DataW.trod_lt m _ _ _ hm
 have hv0:=hval 0 22 v0 rfl rfl;obtain ⟨l,bs,v,hll,hI⟩:∃(l:List Ot) (bs:List (ABlk×EB)) (v:AV),l.length<=maxLen/\InsS W v0 l bs v:=by
  obtain ⟨ax,lx,cx,rfl⟩:=zxg1 Tryz.underlying22 hv0;obtain ⟨fuel,hf⟩:=h0;rcases Go.Deep.open_slice Tryz.underlying22 hf with ⟨hcs,_⟩|⟨a,len,cap,m,n',D,Pl,hcs,_,hl,hm,hmm,_,hx⟩
  ·have hcs:[Value.slice ax lx cx]= [.slice none 0 0]:=hcs
   cases hcs
   exact ⟨[], [],.nilSl,qo2 _,⟨⟨⟨⟨rfl,.inl ⟨rfl,rfl⟩⟩,fun p hp=>by cases hp⟩,fun p hp=>by cases hp⟩,fun p hp=>(by cases hp),fun b hb=>(by cases hb),fun k b hk=>(by cases hk),fun E hE=>rfl⟩⟩
  ·have hcs:[Value.slice ax lx cx]= [.slice (some a) len cap]:=hcs
   injection hcs with hcs _
   injection hcs with z1 z2 z3
   have z2:=z2.symm;have z3:=z3.symm;subst z1 z2 z3;obtain ⟨hsp,hblk⟩:=zme1 Tryz.underlying22 hv0;have hmm:m=cap:=by rw [hmm];rfl
   have hO:∀i,∃d,i<len->OA W a i d:=fun i=>by
    by_cases hi:i<len
    ·obtain ⟨cs',h2,h3⟩:=hx i oM
     rw [cellsO] at h2;obtain ⟨op,nm,to,n3,n4,c5,l5,c6,l6,e0,e1,e2,e3,e4,e5,r5,e6,r6⟩:=zqp1 h3;obtain ⟨d,hd⟩:=oa_of hsp h2 e0 e1 e2 e3 e4 e5 r5 e6 r6;exact ⟨d,fun _=>hd⟩
    ·exact ⟨⟨⟨0,ByteArray.empty,ByteArray.empty,0,0, [], []⟩,(.defd,⟨0,0,0⟩),.nilSl,(.defd,⟨0,0,0⟩),.nilSl⟩,fun h=>absurd h hi⟩
   obtain ⟨d,hd⟩:=Classical.axiomOfChoice hO;obtain ⟨l,bs,hlen,hI⟩:=ins_row (cap:=cap) hsp hblk hd;exact ⟨l,bs,_,oM,hI⟩
 clear hA0 hval0;obtain ⟨fn,hfn⟩:∃fn,lookM.func 3=some fn:=by
  have:=hasB;cases h:lookM.func 3 with
  |none=>rw [h] at this;cases this
  |some fn=>exact ⟨fn,rfl⟩
 obtain ⟨cd,hcd⟩:∃cd,fn.body=some cd:=Option.isSome_iff_exists.1 (by have:=hasB;rw [hfn] at this;exact this)
 haveI:HN (hA (bs.map Prod.fst)):=⟨rfl,qo2 _⟩;have hlaw:=lawE_ok hI.od hI.sv (by unfold maxLen at hll;omega)
 obtain ⟨v',H',rfl,n,hn⟩:=hlaw.h;have key:=zle1 (w:=W) zcn1 (fun B=>zye1 B) hfn hcd bs (args:= [v]) (us:= [v0]) (hn n (qn _)) rfl hI.own hI.br hI.val
 refine key.mono fun e W' ⟨he,bel⟩=> ?_
 subst he;exact ⟨_,rfl,_,_,_, [],_, [],hW',trodAll_mk1 (shut_bool Tryz.underlying4 _),(trodAll_cons_mk (Below.trod laidOut kR (qg kR) k0 bel lt0) trodAll_mk0),rfl,bel.frame _,fun h=>by cases h⟩
theorem over:Rows.modelScriptRow.holds Tryz.pinned (OpenSpec.ofChange Rows.modelScriptSpec) :=
 OpenClaim.holds_of_wide 3 Tryz.f3 rfl rfl rfl rfl rfl rfl rfl ⟨rfl,rfl,rfl,rfl,rfl⟩ rfl rfl rfl rfl rfl kR Tryz.func3 kR
  (qg kR) (by unfold Func.isWrapper;first|(rw [qi (by decide +kernel)];kernel_rfl)|(rw [qd (by decide +kernel)];exact ⟨rfl,rfl⟩))
  (fun os started H enc _=>lifted os started H enc)
theorem proved:Rows.ModelScriptSaid:=over
#print axioms proved
end modelScript
end Go.Proofs.YtmdkejaglfokaaaGreat
