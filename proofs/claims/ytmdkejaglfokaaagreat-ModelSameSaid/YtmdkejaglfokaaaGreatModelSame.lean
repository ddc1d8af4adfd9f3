/-
  PROVED HERE: the function ModelSame of package caulkerlaw30, called with any orders and any flags, answers true and leaves both as they were.
-/
import Derived.Test.YtmdkejaglfokaaaGreatVAAH
import Derived.Test.YtmdkejaglfokaaaGreatVAAN
import Derived.Test.YtmdkejaglfokaaaGreatChecked
import Derived.Test.YtmdkejaglfokaaaGreatRows
import Derived.KernelRfl
set_option maxHeartbeats 8000000
set_option linter.unusedSimpArgs false
set_option linter.unusedVariables false
namespace Go.Proofs.YtmdkejaglfokaaaGreat
open Go.ChangeShapes Go.WideShapes Go.ChangeAt Go.RowKit
open Go.Ev HS HS.Md Go.Deep
open Go.ChangeMaps (open_string shut_string)
theorem cellsBo:Tryz.prog.cellsOf 4=1:=kR
theorem arg_Bo (k:Nat){w:World}{x:Addr}{len cap:Nat}(hsp:x.spot=none) (hblk:∃cs e fz,w.heap[x.block]? =some (.cells cs e fz)) (hcell:∀i,i<len-> ∃b,w.cell? ⟨x.block,x.off+i,none⟩=some (.bool b)) :
  ∃(fl:Nat->Bool) (b:ABlk×EB) (v:AV),Arg w k (.slice (some x) len cap) (fun H v=>SlR H v len fun k=>.bool (fl k)) b v:=by
 let G:Nat->Bool:=fun i=>match w.cell? ⟨x.block,x.off+i,none⟩ with|some (.bool b)=>b|_=>false
 have hG:∀i,i<len->w.cell? ⟨x.block,x.off+i,none⟩=some (.bool (G i)):=fun i hi=>by
  obtain ⟨b,h1⟩:=hcell i hi;show w.cell? ⟨x.block,x.off+i,none⟩=some (.bool (match w.cell? ⟨x.block,x.off+i,none⟩ with|some (.bool b)=>b|_=>false))
  rw [h1]
 generalize G=G at hG;refine ⟨G,_,_,zkh1 k (e:=4) (z:=1) (l:=(List.range len).map fun i=>AV.bool (G i)) hsp hblk (fun E j v hj=> ?_) (fun H hk hr=> ?_)⟩
 ·by_cases hjl:j<len
  ·rw [qi1,qz4 hjl] at hj
   cases hj
   exact hG j hjl
  ·rw [qx1 (by simp;omega)] at hj;cases hj
 ·exact hr.slR (o:=0) (n:=len) (c:=cap) (op':=false) hk (qh2 _) fun i hi=>by
   rw [qu1,qi1,qz4 hi];rfl
theorem zwu {P:Program}{w:World}{base t e:Nat}{v:Value}(hu:P.underlying t=some (.slice e)) (h:Value.okWide P w .any base t v):∃a l c,v= .slice a l c:=by
 unfold Value.okWide at h;rw [hu] at h;simp only at h;unfold Cell.okWide at h;rw [hu] at h;have h:Cell.ok P w .any base t v:=by cases v<;>exact h
 unfold Cell.ok at h;rw [hu] at h;cases v<;>first|exact h.elim|exact ⟨_,_,_,rfl⟩
namespace modelSame
theorem own:ownKnob Tryz.prog.godebug=none:=kR
theorem zvj1:laidOutB Tryz.prog=true:=kR
theorem hasB:(match lookM.func 4 with|some fn=>fn.body.isSome|none=>false)=true:=kR
set_option maxRecDepth 100000 in
theorem lifted (os:Os) (started:os.Started) (H:Type) (enc:TypeId×Value->H) :
  ReturnsInHanded {} Tryz.checked os 4 .any (Rows.modelSameSpec.pre6 enc Tryz.prog Tryz.f4 Rows.modelSameRow.domain false) (Rows.modelSameSpec.post enc Tryz.prog Tryz.f4 false true false false):=by
 refine returnsInHanded_of_change (C:=Tryz.checked) own started kR Tryz.func4
  (ChangeSpec.witness6 (enc:=enc) (C:=Tryz.checked) false ⟨#[],#[.slice none 0 0,.slice none 0 0], []⟩ 8 kR kR kR kR) ?_
 intro W base args ds gs before hval0 hW hcnd _;have hval:∀(j:Nat) t v,Tryz.f4.params[j]? =some t->args[j]? =some v->Value.okWide Tryz.prog W .any base t v:=hval0
 have hW':=hW;obtain ⟨p,q,hA0,hV,rfl,hfz,hnd⟩:=hW;have hAll:DataW.TrodAll enc Tryz.prog W 0 (fun _=>true) true Tryz.f4.params.toList args.toList ds p:=hA0
 rw [Tryz.params4] at hAll hval;obtain ⟨v0,vs0,d0,ds0,p0,q0,hargs,rfl,rfl,h0,r0⟩:=trodAll_cons hAll;obtain ⟨v1,vs1,d1,ds1,p1,q1,rfl,rfl,rfl,h1,r1⟩:=trodAll_cons r0;obtain ⟨rfl,rfl,rfl⟩:=trodAll_nil r1;obtain rfl:args= #[v0,v1]:=by cases args;simp_all
 obtain ⟨rfl,rfl⟩:=trodVars_none hV;have k0:=h0;have k1:=h1;have lt0:∀x∈p0,x.block<W.heap.size:=by obtain ⟨m,hm⟩:=k0;exact DataW.trod_lt m _ _ _ hm
 have lt1:∀x∈p1,x.block<W.heap.size:=by obtain ⟨m,hm⟩:=k1;exact DataW.trod_lt m _ _ _ hm
 have hv0:=hval 0 22 v0 rfl rfl;have hv1:=hval 1 47 v1 rfl rfl;obtain ⟨nb,fl,fb,bv,hnb,gf⟩:∃(nb:Nat) (fl:Nat->Bool) (b:ABlk×EB) (v:AV),nb<=maxLen/\Arg W 1 v1 (fun H v=>SlR H v nb fun k=>.bool (fl k)) b v:=by
  obtain ⟨ax,lx,cx,rfl⟩:=zwu Tryz.underlying47 hv1;obtain ⟨fuel,hf⟩:=h1;rcases Go.Deep.open_slice Tryz.underlying47 hf with ⟨hcs,_⟩|⟨a,len,cap,m,n',D,Pl,hcs,_,hl,hm,hmm,_,hx⟩
  ·have hcs:[Value.slice ax lx cx]= [.slice none 0 0]:=hcs
   cases hcs
   exact ⟨0,fun _=>false,_,_,qh2 _,zuy W 1 fun H=>⟨.inl ⟨rfl,rfl⟩,fun k hk=>by simp at hk⟩⟩
  ·have hcs:[Value.slice ax lx cx]= [.slice (some a) len cap]:=hcs
   injection hcs with hcs _
   injection hcs with z1 z2 z3
   have z2:=z2.symm;have z3:=z3.symm;subst z1 z2 z3;obtain ⟨hsp,hblk⟩:=znt Tryz.underlying47 hv1;have hmm:m=cap:=by rw [hmm];rfl
   obtain ⟨fl,b,v,h⟩:=arg_Bo 1 (w:=W) (x:=a) (len:=len) (cap:=cap) hsp hblk fun i hi=>by
    obtain ⟨cs',h2,h3⟩:=hx i oM
    obtain ⟨bb,rfl,_⟩:=DataW.trod_bool Tryz.underlying4 h3;rw [cellsBo] at h2;obtain ⟨_,_,h4⟩:=World.cells?_some h2;have:=h4 0 dC
    rw [zxk hsp,zxk rfl] at this;simp only [qx4,qk4] at this;exact ⟨bb,this⟩
   exact ⟨len,fl,b,v,oM,h⟩
 obtain ⟨l,bs,v,hll,hI⟩:∃(l:List Ot) (bs:List (ABlk×EB)) (v:AV),l.length<=maxLen/\Ins W v0 v1 l bs v bv nb fl:=by
  obtain ⟨ax,lx,cx,rfl⟩:=zwu Tryz.underlying22 hv0;obtain ⟨fuel,hf⟩:=h0;rcases Go.Deep.open_slice Tryz.underlying22 hf with ⟨hcs,_⟩|⟨a,len,cap,m,n',D,Pl,hcs,_,hl,hm,hmm,_,hx⟩
  ·have hcs:[Value.slice ax lx cx]= [.slice none 0 0]:=hcs
   cases hcs
   refine ⟨[], [(.defd,⟨0,0,0⟩),fb],.nilSl,qh2 _,⟨⟨⟨⟨rfl,.inl ⟨rfl,rfl⟩⟩,fun p hp=>by cases hp⟩,fun p hp=>by cases hp⟩,gf.rd _ rfl,fun b hb=> ?_,fun k b hk E hE=> ?_,fun E hE=> ?_⟩⟩
   ·simp only [qe1,qv4,qk6] at hb
    rcases hb with rfl|rfl
    ·rfl
    ·exact gf.own
   ·match k,hk with
    |0,hk=>(cases hk;trivial)
    |1,hk=>(cases hk;exact gf.br E (hE 1 _ rfl))
    |k+2,hk=>(exact absurd hk (by simp))
   ·show [Value.slice none 0 0,conc E bv]=_
    rw [gf.val E (hE 1 _ rfl)]
  ·have hcs:[Value.slice ax lx cx]= [.slice (some a) len cap]:=hcs
   injection hcs with hcs _
   injection hcs with z1 z2 z3
   have z2:=z2.symm;have z3:=z3.symm;subst z1 z2 z3;obtain ⟨hsp,hblk⟩:=znt Tryz.underlying22 hv0;have hmm:m=cap:=by rw [hmm];rfl
   have hO:∀i,∃d,i<len->OA W a i d:=fun i=>by
    by_cases hi:i<len
    ·obtain ⟨cs',h2,h3⟩:=hx i oM
     rw [cellsO] at h2;obtain ⟨op,nm,to,n3,n4,c5,l5,c6,l6,e0,e1,e2,e3,e4,e5,r5,e6,r6⟩:=zbp1 h3;obtain ⟨d,hd⟩:=oa_of hsp h2 e0 e1 e2 e3 e4 e5 r5 e6 r6;exact ⟨d,fun _=>hd⟩
    ·exact ⟨⟨⟨0,ByteArray.empty,ByteArray.empty,0,0, [], []⟩,fb,.nilSl,fb,.nilSl⟩,fun h=>absurd h hi⟩
   obtain ⟨d,hd⟩:=Classical.axiomOfChoice hO;obtain ⟨l,bs,hlen,hI⟩:=ins_row (cap:=cap) hsp hblk hd gf;exact ⟨l,bs,_,oM,hI⟩
 clear hA0 hval0;obtain ⟨fn,hfn⟩:∃fn,lookM.func 4=some fn:=by
  have:=hasB;cases h:lookM.func 4 with
  |none=>rw [h] at this;cases this
  |some fn=>exact ⟨fn,rfl⟩
 obtain ⟨cd,hcd⟩:∃cd,fn.body=some cd:=Option.isSome_iff_exists.1 (by have:=hasB;rw [hfn] at this;exact this)
 haveI:HN (hA (bs.map Prod.fst)):=⟨rfl,qh2 _⟩;have hlaw:=law_ok hI.od hI.bo (by unfold maxLen at hll;omega) (by unfold maxLen at hnb;omega)
 obtain ⟨v',H',rfl,n,hn⟩:=hlaw.h;have key:=zje1 (w:=W) znm1 (fun B=>zye1 B) hfn hcd bs (args:= [v,bv]) (us:= [v0,v1]) (hn n (qn _)) rfl hI.own hI.br hI.val
 refine key.mono fun e W' ⟨he,bel⟩=> ?_
 subst he;exact ⟨_,rfl,_,_,_, [],_, [],hW',trodAll_mk1 (shut_bool Tryz.underlying4 _),(trodAll_cons_mk (Below.trod zvj1 kR (qe kR) k0 bel lt0) (trodAll_cons_mk (Below.trod zvj1 kR (qe kR) k1 bel lt1) trodAll_mk0)),rfl,bel.frame _,fun h=>by cases h⟩
theorem over:Rows.modelSameRow.holds Tryz.pinned (OpenSpec.ofChange Rows.modelSameSpec) :=
 OpenClaim.holds_of_wide 4 Tryz.f4 rfl rfl rfl rfl rfl rfl rfl ⟨rfl,rfl,rfl,rfl,rfl⟩ rfl rfl rfl rfl rfl kR Tryz.func4 kR
  (qe kR) (by unfold Func.isWrapper;first|(rw [qj (by decide +kernel)];kernel_rfl)|(rw [qg (by decide +kernel)];exact ⟨rfl,rfl⟩))
  (fun os started H enc _=>lifted os started H enc)
theorem proved:Rows.ModelSameSaid:=over
#print axioms proved
end modelSame
end Go.Proofs.YtmdkejaglfokaaaGreat
