import Derived.Test.YtmdkejaglfokaaaGreatWAAA
import Derived.ChangeKeysEq
import Derived.Laws.StructEq
import Derived.Stop.Asserts
import Derived.Laws.Append
import Derived.Laws.BytesArg
import Derived.Maps.RangeRun
import Derived.Laws.IdiomRangeMap
import Derived.OrdersIn
import Derived.RangeFuncLeaves
import Derived.RangeFuncRecord
import Derived.Conc.LoneSelect
set_option maxHeartbeats 8000000
set_option linter.unusedSimpArgs false
set_option linter.unusedVariables false
namespace Go.Ev
section
variable {L:Lk}{P:Program}{w:World}{E:Env}
theorem ble_t {a b:Nat}(h:Nat.ble a b=true):a<=b:=qe1 h
theorem zck {a b c d:Nat}(h:(Nat.ble a b && Nat.ble c d)=true):a<=b/\c<=d:=by
 rw [qm] at h;exact ⟨ble_t h.1,ble_t h.2⟩
theorem zjx {a b c d e f:Nat}(h:(Nat.ble a b && Nat.ble c d && Nat.ble e f)=true):a<=b/\c<=d/\e<=f:=by
 rw [qm] at h;exact ⟨(zck h.1).1,(zck h.1).2,ble_t h.2⟩
theorem beq_f {a b:Nat}(h:a≠b):Nat.beq a b=false:=by
 cases hb:Nat.beq a b with
 |false=>rfl
 |true=>exact absurd (qf hb) h
theorem off_eq {m l z o:Nat}{i:Nat}:(if m=l then (⟨(E i).blk,(E i).off+o,none⟩:Addr) else (⟨(E i).blk,(E i).off+o,none⟩:Addr).add (l*z)) =
  ⟨(E i).blk,(E i).off+offOf m l o z,none⟩:=by
 unfold offOf;by_cases h:m=l
 ·subst h;rw [qi rfl,qt2]
 ·rw [qd h,beq_f h]
  exact zcl E i o (l*z)
theorem zkx {m l z o:Nat}{i:Nat}:(if m=l then some (⟨(E i).blk,(E i).off+o,none⟩:Addr) else (some (⟨(E i).blk,(E i).off+o,none⟩:Addr)).map (·.add (l*z))) =
  some ⟨(E i).blk,(E i).off+offOf m l o z,none⟩:=by
 rw [← off_eq (E:=E)];split<;>rfl
theorem zlx (hL:LOk0 L P){t:TypeId}{x r:AV}{lo hi mx:Option AV}(h:zgb L t x lo hi mx=some r) :
  (Instr.sliceAt t (conc E x) (lo.map (conc E)) (hi.map (conc E)) (mx.map (conc E))).run P w= .ok (conc E r) w:=by
 unfold zgb at h;split at h
 ·cases h
 ·next hmh =>
  split at h
  ·cases h
  ·next l hl =>
   split at h
   ·next s hu =>
    split at h
    ·cases h
    ·split at h
     ·cases h
     ·next hx hhi =>
      split at h
      ·next hb =>
       cases h
       obtain ⟨h1,h2⟩:=zck hb;have hsb:=zdc (P:=P) (w:=w) (E:=E) (isSl:=false) (n:=s.size) (c:=s.size) (mx:=none) (m:=s.size) hl hhi rfl hmh h1 h2 (qn _);unfold Instr.sliceAt Instr.slice;simp only [qq4] at hsb;simp only [conc,qj,zca hL hu,qb,qq4,qf4,ql1,qu3,qt,qp4,hsb]
      ·cases h
   ·next e hu =>
    split at h
    ·next h0 m z hhi hmx hz =>
     split at h
     ·next hb =>
      cases h
      rw [qm,qm] at hb;obtain ⟨⟨b1,b2⟩,b3⟩:=hb;have e1:l=0:=qf b1;have e2:h0=0:=qf b2;have e3:m=0:=qf b3;subst e1 e2 e3;have hsb:=zdc (P:=P) (w:=w) (E:=E) (isSl:=true) (n:=0) (c:=0) hl hhi hmx hmh (qn _) (qn _) (qn _);unfold Instr.sliceAt Instr.slice;simp only [conc,qj,zca hL hu,qb,hsb,zkb hL hz,qt];rfl
     ·cases h
    ·cases h
   ·next e i o n c op hu =>
    split at h
    ·cases h
    ·next z hz =>
     split at h
     ·cases h
     ·next hx hhi =>
      split at h
      ·next v =>
       split at h
       ·cases h
       ·next m hm =>
        split at h
        ·next hb =>
         cases h
         obtain ⟨h1,h2,h3⟩:=zjx hb;have hsb:=zdc (P:=P) (w:=w) (E:=E) (isSl:=true) (n:=n) (c:=c+(if op=true then (E i).extra else 0)) (mx:=some v) (m:=m) hl hhi hm hmh h1 h2 oM
         unfold Instr.sliceAt Instr.slice;simp only [conc,qj,zca hL hu,qb,hsb,zkb hL hz,qt,zkx,ql1,qu3,qx4]
        ·cases h
      ·split at h
       ·next hb =>
        obtain ⟨h1,h2⟩:=zck hb;have hsb:=zdc (P:=P) (w:=w) (E:=E) (isSl:=true) (n:=n) (c:=c+(if op=true then (E i).extra else 0)) (mx:=none) (m:=c+(if op=true then (E i).extra else 0)) hl hhi rfl hmh h1 oM (qn _)
        unfold Instr.sliceAt Instr.slice;simp only [conc,qj,zca hL hu,qb,hsb,zkb hL hz,qt];split at h
        ·cases h
         simp only [ql1,qu3,qx4,zkx,conc]
        ·split at h
         ·next hcl =>
          split at h
          ·next ho =>
           cases h
           have hcl:=qf hcl;have ho:=qf ho;subst hcl ho;simp only [qc5,qg4,conc];have e1:hx - c=0:=oM
           have e2:c+(E i).extra - c=(E i).extra:=oM
           rw [e1,e2];cases (E i).extra with
           |zero=>rw [qi (qx4 c)]
           |succ k =>
            rw [qd oM,show (⟨(E i).blk,(E i).off+0,none⟩:Addr)=cA E i 0 from rfl,zcl,qy1]
          ·cases h
         ·next hne =>
          cases h
          have hne':c≠l:=qz4 hne;simp only [qc5,qg4,conc];rw [qd oM]
          rw [show (⟨(E i).blk,(E i).off+o,none⟩:Addr)=cA E i o from rfl,zcl]
          congr 2
          omega
       ·cases h
   ·next n e i o hu =>
    split at h
    ·cases h
    ·next z hz =>
     split at h
     ·next h0 m hhi hmx =>
      split at h
      ·next hb =>
       cases h
       obtain ⟨h1,h2,h3⟩:=zjx hb;have hsb:=zdc (P:=P) (w:=w) (E:=E) (isSl:=false) (n:=n) (c:=n) hl hhi hmx hmh h1 h2 h3;unfold Instr.sliceAt;simp only [conc,qj,zca hL hu,qb,hsb,zkb hL hz,qt,Instr.sureAddr,off_eq,ql1,qu3,qx4]
      ·cases h
     ·cases h
   ·cases h
end
section
variable {L:Lk}{P:Program}{w:World}{E:Env}
theorem zjc1 (off:Nat) (l:List Value):∀(k:Nat) (arr:Array Value),off+k+l.length<=arr.size ->
  ((l.zipIdx k).foldl (fun cs p=>cs.setIfInBounds (off+p.2) p.1) arr).size=arr.size /\
  ∀j:Nat,((l.zipIdx k).foldl (fun cs p=>cs.setIfInBounds (off+p.2) p.1) arr)[j]? =if off+k<=j/\j<off+k+l.length then l[j - (off+k)]? else arr[j]? :=by
 induction l with
 |nil=>intro k arr _;exact ⟨rfl,fun j=>by rw [qd (by simp)];rfl⟩
 |cons a l ih =>
  intro k arr h;simp only [ql2] at h;rw [List.zipIdx_cons,qr6];obtain ⟨h1,h2⟩:=ih (k+1) (arr.setIfInBounds (off+k) a) (by simp;omega)
  refine ⟨by rw [h1];simp,fun j=> ?_⟩
  rw [h2];simp only [ql2];by_cases h0:j=off+k
  ·subst h0
   rw [qd oM,qi oM,qc3,qi rfl,qi oM]
   simp
  ·by_cases hin:off+(k+1)<=j/\j<off+(k+1)+l.length
   ·rw [qi hin,qi oM]
    obtain ⟨d,hd⟩:∃d,j - (off+k)=d+1:=⟨j - (off+k) - 1,oM⟩
    rw [hd,show j - (off+(k+1))=d from oM];simp
   ·rw [qd hin,qd oM,qc3,qd oM]
theorem zkc1 {xs cs cs':List AV}{off:Nat}(h:zod xs cs off=some cs') :
  ((concL E xs).toArray.zipIdx.foldl (fun cs p=>cs.setIfInBounds (off+p.2) p.1) (concL E cs).toArray)=(concL E cs').toArray:=by
 obtain ⟨hle,he⟩:=(zcc xs cs off cs').1 h;have key:=zjc1 off (concL E xs) 0 (concL E cs).toArray (by simp [zma];omega)
 have hz:(concL E xs).toArray.zipIdx.foldl (fun cs p=>cs.setIfInBounds (off+p.2) p.1) (concL E cs).toArray=((concL E xs).zipIdx 0).foldl (fun cs p=>cs.setIfInBounds (off+p.2) p.1) (concL E cs).toArray:=by
  rw [← Array.foldl_toList];simp
 rw [hz];refine qv6 fun j=> ?_
 rw [key.2];simp only [zma,qx4];rw [he];simp only [qo1,zna?];by_cases hin:off<=j/\j<off+xs.length
 ·rw [qi hin,qi1,qz1 (by simp;omega),qt1 (by simp;omega)]
  simp only [qa1,show min off cs.length=off from oM]
 ·rw [qd hin]
  by_cases hj:j<off
  ·rw [qi1,qt1 (by simp;omega),qf2 hj]
  ·rw [qz1 (by simp;omega),qu2]
   simp only [qr,qa1,show min off cs.length=off from oM]
   rw [show off+xs.length+(j - (off+xs.length))=j from oM]
theorem zmo {pl pl':Nat->Option (Nat×Nat)}(parts:List (Nat×AV)):∀{cs cs':List AV},(∀i x,pl i=some x->pl' i=some x)->fillL pl parts cs=some cs' ->
  Instr.fill pl' (concL E cs).toArray (parts.map fun p=>(p.1,conc E p.2))=some (concL E cs').toArray:=by
 induction parts with
 |nil=>intro cs cs' _ h;cases h;rfl
 |cons p parts ih =>
  intro cs cs' hpl h;unfold fillL at h;rw [zta] at h;split at h
  ·cases h
  ·next os hos =>
   split at h
   ·cases h
   ·next hb =>
    split at h
    ·cases h
    ·next cs1 hov =>
     have hlen:=qf hb;rw [zxe] at hlen;have hle:=((zcc _ _ _ _).1 hov).1;show Instr.fill pl' (concL E cs).toArray ((p.1,conc E p.2)::parts.map fun p=>(p.1,conc E p.2))=_
     unfold Instr.fill;rw [hpl _ _ hos];obtain ⟨o1,o2⟩:=os;simp only at hlen hov hle ⊢
     rw [zab];rw [qd (by simp [zma,hlen];omega)]
     rw [zkc1 hov];exact ih hpl h
theorem zbq {α β:Type}(f:α->Sem β) (l:List α):∀(r:List β),r.length=l.length->(∀(i:Nat) a,l[i]? =some a-> ∃b,r[i]? =some b/\(f a).run P w= .ok b w)->(l.mapM f).run P w= .ok r w:=by
 induction l with
 |nil=>intro r hr _;have:r= []:=qk1 (by simpa using hr);subst this;simp
 |cons a l ih =>
  intro r hr h;cases r with
  |nil=>simp at hr
  |cons b r =>
   obtain ⟨b',hb',hf⟩:=h 0 a (by simp)
   simp only [qs1,qe2] at hb';subst hb';rw [List.mapM_cons];simp only [qj,hf,qb];rw [ih r (by simpa using hr) (fun i x hx=>by simpa using h (i+1) x (by simpa using hx))]
   simp
theorem zvk1 {α β:Type}(f:α->Sem β) (xs:Array α) (r:List β) (hr:r.length=xs.toList.length) (h:∀(i:Nat) a,xs.toList[i]? =some a-> ∃b,r[i]? =some b/\(f a).run P w= .ok b w) :
  (xs.mapM f).run P w= .ok r.toArray w:=by
 rw [Array.mapM_eq_mapM_toList];simp only [Sem.run_map,zbq f xs.toList r hr h,qb]
theorem zwk1 {s:Nat}(parts:List (Nat×AV)):∀{c c':Ce},fillC s parts c=some c'->fillL (fun i=>some (i*s,s)) parts c.l=some c'.l:=by
 induction parts with
 |nil=>intro c c' h;cases h;rfl
 |cons p parts ih =>
  intro c c' h;unfold fillC at h;rw [zta] at h;unfold fillL;rw [zta];split at h
  ·cases h
  ·next hb =>
   split at h
   ·cases h
   ·next c1 hov =>
    have hov:=Ce.over_l hov;rw [toC_l] at hov;have hl:Nat.beq (len p.2.cells) s=true:=by rw [← hb,zxe,← toC_l,Ce.len_l]
    simp only [hl,hov];exact ih h
theorem zzu {s:Nat}{parts:List (Nat×AV)}{z r:AV}(h:zvp s parts z=some r):∃cs,fillL (fun i=>some (i*s,s)) parts z.cells=some cs/\conc E r= .agg (concL E cs).toArray:=by
 unfold zvp at h;split at h
 ·split at h
  ·next cs hf=>cases h;exact ⟨cs,hf,rfl⟩
  ·cases h
 ·next c hc =>
  split at h
  ·next c' hf =>
   cases h
   have hz:z.cells=c.l:=by cases z<;>first|(cases hc;rfl)|cases hc
   exact ⟨c'.l,by rw [hz];exact zwk1 parts hf,zzp E c'⟩
  ·cases h
theorem zmx (hL:LOk0 L P){t:TypeId}{parts:List (Nat×AV)}{r:AV}(h:zsa L t parts=some r) :
  (Instr.build t (parts.map fun p=>(p.1,conc E p.2)).toArray).run P w= .ok (conc E r) w:=by
 unfold zsa at h;split at h
 ·cases h
 ·next z hz =>
  split at h
  ·next fields hu =>
   split at h
   ·next pls hp =>
    split at h
    ·next cs hf =>
     cases h
     unfold Instr.build;simp only [qj,zzc (E:=E) hL hz,qb,zca hL hu,zab];obtain ⟨p1,p2⟩:=(zim _ _ _).1 hp;rw [zvk1 (P:=P) (w:=w) (fun f:Field=>do pure (f.offset,← sizeOf f.type)) fields pls p1 (fun i f hf=>by
      obtain ⟨b,hb,hr⟩:=p2 i f hf;split at hb
      ·next s hs=>cases hb;exact ⟨_,hr,by simp only [qj,zkb hL hs,qb,qt]⟩
      ·cases hb)]
     simp only [qb];rw [zmo (E:=E) parts (pl':=fun i=>pls.toArray[i]?) (fun i x hx=>by rw [zug] at hx;simpa using hx) hf]
     rfl
    ·cases h
   ·cases h
  ·next n e hu =>
   split at h
   ·next s hs =>
    obtain ⟨cs,hf,hr⟩:=zzu h;unfold Instr.build;simp only [qj,zzc (E:=E) hL hz,qb,zca hL hu,zab,zkb hL hs];rw [zmo (E:=E) parts (fun i x hx=>hx) hf,hr]
    rfl
   ·cases h
  ·cases h
theorem zfe (e:TypeId) (cs:Array Value):(newRow e cs).run P w= .ok ⟨w.heap.size,0,none⟩ (wNew w (.cells cs e)):=by
 unfold newRow newObj;simp only [qj,Sem.run,qb,qt];rfl
theorem zgi {B:Nat}{H:AH}(hw:H.Wf) (hS:St B E H w){vs:Ce}(e:TypeId) (z:Nat) (op:Bool) (ex:Nat) (rest:List Value)
  (hx:∀E',Agree H.next E E'->concL E' vs.l=concL E vs.l) (hr:rest.length=if op then ex*z else 0) (hrf:op=true-> ∀u∈rest,FlatV e u/\vs.l.length+rest.length<=9223372036854775807*z) :
  St B (E.add H.next ⟨w.heap.size,0,ex⟩) (H.new (.cells vs e z op false)) (wNew w (.cells ((concL E vs.l) ++ rest).toArray e)) /\
  Post E H w (E.add H.next ⟨w.heap.size,0,ex⟩) (H.new (.cells vs e z op false)) (wNew w (.cells ((concL E vs.l) ++ rest).toArray e))/\(H.new (.cells vs e z op false)).Wf :=
 zyu hw hS _ _ ex fun E' hE hn=>by
  refine ⟨((concL E vs.l) ++ rest).toArray,e,(0,0),by rw [hn];exact zkg,fun j v hv=> ?_,fun _=>⟨⟨qn _,fun j hj=>by simp⟩,?_,fun ho j u hj hu=> ?_,fun _ h=>absurd h.2 (qe4 _),rfl⟩⟩
  ·rw [hn]
   have hlt:j<vs.l.length:=by
    rcases qi2 j vs.l.length with h|h
    ·exact h
    ·rw [qk2 h] at hv;cases hv
   simp only [qy1,qo1];rw [qt1 (by rw [zma];exact hlt),← hx E' hE,zna?,hv]
   rfl
  ·rw [hn]
   simp [zma,hr]
  ·rw [hn] at hj
   simp only [qy1] at hj;rw [qo1,qz1 (by rw [zma];exact hj)] at hu
   obtain ⟨h1,h2⟩:=hrf ho u (qj6 hu);refine ⟨h1,?_⟩;rw [hn];simp only [List.size_toArray,qr,zma];omega
theorem zrm {zs:List AV}{s:Nat}(hz:zs.length=s) (n:Nat) :
  (Array.range (n*s)).map ((if n*s=0 then (#[]:Array Value) else (concL E zs).toArray)[·% (if n*s=0 then (#[]:Array Value) else (concL E zs).toArray).size]!)=(concL E (rep zs n)).toArray:=by
 refine qv6 fun j=> ?_
 by_cases hj:j<n*s
 ·rw [qd oM]
  have hs:0<s:=by
   rcases qh3 s with h|h
   ·subst h;simp at hj
   ·exact h
  have hlt:j%s<zs.length:=by rw [hz];exact qi6 _ hs
  simp only [Array.getElem?_map,Array.getElem?_range,qi hj,qg4,qo1,zna?];rw [zdi zs n j (by rw [hz];exact hj),hz]
  simp only [List.size_toArray,zma,hz];rw [qo hlt];simp [zhd,hlt,getElem!_pos]
 ·rw [qz2 (by simp;omega),qz2 (by simp [zma,zqd,hz];omega)]
end
def Done (B:Nat) (E:Env) (H:AH) (w:World) (v:AV) (H1:AH) (u:Value) (w1:World):Prop :=
 ∃E1,StV E1 H1.next v u/\St B E1 H1 w1/\Post E H w E1 H1 w1/\H1.Wf
section
variable {L:Lk}{P:Program}{w:World}{E:Env}{B:Nat}{H:AH}
theorem Done.same (hw:H.Wf) (hS:St B E H w){v:AV}{u:Value}(h:StV E H.next v u):Done B E H w v H u w:=⟨E,h,hS,Post.refl _ _ _,hw⟩
theorem zdk (hL:LOk0 L P){t:TypeId}{z:AV}(h:L.zero t=some z) (E E':Env):concL E z.cells=concL E' z.cells:=zxr (zero_E hL h E E')
theorem rep_E {zs:List AV}(h:∀E E',concL E zs=concL E' zs) (n:Nat) (E E':Env):concL E (rep zs n)=concL E' (rep zs n):=by
 induction n with
 |zero=>rfl
 |succ n ih=>rw [zyj,zjc,zjc,h E E',ih]
theorem zih (hw:H.Wf) (hS:St B E H w){vs:Ce}{xs:List AV}(hvs:vs.l=xs) (e:TypeId) (z:Nat) (hx:∀E',Agree H.next E E'->concL E' xs=concL E xs) (v:AV) (u:Value)
  (hv:∀E',(E' H.next)=⟨w.heap.size,0,0⟩->u=conc E' v) :
  Done B E H w v (H.new (.cells vs e z false false)) u (wNew w (.cells (concL E xs).toArray e)):=by
 subst hvs;have h:=zgi hw hS e z false 0 [] hx rfl (fun h=>by cases h)
 rw [qw1] at h;exact ⟨_,fun E' hE=>hv E' ((hE H.next (qd1 _)).trans (Env.add_self _ _ _)),h.1,h.2.1,h.2.2⟩
theorem znx (hL:LOk0 L P) (hw:H.Wf) (hS:St B E H w){e:TypeId}{z:AV}(hz:L.zero e=some z) (s:Nat) :
  ∃u w1,(Instr.alloc e true (.tuple #[])).run P w= .ok u w1/\Done B E H w (.ptr H.next 0) (H.new (.cells z.toC e s false false)) u w1:=by
 refine ⟨_,_,?_,zih hw hS (toC_l z) e s (fun E' _=>zdk hL hz E' E) (.ptr H.next 0) (.pointer (some ⟨w.heap.size,0,none⟩)) (fun E' h=>by simp [conc,h])⟩
 unfold Instr.alloc;simp only [qj,zzc (E:=E) hL hz,qb,newVar,zab,zfe,qt]
theorem zxk1 (hw:H.Wf) (hS:St B E H w) (e:TypeId){v:AV}{u:Value}(hv:StV E H.next v u) (s:Nat) :
  ∃u' w1,(Instr.box e u).run P w= .ok u' w1/\Done B E H w (.ptr H.next 0) (H.new (.cells v.toC e s false false)) u' w1:=by
 refine ⟨_,_,?_,zih hw hS (toC_l v) e s (fun E' hE=>zxr ((hv E' hE).symm.trans hv.self)) (.ptr H.next 0) (.pointer (some ⟨w.heap.size,0,none⟩)) (fun E' h=>by simp [conc,h])⟩
 unfold Instr.box;rw [hv.self];simp only [qj,newVar,zab,zfe,qb,qt]
theorem zdl (hL:LOk0 L P) (hw:H.Wf) (hS:St B E H w){t:TypeId}{n:Nat}{parts:List (Nat×AV)}{v:AV}{H1:AH}
  (hp:∀E',Agree H.next E E'->(parts.map fun p=>(p.1,conc E' p.2))=(parts.map fun p=>(p.1,conc E p.2))) (h:ztb L t n parts H=some (v,H1)) :
  ∃u w1,(Instr.buildSlice t n (parts.map fun p=>(p.1,conc E p.2)).toArray).run P w= .ok u w1/\Done B E H w v H1 u w1:=by
 unfold ztb at h;split at h
 ·next e hu =>
  split at h
  ·next s z hs hz =>
   split at h
   ·cases h
   ·next hb =>
    rw [qm] at hb;have hb1:=ble_t hb.1;have hb2:=qf hb.2;rw [zxe] at hb2;split at h
    ·next cs hf =>
     cases h
     have hcs:∀E',Agree H.next E E'->concL E' cs=concL E cs:=fun E' hE=>by
      have f1:=zmo (E:=E) parts (pl':=fun i=>some (i*s,s)) (fun i x hx=>hx) hf
      have f2:=zmo (E:=E') parts (pl':=fun i=>some (i*s,s)) (fun i x hx=>hx) hf
      rw [hp E' hE,rep_E (fun A B=>zdk hL hz A B) n E' E,f1] at f2
      simpa using f2.symm
     refine ⟨_,_,?_,zih hw hS (Ce.of_l cs) e s hcs (.sl H.next 0 n n false) (.slice (some ⟨w.heap.size,0,none⟩) n n) (fun E' h=>by simp [conc,h])⟩
     unfold Instr.buildSlice;simp only [qj,zca hL hu,qb,zkb hL hs,qp4];rw [qd (by show ¬n*s>16777216;omega)]
     simp only [qt,qb];have rr:=zrm (E:=E) hb2 n;have ff:=zmo (E:=E) parts (pl':=fun i=>some (i*s,s)) (fun i x hx=>hx) hf
     by_cases hns:n*s=0
     ·simp only [qi hns] at rr ⊢
      rw [rr,ff];simp only [qj,zfe,qb,qt]
     ·simp only [qd hns] at rr ⊢
      simp only [zzc (E:=E) hL hz,qb,zab];rw [rr,ff];simp only [qj,zfe,qb,qt]
    ·cases h
  ·cases h
 ·cases h
theorem zsm (hL:LOk0 L P) (hw:H.Wf) (hS:St B E H w){t:TypeId}{l c v:AV}{H1:AH}(h:zqc L t l c H=some (v,H1)) :
  ∃u w1,(Instr.makeSlice t (conc E l) (conc E c)).run P w= .ok u w1/\Done B E H w v H1 u w1:=by
 unfold zqc at h;split at h
 ·next e hu =>
  split at h
  ·next l' c' b z s hl hc hby hz hs =>
   split at h
   ·next hb =>
    cases h
    rw [qm,qm,qm] at hb;obtain ⟨⟨⟨b1,b2⟩,b3⟩,b4⟩:=hb;have b1:=ble_t b1;have b2:=ble_t b2;have b3:=ble_t b3;have b4:=qf b4;rw [zxe] at b4;obtain ⟨k1,rfl⟩:=zbk hl;obtain ⟨k2,rfl⟩:=zbk hc;refine ⟨_,_,?_,zih hw hS (Ce.repC_l z.cells c') e s (fun E' _=>rep_E (fun A B=>zdk hL hz A B) c' E' E) (.sl H.next 0 l' c' false) (.slice (some ⟨w.heap.size,0,none⟩) l' c') (fun E' h=>by simp [conc,h])⟩
    obtain ⟨i,hi,hib⟩:=zhc1 hL hby w;unfold Instr.makeSlice;simp only [conc,qj,zca hL hu,qb,asInt,asIntOf,qt,hi];rw [IntWalk.i64_in (l':Int) ⟨oM,oM⟩,IntWalk.i64_in (c':Int) ⟨oM,oM⟩]
    simp only [qp4];rw [qd (by
     simp only [qa5,qs,hib];rintro ((h|h)|h)
     ·rcases h with h|h
      ·omega
      ·have:(b:Int)*c'>281474976710656:=h
       have h2:(b:Int)*c'=((b*c':Nat):Int):=by simp
       omega
     ·omega
     ·omega)]
    have hroom:(askRoom (c'*i.bytes)).run P w= .ok () w:=by
     unfold askRoom roomBytes;simp only [qp4,qt];rw [qd (by
      rw [hib,qx3];show ¬b*c'>140737488355328
      omega)]
    simp only [qc2,qj,hroom,zkb hL hs,qb];have rr:=zrm (E:=E) b4 c';by_cases hns:c'*s=0
    ·simp only [qi hns] at rr ⊢
     simp only [qj,qb,qt];rw [rr];simp only [zfe,qb]
    ·simp only [qd hns] at rr ⊢
     simp only [qj,zzc (E:=E) hL hz,qb,zab,qt];rw [rr];simp only [zfe,qb]
   ·cases h
  ·cases h
 ·cases h
end
section
variable {L:Lk}{P:Program}{w:World}{E:Env}
theorem zyk1 {op:BinOp}{t:TypeId}{k:IntKind}{x y:Int}{r:AV}(h:evInt op k x y=some r):(binOp op t (.int k x) (.int k y)).run P w= .ok (conc E r) w:=by
 cases op<;>simp only [evInt,zei] at h<;>first
  |(cases h;done)
  |(cases h;simp [binOp,Op.intArith,Op.intBits,Op.intCmp,conc];done)
  |(split at h
    ·cases h
    ·next hy =>
     cases h
     have hy':¬y=0:=by simpa using hy
     simp [binOp,Op.intDiv,conc,hy'])
theorem zno {op:BinOp}{t:TypeId}{k k':IntKind}{x y:Int}{r:AV}(hop:op= .shl\/op= .shr) (h:zvg op k x y=some r):(binOp op t (.int k x) (.int k' y)).run P w= .ok (conc E r) w:=by
 unfold zvg at h;split at h
 ·cases h
 ·next hy =>
  have hy':¬y<0:=by simpa using hy
  rcases hop with rfl|rfl<;>(simp only [zei] at h;cases h;simp [binOp,Op.shift,conc,hy'])
theorem zcq:∀l m:List UInt8,lstEq l m=decide (l=m)
 | [], []=>rfl
 | [],_::_=>rfl
 |_::_, []=>rfl
 |a::l,b::m=>by
  show brec false (lstEq l m) (Nat.beq a.toNat b.toNat)=_
  rw [zcq l m];cases hb:Nat.beq a.toNat b.toNat with
  |true =>
   have h:a=b:=UInt8.toNat_inj.1 (qf hb);subst h;show decide (l=m)=_
   simp
  |false =>
   have h:a≠b:=fun h=>by subst h;rw [qt2] at hb;cases hb
   show false=_
   simp [h]
theorem zdq (a b:ByteArray):strEq a b=(a == b):=by
 unfold strEq;rw [zcq];obtain ⟨⟨x⟩⟩:=a;obtain ⟨⟨y⟩⟩:=b;show decide (x=y)=((⟨x⟩:Array UInt8) == ⟨y⟩)
 rw [qa3];simp
theorem zzk1 {op:BinOp}{t:TypeId}{x y:ByteArray}{r:AV}(h:evStr op x y=some r):(binOp op t (.string x) (.string y)).run P w= .ok (conc E r) w:=by
 cases op<;>simp only [evStr] at h<;>first
  |(cases h;done)
  |(cases h;simp [binOp,Op.stringOp,conc];done)
  |(cases h;rw [zdq,beq_toListBytes];simp [binOp,Op.stringOp,conc];done)
  |(split at h
    ·next hb =>
     cases h
     have hb':=ble_t hb;simp only [binOp,Op.stringOp,qp4,conc,qt];rw [qd (by
      have:IntKind.max .i64=9223372036854775807:=dC
      rw [this];omega)]
    ·cases h)
theorem evUn_ok {op:UnOp}{x r:AV}(h:evUn op x=some r):(Op.unary op (conc E x)).run P w= .ok (conc E r) w:=by
 unfold evUn at h;split at h
 ·split at h
  ·simp only [zei] at h
   cases h
   simp [Op.unary,Op.intArith,conc]
  ·cases h
 ·split at h
  ·simp only [evInt,zei] at h
   cases h
   simp [Op.unary,Op.intBits,conc]
  ·cases h
 ·split at h
  ·cases h;simp [Op.unary,conc]
  ·cases h
 ·cases h
theorem zek (eq:AV->AV->Option Bool) (px py:Nat->Option AV) (s n i:Nat):zkl eq px py s (n+1) i=(match px (i*s),py (i*s) with
  |some a,some b=>(match eq a b with
   |some true=>zkl eq px py s n (i+1)
   |r=>r)
  |_,_=>none):=rfl
theorem zoo {eq:AV->AV->Option Bool}(he:∀a b,eq (.int .u8 a) (.int .u8 b)=some (a == b)){px py:Nat->Option AV}{n N M:Nat}
  (hx:∀i,i<n->px i=some (.int .u8 (.ofNat (Ce.B N i)))) (hy:∀i,i<n->py i=some (.int .u8 (.ofNat (Ce.B M i)))) :
  ∀k j,j+k=n->zkl eq px py 1 k j=some (decide (∀i,i<n->j<=i->Ce.B N i=Ce.B M i)):=by
 intro k
 induction k with
 |zero =>
  intro j hj;show some true=_
  congr 1
  symm
  rw [decide_eq_true_iff];intro i h1 h2;exact absurd h1 oM
 |succ k ih =>
  intro j hj;rw [zek,qs3,hx j oM,hy j oM]
  simp only [he];by_cases h:Ce.B N j=Ce.B M j
  ·have hb:((Int.ofNat (Ce.B N j)) == (Int.ofNat (Ce.B M j)))=true:=by rw [h];simp
   rw [hb];simp only;rw [ih (j+1) oM]
   congr 1
   rw [qa3];simp only [qs];constructor
   ·intro hh i h1 h2
    by_cases hij:i=j
    ·rw [hij];exact h
    ·exact hh i h1 oM
   ·intro hh i h1 h2;exact hh i h1 oM
  ·have hb:((Int.ofNat (Ce.B N j)) == (Int.ofNat (Ce.B M j)))=false:=by
    rw [beq_eq_false_iff_ne];intro hc;exact h (Int.ofNat.inj hc)
   rw [hb];simp only;congr 1
   symm
   rw [qd4];intro hh;exact h (hh j oM (qn _))
theorem zox {n:Nat}{e:TypeId}(h:evEq L n e (.int .u8 0) (.int .u8 0)=some true) (a b:Int):evEq L n e (.int .u8 a) (.int .u8 b)=some (a == b):=by
 cases n with
 |zero=>cases h
 |succ n =>
  unfold evEq at h ⊢
  rw [zxf] at h ⊢
  cases hu:L.under e with
  |none=>rw [hu] at h;cases h
  |some d =>
   rw [hu] at h;cases d<;>first
    |rfl
    |(simp only at h;cases h;done)
    |(simp only [AV.aggC] at h;cases h;done)
    |(simp only at h;split at h<;>first|(cases h;done)|(simp only [AV.aggC] at h;cases h;done))
theorem zlc1 {e s n:Nat}{d:Nat}{xs ys:Ce}{r:Bool}(h:zjk1 (L.isAgg e) s (evEq L d e (.int .u8 0) (.int .u8 0)) n xs ys=some r) :
  zkl (evEq L d e) (ztf L e xs) (ztf L e ys) s n 0=some r:=by
 unfold zjk1 at h;split at h
 ·next hag ht =>
  next a N b M =>
  split at h
  ·next hb =>
   cases h
   rw [qm,qm] at hb;obtain ⟨h1,h2,h3⟩:=hb;have h1:=qf h1;have h2:=qf h2;have h3:=qf h3;subst h1 h2 h3;have hp:∀N i,i<b->ztf L e (.byt b N) i=some (.int .u8 (.ofNat (Ce.B N i))):=fun N i hi=>by
    unfold ztf;rw [hag];simp only;rw [Ce.get_l,Ce.l_byt,Ce.bytesL_get,qi hi]
   rw [zoo (fun a b=>zox ht a b) (n:=b) (hp N) (hp M) b 0 oM]
   congr 1
   rw [qa3];simp only [qs];show _↔Nat.beq (N%Ce.pw b) (M%Ce.pw b)=true
   rw [Ce.pw_eq,Nat.beq_eq,Ce.mod_eq_iff];exact ⟨fun h i hi=>h i hi (qo2 _),fun h i hi _=>h i hi⟩
  ·cases h
 ·cases h
theorem zpx (hL:LOk0 L P) (n:Nat):∀(m:Nat) (t:TypeId) (x y:AV) (b:Bool),n<=m->evEq L n t x y=some b->(Op.equalIn m t (conc E x) (conc E y)).run P w= .ok b w:=by
 induction n with
 |zero=>intro m t x y b _ h;cases h
 |succ n ih =>
  intro m t x y b hm h;obtain ⟨m,rfl⟩:∃m',m=m'+1:=⟨m - 1,oM⟩
  have hm':n<=m:=oM
  unfold evEq at h;rw [zxf] at h;have ih':∀t x y b,nrecF (α:=TypeId) (β:=AV->AV->Option Bool) (fun _ _ _=>none) _ n t x y=some b->_:=fun t x y b hh=>ih m t x y b hm' hh
  generalize hgen:nrecF (α:=TypeId) (β:=AV->AV->Option Bool) (fun _ _ _=>none) _ n=rec at h ih'
  split at h
  ·cases h
  ·next d hu =>
   split at h
   ·split at h
    ·cases h;rw [show conc E (.bool _)=Value.bool _ from rfl];exact run_equalIn_bool w m t _ _ (zwd hL hu)
    ·cases h
   ·next kd =>
    split at h
    ·next k a k2 b2 =>
     split at h
     ·next hk =>
      have hk':k=k2:=by simpa using hk
      subst hk';cases h;exact run_equalIn_int w m t k kd a b2 (zwd hL hu)
     ·cases h
    ·cases h
   ·split at h
    ·next a b2 =>
     cases h
     rw [zdq,beq_toListBytes];exact run_equalIn_string w m t a b2 (zwd hL hu)
    ·cases h
   ·next e =>
    split at h<;>first
     |(cases h;done)
     |(cases h;simp [Op.equalIn,zca hL hu,conc];done)
     |(next i o j p =>
       split at h
       ·next s hij hs =>
        have hij':=qf hij;subst hij';split at h
        ·cases h
        ·next hs0 =>
         cases h
         have hs':¬s=0:=by intro he;subst he;cases hs0
         simp only [Op.equalIn,qj,zca hL hu,qb,conc,zkb hL hs,qp4,hs',ne_eq,qf1,qc5,sameAddr,beq_self_eq_true,qt];congr 1;by_cases hop:o=p
         ·subst hop;simp
         ·rw [beq_f hop];simp;omega
       ·cases h)
   ·next ms =>
    split at h<;>first
     |(cases h;done)
     |(cases h;simp [Op.equalIn,zca hL hu,conc];done)
     |(next tx vx ty vy =>
       split at h
       ·next hxy =>
        cases h
        have hne:tx≠ty:=qz4 hxy;simp [Op.equalIn,zca hL hu,conc,hne]
       ·next hxy =>
        have he:=qf hxy;subst he;split at h
        ·next i hi =>
         split at h
         ·next hc =>
          have:=ih' _ _ _ _ h;simp only [Op.equalIn,qj,zca hL hu,qb,conc,ne_eq,qc1,qu3,zef hL hi,hc,qj5,ql1,qp4];exact this
         ·cases h
        ·cases h)
   ·next fs =>
    split at h
    ·cases h
    ·next hpl =>
     split at h
     ·next xs ys hxs hys =>
      rw [zkd hxs,zkd hys];clear hxs hys;have hu':=zwd hL hu;have hfo:P.fieldsOf t=fs:=by unfold Program.fieldsOf;rw [hu']
      have hp:=(hL.plainEq t hpl).1;show (Op.equalIn (m+1) t (.agg (concL E xs.l).toArray) (.agg (concL E ys.l).toArray)).run P w=_
      rw [run_equalIn_struct w m t _ _ (by rw [hfo];exact hu') hp,hfo]
      clear hu hu' hfo hp hpl
      revert h
      generalize fs.toList=l;intro h
      induction l with
      |nil=>cases h;simp [Op.eqFields]
      |cons f l ihl =>
       rw [zta] at h;unfold Op.eqFields;split at h
       ·next hn =>
        have hn' : f.name = "_" := by simpa using hn
        rw [qd (by simp [hn'])]
        exact ihl h
       ·next hn =>
        have hn' : f.name ≠ "_" := by simpa using hn
        rw [qi hn'];split at h
        ·next a b2 ha hb =>
         simp only [qj,zne hL ha,zne hL hb,qb];split at h
         ·next hr =>
          rw [ih' _ _ _ _ hr];simp only [qb,qj5,ql1,qu3];exact ihl h
         ·next r hr =>
          rw [ih' _ _ _ _ h];cases b with
          |true=>exact absurd h hr
          |false=>simp
        ·cases h
     ·cases h
   ·next n' e =>
    split at h
    ·next xs ys hxs hys =>
     rw [zkd hxs,zkd hys];clear hxs hys;split at h
     ·next s hs =>
      replace h:zkl (rec e) (ztf L e xs) (ztf L e ys) s n' 0=some b:=by
       split at h
       ·next r hr=>cases h;subst hgen;exact zlc1 hr
       ·exact h
      have hu':=zwd hL hu;show (Op.equalIn (m+1) t (.agg (concL E xs.l).toArray) (.agg (concL E ys.l).toArray)).run P w=_
      obtain ⟨i,hi,hsz⟩:∃i,P.info? e=some i/\i.size=s:=by
       unfold Lk.size at hs;split at hs
       ·next i hi=>cases hs;exact ⟨i,hL.info e i hi,rfl⟩
       ·cases hs
      have hco:P.cellsOf e=s:=by unfold Program.cellsOf;rw [hi];exact hsz
      rw [run_equalIn_array w m _ _ hu' hi,hco,List.range_eq_range'];clear hu hu'
      revert h
      generalize 0=j;intro h
      induction n' generalizing j with
      |zero=>cases h;simp [Op.eqItems]
      |succ n' ihn =>
       rw [zek] at h;rw [List.range'_succ];unfold Op.eqItems;split at h
       ·next a b2 ha hb =>
        simp only [qj,zne hL ha,zne hL hb,qb];split at h
        ·next hr =>
         rw [ih' _ _ _ _ hr];simp only [qb,qj5,ql1,qu3];exact ihn _ h
        ·next r hr =>
         rw [ih' _ _ _ _ h];cases b with
         |true=>exact absurd h hr
         |false=>simp
       ·cases h
     ·cases h
    ·cases h
   ·split at h<;>first
     |(cases h;done)
     |(cases h;simp [Op.equalIn,zca hL hu,conc];done)
     |(split at h<;>first
      |(cases h;done)
      |(next hk=>obtain ⟨d,rfl,rfl⟩:=zbx hk;cases h;simp [Op.equalIn,zca hL hu,conc];done))
   ·split at h<;>first
     |(cases h;done)
     |(cases h;simp [Op.equalIn,zca hL hu,conc];done)
   ·split at h<;>first
     |(cases h;done)
     |(cases h;simp [Op.equalIn,zca hL hu,conc];done)
   ·cases h
end
section
variable {L:Lk}{P:Program}{w:World}{E:Env}{B:Nat}{H:AH}
def zpo (x y:AV):Bool:=match x,y with| .int _ _,.int _ _=>true| .str _,.str _=>true|_,_=>false
def kdV (u:Value):Nat:=match u with| .int _ _=>1| .string _=>2| .float _ _=>3| .complex _ _ _=>4|_=>0
def kdA (x:AV):Nat:=match x with| .int _ _=>1| .str _=>2|_=>0
theorem zyr (x:AV):kdV (conc E x)=kdA x:=by
 cases x<;>first
  |rfl
  |(next k i o=>rcases k with _|_|_|k<;>rcases o with _|o<;>rfl)
theorem zeh1 {x y:AV}(h:zpo x y=false):kdA x=kdA y->kdA x=0:=by
 cases x<;>cases y<;>first
  |(cases h;done)
  |(intro _;rfl)
  |(intro h;cases h)
theorem zmc1 {t:TypeId}{u v:Value}(h:kdV u=kdV v->kdV u=0){b:Bool}(he:(Op.equal t u v).run P w= .ok b w):(binOp .eql t u v).run P w= .ok (.bool b) w:=by
 cases u<;>cases v<;>first
  |(simp only [binOp,qj,he,qb,qt];done)
  |(exact absurd (h rfl) (Nat.succ_ne_zero _))
theorem znc1 {t:TypeId}{u v:Value}(h:kdV u=kdV v->kdV u=0){b:Bool}(he:(Op.equal t u v).run P w= .ok b w):(binOp .neq t u v).run P w= .ok (.bool (!b)) w:=by
 cases u<;>cases v<;>first
  |(simp only [binOp,qj,he,qb,qt];done)
  |(exact absurd (h rfl) (Nat.succ_ne_zero _))
theorem zqo {t:TypeId}{x y:AV}(h:zpo x y=false){b:Bool}(he:(Op.equal t (conc E x) (conc E y)).run P w= .ok b w):(binOp .eql t (conc E x) (conc E y)).run P w= .ok (.bool b) w :=
 zmc1 (by rw [zyr,zyr];exact zeh1 h) he
theorem zro {t:TypeId}{x y:AV}(h:zpo x y=false){b:Bool}(he:(Op.equal t (conc E x) (conc E y)).run P w= .ok b w):(binOp .neq t (conc E x) (conc E y)).run P w= .ok (.bool (!b)) w :=
 znc1 (by rw [zyr,zyr];exact zeh1 h) he
def ekV (u:Value):Nat:=match u with| .nilIface=>1| .agg _=>2|_=>0
def ekA (x:AV):Nat:=match x with| .nilIfc=>1| .agg _=>2| .bag _ _=>2|_=>0
theorem zqx (x:AV):ekV (conc E x)=ekA x:=by
 cases x<;>first
  |rfl
  |(next k i o=>rcases k with _|_|_|k<;>rcases o with _|o<;>rfl)
theorem zso {op:BinOp}{t:TypeId}{xo yo:Operand}{u v:Value}(h:ekV u=ekV v->ekV u=0):(eqGuard op t xo yo u v).run P w= .ok () w:=by
 cases op<;>first
  |rfl
  |(cases u<;>cases v<;>first
    |rfl
    |(exact absurd (h rfl) (Nat.succ_ne_zero _)))
def zfh1 (L:Lk) (t:TypeId) (xo yo:Operand) (x y:AV):Bool :=
 match x,y with
 | .nilIfc,.nilIfc=>zll xo || zll yo
 | .agg _,.agg _=>L.plainEq t
 | .agg _,.bag _ _=>L.plainEq t
 | .bag _ _,.agg _=>L.plainEq t
 | .bag _ _,.bag _ _=>L.plainEq t
 |_,_=>true
theorem zav (hL:LOk0 L P){op:BinOp}{t:TypeId}{xo yo:Operand}{x y:AV}(h:zfh1 L t xo yo x y=true):(eqGuard op t xo yo (conc E x) (conc E y)).run P w= .ok () w:=by
 unfold zfh1 at h;split at h
 ·rw [qa5] at h
  unfold eqGuard;simp only [conc,qp4,qt];rcases h with h|h
  ·cases xo<;>first|(cases h;done)|(simp [zll])
  ·cases yo<;>first|(cases h;done)|(simp [zll])
 ·exact run_eqGuard_agg w op t xo yo _ _ (hL.plainEq t h).2
 ·rw [zzf];exact run_eqGuard_agg w op t xo yo _ _ (hL.plainEq t h).2
 ·rw [zzf];exact run_eqGuard_agg w op t xo yo _ _ (hL.plainEq t h).2
 ·rw [zzf,zzf];exact run_eqGuard_agg w op t xo yo _ _ (hL.plainEq t h).2
 ·next h1 h2 h3 h4 h5 =>
  refine zso fun he=> ?_
  rw [zqx,zqx] at he;rw [zqx];cases x<;>cases y<;>first
   |rfl
   |(cases he;done)
   |(exact (h1 rfl rfl).elim)
   |(exact (h2 _ _ rfl rfl).elim)
   |(exact (h3 _ _ _ rfl rfl).elim)
   |(exact (h4 _ _ _ rfl rfl).elim)
   |(exact (h5 _ _ _ _ rfl rfl).elim)
theorem zve {op:BinOp}{t:TypeId}{xo yo:Operand}{k:IntKind}{n:Int}{b:Value}:(eqGuard op t xo yo (.int k n) b).run P w= .ok () w:=by
 cases op<;>first|rfl|(cases b<;>rfl)
theorem zel {op:BinOp}{t:TypeId}{xo yo:Operand}{s:ByteArray}{b:Value}:(eqGuard op t xo yo (.string s) b).run P w= .ok () w:=by
 cases op<;>first|rfl|(cases b<;>rfl)
theorem zal1 (hL:LOk0 L P){op:BinOp}{t:TypeId}{xo yo:Operand}{x y r:AV}(h:evBin L op t xo yo x y=some r) :
  ((do eqGuard op t xo yo (conc E x) (conc E y);binOp op t (conc E x) (conc E y)):Sem Value).run P w= .ok (conc E r) w:=by
 unfold evBin at h;simp only [qj];split at h
 ·split at h
  ·simp only [conc,zve,qb]
   exact zno (.inl rfl) h
  ·cases h
 ·split at h
  ·simp only [conc,zve,qb]
   exact zno (.inr rfl) h
  ·cases h
 ·split at h
  ·split at h
   ·next hk =>
    have hk':=qg hk;subst hk';simp only [conc,zve,qb];exact zyk1 h
   ·cases h
  ·simp only [conc,zel,qb]
   exact zzk1 h
  ·next hi hs =>
   have hb:zpo x y=false:=by
    unfold zpo;split
    ·exact (hi _ _ _ _ rfl rfl).elim
    ·exact (hs _ _ rfl rfl).elim
    ·rfl
   split at h<;>first
    |(cases h;done)
    |(split at h
      ·cases h
      ·next hg =>
       rw [zav hL hg];simp only [qb];split at h
       ·next rr hr =>
        cases h
        first
         |exact zqo hb (zpx hL 40 10000 t x y rr oM hr)
         |exact zro hb (zpx hL 40 10000 t x y rr oM hr)
       ·cases h)
theorem zhi (hL:LOk0 L P){t:TypeId}{x r:AV}(h:zva L t x=some r):(Instr.makeInterface t (conc E x)).run P w= .ok (conc E r) w:=by
 unfold zva at h;unfold Instr.makeInterface;split at h
 ·cases h
 ·next d hu hd =>
  cases h
  simp only [qj,zca hL hd,qb];cases d<;>first
   |rfl
   |exact (hu _ rfl).elim
 ·cases h
theorem zpl (want:Array (String×TypeId)) (got:Array Method):lacking want got= []↔zkk1 want got=true:=by
 unfold lacking zkk1;rw [qn6,List.filter_eq_nil_iff,qb1];constructor
 ·intro h p hp
  have:=h p hp;rw [Array.any_toList]
  simpa using this
 ·intro h p hp
  have:=h p hp;rw [Array.any_toList] at this
  simpa using this
theorem zbv (hL:LOk0 L P){x r:AV}{xt t:TypeId}{ok:Bool}(h:zde L x t ok=some r):(Instr.typeAssert (conc E x) xt t ok).run P w= .ok (conc E r) w:=by
 have fails:∀(e:RuntimeError),zml L t ok=some r->((if ok=true then (do pure (Value.tuple #[← zeroValue t,.bool false]):Sem Value) else runtimePanic e)).run P w= .ok (conc E r) w:=by
  intro e hf;unfold zml at hf;cases ok with
  |false=>cases hf
  |true =>
   simp only at hf;split at hf
   ·next z hz =>
    cases hf
    simp only [qc5,qj,zzc (E:=E) hL hz,qb,qt];rfl
   ·cases hf
 have holds:∀v,zsw ok v=some r->(pure (if ok=true then Value.tuple #[conc E v,.bool true] else conc E v):Sem Value).run P w= .ok (conc E r) w:=by
  intro v hv;cases ok<;>(cases hv;rfl)
 unfold zde at h;unfold Instr.typeAssert;split at h
 ·cases h
 ·next want hu =>
  split at h
  ·simp only [conc,qj,zca hL hu,qb]
   exact fails _ h
  ·next t' v =>
   split at h
   ·next i hi =>
    simp only [conc,qj,zca hL hu,qb,zef hL hi];split at h
    ·next hm=>rw [missingMethod_none ((zpl _ _).2 hm)];exact holds (.ifc t' v) h
    ·next hm =>
     obtain ⟨s,hs⟩:=missingMethod_some (want:=want) (got:=i.methods) (fun hl=>by rw [(zpl _ _).1 hl] at hm;cases hm)
     rw [hs];exact fails _ h
   ·cases h
  ·cases h
 ·next d hd hu =>
  have key:∀(a:Value->Sem Value) (X Y:Sem Value),True:=fun _ _ _=>trivial
  split at h
  ·simp only [conc,qj,zca hL hu,qb]
   cases d<;>first
    |exact (hd _ rfl).elim
    |exact fails _ h
  ·next t' v =>
   simp only [conc,qj,zca hL hu,qb];split at h
   ·next ht =>
    have ht':=qf ht;subst ht';cases d<;>first
     |exact (hd _ rfl).elim
     |(simp only [qc5];exact holds v h)
   ·next ht =>
    have ht':=qz4 ht;cases d<;>first
     |exact (hd _ rfl).elim
     |(simp only [qd ht'];exact fails _ h)
  ·cases h
theorem zoc1 {x y r:AV}(h:zuw x y=some r):(Builtin.min2 (conc E x) (conc E y)).run P w= .ok (conc E r) w:=by
 unfold zuw at h;split at h
 ·cases h;rfl
 ·cases h
theorem zpc1 {x y r:AV}(h:zvw x y=some r):(Builtin.max2 (conc E x) (conc E y)).run P w= .ok (conc E r) w:=by
 unfold zvw at h;split at h
 ·cases h;rfl
 ·cases h
theorem zrx {f:AV->AV->Option AV}{g:Value->Value->Sem Value}(hfg:∀x y r,f x y=some r->(g (conc E x) (conc E y)).run P w= .ok (conc E r) w) (l:List AV) :
  ∀x r,fold2 f l x=some r->((concL E l).foldlM g (conc E x)).run P w= .ok (conc E r) w:=by
 induction l with
 |nil=>intro x r h;cases h;simp [concL]
 |cons y l ih =>
  intro x r h;unfold fold2 at h;rw [zta] at h;split at h
  ·next s hs =>
   simp only [concL,List.foldlM_cons,qj,hfg _ _ _ hs,qb];exact ih s r h
  ·cases h
end
section
variable {L:Lk}{P:Program}{w:World}{E:Env}{B:Nat}{H:AH}
theorem zrc {r:Nat}{o:Obj}(h:w.heap[r]? =some o) (hc:∀c e f,o≠ .cells c e f):(getObj r).run P w= .ok o w:=by
 cases o<;>first
  |exact absurd rfl (hc _ _ _)
  |(unfold getObj;simp only [Sem.run,h])
theorem zaf {r:Nat}{o o':Obj}(h:w.heap[r]? =some o) (hc:∀c e f,o≠ .cells c e f):(setObj r o').run P w= .ok () (zvc w r o'):=by
 unfold setObj;simp only [Sem.run,h];cases o<;>first|rfl|exact absurd rfl (hc _ _ _)
theorem HRel.map (hR:HRel B E H w){i:Nat}{es:List (AV×AV×Nat)}{c:Nat}(h:H.get i=some (.map es c)):w.heap[(E i).blk]? =some (.map (es.map (entryOf E)).toArray c):=hR.blk i _ h
theorem zeq (hL:LOk0 L P) (hR:HRel B E H w){t:TypeId}{ts:Array TypeId}{ty:TypeId}{x r:AV}{us:List Value}(ht:ts[0]? =some t) (h:evLen L t x H=some r) :
  (Builtin.len_ ts ty (conc E x::us).toArray).run P w= .ok (conc E r) w:=by
 unfold Builtin.len_;simp only [ht,qo1,qs1];unfold evLen at h;split at h
 ·next hu =>
  split at h
  ·cases h;simp only [qj,zca hL hu,qb,conc];rfl
  ·cases h
 ·next n e hu=>cases h;simp only [qj,zca hL hu,qb];rfl
 ·next a hu =>
  split at h
  ·next n e hu'=>cases h;simp only [qj,zca hL hu,zca hL hu',qb];rfl
  ·cases h
 ·next e hu =>
  split at h
  ·cases h;simp only [qj,zca hL hu,qb,conc];rfl
  ·cases h;simp only [qj,zca hL hu,qb,conc];rfl
  ·next k i o =>
   split at h
   ·next hk =>
    obtain ⟨n,rfl⟩:∃n,k=n+3:=⟨k - 3,by have:=qe1 hk;omega⟩
    cases h;simp only [qj,zca hL hu,qb,conc];rfl
   ·split at h
    ·next hk =>
     obtain ⟨d,rfl,rfl⟩:=zbx hk;cases h;simp only [qj,zca hL hu,qb,conc];rfl
    ·cases h
  ·cases h
 ·next k e hu =>
  split at h
  ·cases h;simp only [qj,zca hL hu,qb,conc];rfl
  ·next i =>
   split at h
   ·next es c hg =>
    cases h
    simp only [qj,zca hL hu,qb,conc];rw [zrc (hR.map hg) (fun _ _ _=>by simp)]
    simp [zxe,goInt]
   ·cases h
  ·cases h
 ·next dir e hu =>
  split at h
  ·next k i o =>
   split at h
   ·next hk =>
    rw [qm] at hk;have ho:=qf hk.2;have hk:=qf hk.1;subst hk ho;split at h
    ·next c buf hg =>
     cases h
     obtain ⟨s,rr,hb⟩:=hR.blk i _ hg;simp only [qj,zca hL hu,qb,conc];rw [zrc hb (fun _ _ _=>by simp)]
     simp [zxe,goInt,zma,qt]
    ·cases h
   ·cases h
  ·cases h
 ·cases h
theorem zfq (hL:LOk0 L P){t:TypeId}{ts:Array TypeId}{ty:TypeId}{x r:AV}{us:List Value}(ht:ts[0]? =some t) (h:evCap L t x=some r) :
  (Builtin.cap_ ts ty (conc E x::us).toArray).run P w= .ok (conc E r) w:=by
 unfold Builtin.cap_;simp only [ht,qo1,qs1];unfold evCap at h;split at h
 ·next n e hu=>cases h;simp only [qj,zca hL hu,qb];rfl
 ·next e hu =>
  split at h
  ·cases h;simp only [qj,zca hL hu,qb,conc];rfl
  ·split at h
   ·cases h;simp only [qj,zca hL hu,qb,conc];rfl
   ·cases h
  ·cases h
 ·cases h
theorem zto {d:TypeDesc}{a b:AV}{r:Bool}(h:zpf d a b=some r):Instr.sameNow d (conc E a) (conc E b)=some r:=by
 unfold zpf at h;split at h
 ·split at h
  ·next hk=>have:=qg hk;subst this;cases h;simp [conc,Instr.sameNow]
  ·cases h
 ·cases h;rfl
 ·cases h;rfl
 ·cases h
theorem zsx {d:TypeDesc}{k:AV}(es:List (AV×AV×Nat)):∀i r,findKey d k es i=some r->Instr.findNow d (conc E k) (es.map (entryOf E)) i=some (r.map fun p=>(p.1,conc E p.2)):=by
 induction es with
 |nil=>intro i r h;cases h;rfl
 |cons e es ih =>
  intro i r h;unfold findKey at h;rw [zta] at h;show Instr.findNow d (conc E k) (entryOf E e::es.map (entryOf E)) i=_
  unfold Instr.findNow;split at h
  ·next hs=>cases h;rw [show (entryOf E e).key=conc E e.1 from rfl,zto hs];rfl
  ·next hs=>rw [show (entryOf E e).key=conc E e.1 from rfl,zto hs];exact ih _ _ h
  ·cases h
theorem ztx {d:TypeDesc}{k:AV}(es:List (AV×AV×Nat)):∀i j v,findKey d k es i=some (some (j,v))->i<=j/\j<i+es.length/\ ∃e,es[j - i]? =some e/\zpf d k e.1=some true:=by
 induction es with
 |nil=>intro i j v h;cases h
 |cons e es ih =>
  intro i j v h;unfold findKey at h;rw [zta] at h;split at h
  ·next hs=>cases h;exact ⟨qn _,by simp,e,by simp,hs⟩
  ·obtain ⟨h1,h2,x,h3,h4⟩:=ih _ _ _ h
   refine ⟨oM,by simp;omega,x,?_,h4⟩
   obtain ⟨m,hm⟩:∃m,j - i=m+1:=⟨j - i - 1,oM⟩
   rw [hm,show m=j - (i+1) from oM];simpa using h3
  ·cases h
theorem zcv (hL:LOk0 L P){kt:TypeId}{d:TypeDesc}{k:AV}{es:List (AV×AV×Nat)}{r:Option (Nat×AV)}(hd:L.under kt=some d) (h:findKey d k es 0=some r) :
  (Instr.findKey kt (conc E k) (es.map (entryOf E))).run P w= .ok (r.map fun p=>(p.1,conc E p.2)) w:=by
 unfold Instr.findKey;simp only [qj,zca hL hd,qb,zsx es 0 r h,qt]
theorem zgq (hL:LOk0 L P){kt:TypeId}{d:TypeDesc}{k:AV}{e c:Bool}(hd:L.under kt=some d) (h:zpf d k k=some c):(Instr.checkKey e 10000 kt (conc E k)).run P w= .ok () w:=by
 unfold Instr.checkKey;simp only [qj,zca hL hd,qb];unfold zpf at h;split at h<;>first
  |rfl
  |(cases h;done)
theorem zhq {d:TypeDesc}{a b:AV}{E:Env}(h:zpf d a b=some true) (n:Nat):Instr.sameBits n (conc E b) (conc E a)=true:=by
 unfold zpf at h;split at h
 ·split at h
  ·next hk =>
   have:=qg hk;subst this;simp only [qe2,qa7] at h;subst h;cases n<;>simp [conc,Instr.sameBits]
  ·cases h
 ·simp only [qe2] at h
  rw [beq_toListBytes] at h;simp only [qa7] at h;cases n<;>simp [conc,Instr.sameBits,beq_toListBytes,h]
 ·simp only [qe2,qa7] at h
  subst h;cases n<;>simp [conc,Instr.sameBits]
 ·cases h
theorem zdv {a b:AV}(h:zwp a b=true) (n:Nat):Instr.sameBits n (conc E a) (conc E b)=true:=by
 unfold zwp at h;split at h
 ·split at h
  ·next hk =>
   have:=qg hk;subst this;simp only [qa7] at h;subst h;cases n<;>simp [conc,Instr.sameBits]
  ·cases h
 ·rw [beq_toListBytes] at h
  simp only [qa7] at h;cases n<;>simp [conc,Instr.sameBits,beq_toListBytes,h]
 ·simp only [qa7] at h
  subst h;cases n<;>simp [conc,Instr.sameBits]
 ·cases h
theorem ziq (xs:List AV) (n:Nat):∀ys,zfm xs ys=true->(concL E xs).length=(concL E ys).length/\((concL E xs).zip (concL E ys)).all (fun (x,y)=>Instr.sameBits n x y)=true:=by
 induction xs with
 |nil =>
  intro ys h;cases ys with
  |nil=>exact ⟨rfl,rfl⟩
  |cons y ys=>cases h
 |cons x xs ih =>
  intro ys h;unfold zfm at h;rw [zta] at h;cases ys with
  |nil=>cases h
  |cons y ys =>
   simp only at h;split at h
   ·next hxy =>
    obtain ⟨h1,h2⟩:=ih ys h;refine ⟨by show (concL E xs).length+1=(concL E ys).length+1;rw [h1],?_⟩
    show (Instr.sameBits n (conc E x) (conc E y) && ((concL E xs).zip (concL E ys)).all _)=true
    rw [zdv hxy,h2];rfl
   ·cases h
theorem ztm (n:Nat) (l:List AV) (hl:∀x∈l,∃k a,x= .int k a):((concL E l).zip (concL E l)).all (fun (x,y)=>Instr.sameBits n x y)=true:=by
 induction l with
 |nil=>rfl
 |cons x l ih =>
  obtain ⟨k,a,rfl⟩:=hl x (by simp)
  show (Instr.sameBits n (.int k a) (.int k a) && ((concL E l).zip (concL E l)).all _)=true
  rw [ih fun x hx=>hl x (by simp [hx])]
  cases n<;>simp [Instr.sameBits]
theorem zgh1 {n N:Nat}{ys:List AV}(h:(match Ce.pack ys with|some M=>(match Nat.beq n (len ys) with|true=>Nat.beq N M|false=>false)|none=>false)=true) :
  (∀x∈ys,∃k a,x= .int k a)/\ys=(Ce.byt n N).l:=by
 split at h
 ·next M hM =>
  split at h
  ·next hn =>
   have hn:=qf hn;have hN:=qf h;subst hN;rw [zxe] at hn;subst hn;have e:ys=(Ce.byt ys.length N).l:=by rw [Ce.l_byt];exact (Ce.pack_some ys N hM).symm
   refine ⟨fun x hx=> ?_,e⟩
   rw [e,Ce.l_byt,qy] at hx;obtain ⟨i,hx⟩:=hx;rw [Ce.bytesL_get] at hx;split at hx
   ·cases hx;exact ⟨_,_,rfl⟩
   ·cases hx
  ·cases h
 ·cases h
theorem zev {a b:AV}(h:zgm a b=true) (n:Nat):Instr.sameBits (n+1) (conc E a) (conc E b)=true:=by
 unfold zgm at h;split at h
 ·next m N m' M =>
  split at h
  ·next h1 =>
   have h1:=qf h1;have h2:=qf h;subst h1 h2;have hc:conc E (.bag m N)= .agg (concL E (Ce.byt m N).l).toArray:=zkd rfl;rw [hc];unfold Instr.sameBits;simp only [BEq.rfl,qn3];refine ztm n _ fun x hx=> ?_
   rw [Ce.l_byt] at hx;rw [qy] at hx;obtain ⟨i,hx⟩:=hx;rw [Ce.bytesL_get] at hx;split at hx
   ·cases hx;exact ⟨_,_,rfl⟩
   ·cases hx
  ·cases h
 ·next xs ys =>
  obtain ⟨h1,h2⟩:=ziq (E:=E) xs n ys h;show Instr.sameBits (n+1) (.agg (concL E xs).toArray) (.agg (concL E ys).toArray)=true
  unfold Instr.sameBits;simp only [List.size_toArray,h1,BEq.rfl,qn3];exact h2
 ·next m N ys =>
  obtain ⟨e1,e2⟩:=zgh1 h;have hc:conc E (.bag m N)= .agg (concL E ys).toArray:=by rw [e2];exact zkd rfl
  rw [hc];show Instr.sameBits (n+1) (.agg (concL E ys).toArray) (.agg (concL E ys).toArray)=true
  unfold Instr.sameBits;simp only [BEq.rfl,qn3];exact ztm n _ e1
 ·next ys m N =>
  obtain ⟨e1,e2⟩:=zgh1 h;have hc:conc E (.bag m N)= .agg (concL E ys).toArray:=by rw [e2];exact zkd rfl
  rw [hc];show Instr.sameBits (n+1) (.agg (concL E ys).toArray) (.agg (concL E ys).toArray)=true
  unfold Instr.sameBits;simp only [BEq.rfl,qn3];exact ztm n _ e1
 ·cases h
theorem zql (hL:LOk0 L P){t:TypeId}{d:TypeDesc}{v:Value}{e:Bool}{n:Nat}(hu:L.under t=some d) (hd:keyD d=true):(Instr.checkKey e (n+1) t v).run P w= .ok () w:=by
 unfold Instr.checkKey;simp only [qj,zca hL hu,qb];unfold keyD at hd;split at hd<;>first
  |rfl
  |(cases hd;done)
  |(cases v<;>rfl)
theorem zbl1 (hL:LOk0 L P){kt:TypeId}{d:TypeDesc}{k:AV}{e:Bool}{n:Nat}(hd:L.under kt=some d) (h:keyOk L d k=true):(Instr.checkKey e (n+2) kt (conc E k)).run P w= .ok () w:=by
 unfold keyOk at h;split at h
 ·cases h
 ·next cs hcs =>
  rw [zkd hcs];unfold Instr.checkKey;simp only [qj,zca hL hd,qb];split at h
  ·next fs =>
   simp only;rw [← Array.forIn_toList]
   revert h
   generalize fs.toList=l;intro h
   induction l with
   |nil=>simp
   |cons f l ih =>
    rw [zta] at h;split at h
    ·next fd hfd =>
     split at h
     ·next hkd =>
      split at h
      ·next a ha =>
       have ih:=ih h;rw [qj] at ih;simp only [List.forIn_cons,qj];by_cases hn : f.name ≠ "_"
       ·rw [qi hn]
        simp only [qj,zne hL ha,qb,zql hL hfd hkd,qt];exact ih
       ·rw [qd hn]
        simp only [qt,qb];exact ih
      ·cases h
     ·cases h
    ·cases h
  ·next m et =>
   split at h
   ·next ed s hed hag hs =>
    split at h
    ·next hkd hs1 =>
     have hs1:=qf hs1;subst hs1;have hm:m<=cs.l.length:=by
      have:=qe1 h;cases cs with
      |lst l=>exact qx2 this (Nat.le_of_eq (zxe l))
      |byt a N=>rw [Ce.l_byt,Ce.bytesL_length];exact this
     simp only [Std.Legacy.Range.forIn_eq_forIn_range',Std.Legacy.Range.size,Nat.sub_zero,Nat.add_one_sub_one,Nat.div_one];have each:∀i∈List.range' 0 m,i<m:=fun i hi=>by
      have:=List.mem_range'_1.mp hi;omega
     generalize List.range' 0 m=is at each
     induction is with
     |nil=>simp
     |cons j is ih =>
      have hj:=each j (by simp)
      obtain ⟨a,ha⟩:∃a,ztf L et cs (j*1)=some a:=by
       unfold ztf;rw [hag];simp only [qs3];rw [Ce.get_l];exact ⟨cs.l[j],qo oM⟩
      simp only [List.forIn_cons,qj,zkb hL hs,qb,zne hL ha,zql hL hed hkd,qt];have ih:=ih fun y hy=>each y (by simp [hy])
      rw [qj] at ih;exact ih
    ·cases h
   ·cases h
  ·cases h
theorem zqc1 (hL:LOk0 L P){t:TypeId}{k:AV}(es:List (AV×AV×Nat)):∀i r,ztw L t k es i=some r->(Instr.findAsking t (conc E k) (es.map (entryOf E)) i).run P w= .ok (r.map fun p=>(p.1,conc E p.2)) w:=by
 induction es with
 |nil=>intro i r h;cases h;rfl
 |cons e es ih =>
  intro i r h;unfold ztw at h;rw [zta] at h;show (Instr.findAsking t (conc E k) (entryOf E e::es.map (entryOf E)) i).run P w=_
  unfold Instr.findAsking;rw [show (entryOf E e).key=conc E e.1 from rfl]
  simp only [qj];have hq:∀b,evEq L 40 t k e.1=some b->(Op.equal t (conc E k) (conc E e.1)).run P w= .ok b w:=fun b hb=>zpx hL 40 Op.maxDepth t k e.1 b dC hb
  split at h
  ·next hs =>
   rw [hq _ hs];split at h
   ·cases h;rfl
   ·cases h
  ·next hs=>rw [hq _ hs];exact ih _ _ h
  ·cases h
theorem zrc1 {t:TypeId}{k:AV}(es:List (AV×AV×Nat)):∀i j v,ztw L t k es i=some (some (j,v))->i<=j/\j<i+es.length/\ ∃e,es[j - i]? =some e/\zgm e.1 k=true:=by
 induction es with
 |nil=>intro i j v h;cases h
 |cons e es ih =>
  intro i j v h;unfold ztw at h;rw [zta] at h;split at h
  ·split at h
   ·next hs=>cases h;exact ⟨qn _,by simp,e,by simp,hs⟩
   ·cases h
  ·obtain ⟨h1,h2,x,h3,h4⟩:=ih _ _ _ h
   refine ⟨oM,by simp;omega,x,?_,h4⟩
   obtain ⟨m,hm⟩:∃m,j - i=m+1:=⟨j - i - 1,oM⟩
   rw [hm,show m=j - (i+1) from oM];simpa using h3
  ·cases h
theorem zcl1 {d:TypeDesc}(hd:aggD d=true) (v:Value) (es:List MapEntry):es= []\/Instr.findNow d v es 0=none:=by
 cases es with
 |nil=>exact Or.inl rfl
 |cons e es =>
  right
  unfold Instr.findNow;unfold aggD at hd;split at hd<;>first
   |(cases hd;done)
   |rfl
theorem zge (hL:LOk0 L P){kt:TypeId}{k:AV}{es:List (AV×AV×Nat)}{r:Option (Nat×AV)}{e:Bool}(h:zqf L kt k es=some r):(Instr.checkKey e 10000 kt (conc E k)).run P w= .ok () w:=by
 unfold zqf at h;split at h
 ·cases h
 ·next d hd =>
  split at h
  ·split at h
   ·next hk=>exact zbl1 hL hd hk
   ·cases h
  ·split at h
   ·next hs=>exact zgq hL hd hs
   ·cases h
theorem zii (hL:LOk0 L P){kt:TypeId}{k:AV}{es:List (AV×AV×Nat)}{r:Option (Nat×AV)}(h:zqf L kt k es=some r) :
  (Instr.findKey kt (conc E k) (es.map (entryOf E))).run P w= .ok (r.map fun p=>(p.1,conc E p.2)) w:=by
 unfold zqf at h;split at h
 ·cases h
 ·next d hd =>
  split at h
  ·next hag =>
   split at h
   ·unfold Instr.findKey
    simp only [qj,zca hL hd,qb];rcases zcl1 hag (conc E k) (es.map (entryOf E)) with hn|hn
    ·have:es= []:=by simpa using hn
     subst this;cases h;rfl
    ·rw [hn]
     exact zqc1 hL es 0 r h
   ·cases h
  ·split at h
   ·exact zcv hL hd h
   ·cases h
theorem zux {kt:TypeId}{k:AV}{es:List (AV×AV×Nat)}{j:Nat}{v:AV}(h:zqf L kt k es=some (some (j,v))):j<es.length/\ ∃e,es[j]? =some e/\ ∀E:Env,Instr.sameBits 10000 (conc E e.1) (conc E k)=true:=by
 unfold zqf at h;split at h
 ·cases h
 ·split at h
  ·split at h
   ·obtain ⟨_,h2,e,h3,h4⟩:=zrc1 es 0 j v h
    exact ⟨oM,e,h3,fun E=>zev h4 9999⟩
   ·cases h
  ·split at h
   ·obtain ⟨_,h2,e,h3,h4⟩:=ztx es 0 j v h
    exact ⟨oM,e,h3,fun E=>zhq h4 10000⟩
   ·cases h
theorem zfv (hL:LOk0 L P) (hR:HRel B E H w){t:TypeId}{x k r:AV}{ok:Bool}(h:zob L t x k ok H=some r):(Instr.lookup t (conc E x) (conc E k) ok).run P w= .ok (conc E r) w:=by
 unfold zob at h;split at h
 ·next key elem hu =>
  split at h
  ·next z hz =>
   split at h
   ·cases h
   ·next es hes =>
     split at h
     ·cases h
     ·next rr hf =>
      cases h
      unfold Instr.lookup;simp only [qj,zca hL hu,qb];split at hes
      ·cases hes
       have hfk:=zii (P:=P) (w:=w) (E:=E) hL hf;simp only [conc,qj,qt,qb,zge hL hf];simp only [qz5] at hfk;rw [hfk];cases rr with
       |none=>simp only [qq4,qb,qj,zzc (E:=E) hL hz,qt];cases ok<;>rfl
       |some p=>exact absurd (zux hf).1 (qe4 _)
      ·next i =>
       split at hes
       ·next es' c' hg =>
        cases hes
        have hfk:=zii (P:=P) (w:=w) (E:=E) hL hf;simp only [conc,qj];rw [zrc (hR.map hg) (fun _ _ _=>by simp)]
        simp only [qj,qt,qb,zge hL hf];rw [hfk];cases rr with
        |none=>simp only [qq4,qb,qj,zzc (E:=E) hL hz,qt];cases ok<;>rfl
        |some p=>simp only [qg4,qb,qj,qt];cases ok<;>rfl
       ·cases hes
      ·cases hes
  ·cases h
 ·cases h
theorem zjj (hw:H.Wf) (hS:St B E H w){i:Nat}{es:List (AV×AV×Nat)}{c:Nat}(hg:H.get i=some (.map es c)) (hlo:H.lo<=i) (es':List (AV×AV×Nat)) (c':Nat)
  (hx:∀E',Agree H.next E E'->es'.map (entryOf E')=es'.map (entryOf E)) :
  St B E (H.put i (.map es' c')) (zvc w (E i).blk (.map (es'.map (entryOf E)).toArray c'))/\Post E H w E (H.put i (.map es' c')) (zvc w (E i).blk (.map (es'.map (entryOf E)).toArray c'))/\(H.put i (.map es' c')).Wf :=
 zmm hw hS hg rfl hlo _ _ (fun r hr=>by rw [hS.self.map hg] at hr;cases hr) (fun x off hx=>by rw [hS.self.map hg] at hx;cases hx;rfl) fun E' hE=>by
  show (zvc w (E i).blk _).heap[(E' i).blk]? =_
  rw [hE i (hw.get_lt hg),hx E' hE];exact zid (hS.self.map hg)
theorem map_E (hw:H.Wf) (hS:St B E H w){i:Nat}{es:List (AV×AV×Nat)}{c:Nat}(hg:H.get i=some (.map es c)){E':Env}(hE:Agree H.next E E'):es.map (entryOf E')=es.map (entryOf E):=by
 have h1:=(hS E' hE).map hg;rw [hE i (hw.get_lt hg),hS.self.map hg] at h1
 simpa using h1.symm
theorem zjh (hL:LOk0 L P) (hw:H.Wf) (hS:St B E H w){t:TypeId}{m k x:AV}{H1:AH}{vm vk vx:Value}(hm:StV E H.next m vm) (hk:StV E H.next k vk) (hx:StV E H.next x vx) (h:zqa L t m k x H=some H1) :
  ∃w1,(Instr.mapUpdate t vm vk vx).run P w= .ok () w1/\St B E H1 w1/\Post E H w E H1 w1/\H1.Wf:=by
 rw [hm.self,hk.self,hx.self];unfold zqa at h;split at h
 ·next key elem i hu =>
  ·split at h
   ·next es clock hlo hg =>
    have hlo':=ble_t hlo
    ·have hent:∀E',Agree H.next E E'-> ∀b,entryOf E' (k,x,b)=entryOf E (k,x,b):=fun E' hE b=>by
      unfold entryOf;simp only;rw [← hk E' hE,← hk.self,← hx E' hE,← hx.self]
     split at h
     ·cases h
     ·next hf =>
      cases h
      have hfk:=zii (P:=P) (w:=w) (E:=E) hL hf;refine ⟨_,?_,zjj hw hS hg hlo' (es ++ [(k,x,clock)]) (clock+1) (fun E' hE=>by simp only [qe3,map_E hw hS hg hE,qp1,qz5,hent E' hE])⟩
      unfold Instr.mapUpdate;simp only [qj,zca hL hu,qb,conc];rw [zrc (hS.self.map hg) (fun _ _ _=>by simp)]
      simp only [qj,qb,zge hL hf];rw [hfk];simp only [qq4,qb];rw [zaf (hS.self.map hg) (fun _ _ _=>by simp)]
      simp [entryOf]
     ·next j v hf =>
      obtain ⟨hj2,e,he,hse⟩:=zux hf;split at h
      ·next e' he' =>
       rw [zug,he] at he';cases he';split at h
       ·next es' hov =>
        cases h
        obtain ⟨ho1,ho2⟩:=(zcc _ _ _ _).1 hov;have hfk:=zii (P:=P) (w:=w) (E:=E) hL hf;refine ⟨_,?_,zjj hw hS hg hlo' es' clock (fun E' hE=>by
         have h0:=map_E hw hS hg hE;subst ho2;simp only [qe3,qk5,ql5,h0,qp1,qz5,hent E' hE])⟩
        unfold Instr.mapUpdate;simp only [qj,zca hL hu,qb,conc];rw [zrc (hS.self.map hg) (fun _ _ _=>by simp)]
        simp only [qj,qb,zge hL hf];rw [hfk];simp only [qg4,qb,qj];have hold:(((es.map (entryOf E)).toArray[j]?).map (·.key)).getD (conc E k)=conc E e.1:=by simp [he,entryOf]
        rw [hold];unfold Instr.keyThatStays;rw [qi (hse E)];simp only [qt,qb];rw [zaf (hS.self.map hg) (fun _ _ _=>by simp)]
        congr 3
        refine qv6 fun q=> ?_
        rw [Array.getElem?_modify];subst ho2;simp only [qo1,qe3,qk5,ql5,qp1,qz5];have hlt:(List.take j (es.map (entryOf E))).length=j:=by simp;omega
        by_cases hq:q=j
        ·subst hq
         rw [qi1,qz1 oM]
         simp [he,entryOf,hlt]
        ·rw [qd (qa6 hq)]
         by_cases hq2:q<j
         ·rw [qi1,qt1 oM,qf2 hq2]
         ·rw [qz1 (by simp;omega),qu2]
          congr 1
          simp;omega
       ·cases h
      ·cases h
   ·cases h
 ·cases h
end
section
variable {L:Lk}{P:Program}{w:World}{E:Env}{B:Nat}{H:AH}
theorem zvx (hL:LOk0 L P) (hw:H.Wf) (hS:St B E H w){t:TypeId}{a v:AV}{H1:AH}{ua uv:Value}(ha:StV E H.next a ua) (hv:StV E H.next v uv) (h:zed L t a v H=some H1) :
  ∃w1,(Instr.storeAt t ua uv).run P w= .ok () w1/\St B E H1 w1/\Post E H w E H1 w1/\H1.Wf:=by
 rw [ha.self,hv.self];unfold zed at h;split at h
 ·next i o =>
  split at h
  ·next s hs =>
   split at h
   ·next hl =>
    have hl':=qf hl;rw [Ce.len_l,toC_l] at hl';obtain ⟨w1,hr,h1,h2,h3,_⟩:=zij (P:=P) hw hS (X:=v.toC) (by rw [toC_l];exact fun E' hE=>zxr ((hv E' hE).symm.trans hv.self)) h
    rw [toC_l] at hr;refine ⟨w1,?_,h1,h2,h3⟩;unfold Instr.storeAt;simp only [conc,Instr.sureAddr,qj,qt,qb,storeVar,zkb hL hs,qp4,zab];rw [qd (by simp [zma,hl'])]
    exact hr
   ·cases h
  ·cases h
 ·cases h
theorem zjq {x:AV}{n:Nat}(h:lenOf x=some n):(Builtin.lenOf (conc E x)).run P w= .ok n w:=by
 unfold lenOf at h;split at h<;>first
  |(cases h;rfl)
  |(split at h<;>first
   |(next hk=>obtain ⟨a,c,he⟩:=zjm hk E;cases h;rw [he];rfl)
   |cases h)
  |cases h
theorem zlg (hR:HRel B E H w){z n:Nat}{x:AV}{l:Ce}(h:zib z x n H=some l):(Builtin.firstCells z n (conc E x)).run P w= .ok (concL E l.l).toArray w:=by
 unfold zib at h;split at h
 ·split at h
  ·cases h;rfl
  ·cases h
 ·exact hR.read (P:=P) (zfh h)
 ·next s =>
  split at h
  case h_2=>cases h
  split at h
  case h_2=>cases h
  next xs hxs =>
  cases h
  rw [Ce.of_l];obtain ⟨h1,h2⟩:=(zwj _ _ _).1 hxs;subst h2;simp only [conc,Builtin.firstCells,qt];congr 1;rw [zlo,zhd];apply qb7;simp [ByteArray.data_extract,qk5,Function.comp_def,conc,List.extract_eq_take_drop]
 ·split at h
  ·next hk =>
   simp only [qm] at hk;obtain ⟨a,c,he⟩:=zjm hk.1 E;have hn:=qf hk.2;subst hn;cases h;rw [he];simp only [Builtin.firstCells,qy4];rfl
  ·cases h
 ·cases h
theorem zkq {z n:Nat}{x:AV}{l:Ce}(h:zib z x n H=some l):l.l.length=n*z:=by
 unfold zib at h;split at h
 ·split at h
  ·next hn=>cases h;rw [qf hn];simp [Ce.l]
  ·cases h
 ·have h:=zfh h
  unfold AH.read at h;split at h
  ·exact (zzd h).1
  ·cases h
 ·split at h
  ·next hz =>
   have:=qf hz;subst this;split at h
   ·next xs hxs =>
    cases h
    rw [Ce.of_l];obtain ⟨h1,h2⟩:=(zwj _ _ _).1 hxs;subst h2;rw [qa1];omega
   ·cases h
  ·cases h
 ·split at h
  ·next hk =>
   simp only [qm] at hk;cases h;rw [qf hk.2];simp [Ce.l]
  ·cases h
 ·cases h
theorem zuo (hw:H.Wf) (hS:St B E H w){z n:Nat}{x:AV}{l:Ce}{P:Program}(hx:∀E',Agree H.next E E'->conc E' x=conc E x) (h:zib z x n H=some l){E':Env}(hE:Agree H.next E E'):concL E' l.l=concL E l.l:=by
 have h1:=zlg (P:=P) (w:=w) hS.self h;have h2:=zlg (P:=P) (w:=w) (hS E' hE) h;rw [hx E' hE,h1] at h2
 simpa using h2.symm
theorem read_E (hS:St B E H w) (P:Program){i o n:Nat}{l:List AV}(hi:i<H.next) (h:H.read i o n=some l){E':Env}(hE:Agree H.next E E'):concL E' l=concL E l:=by
 have h1:=hS.self.read (P:=P) h;have h2:=(hS E' hE).read (P:=P) h;rw [show cA E' i o=cA E i o from by unfold cA;rw [hE i hi],h1] at h2
 simpa using h2.symm
theorem zhh1 (hw:H.Wf) (hS:St B E H w){i:Nat}{b0:ABlk}(hg0:H.get i=some b0) (hown:b0.own=true) (hlo:H.lo<=i) (b:ABlk) (o:Obj) (x:EB) (hxb:x.blk=(E i).blk) (hk:∀r,w.heap[(E i).blk]? =some (.loop r)-> ∃r',o= .loop r') (hz:∀x off,w.heap[(E i).blk]? =some x->objFz o off=objFz x off)
  (hb:∀E',Agree H.next E E'->E' H.next=x->BRel E' H.next b (zvc w (E i).blk o)) :
  St B (E.add H.next x) ((H.drop i).new b) (zvc w (E i).blk o)/\Post E H w (E.add H.next x) ((H.drop i).new b) (zvc w (E i).blk o)/\((H.drop i).new b).Wf:=by
 have hvis:=(AH.get_some.1 hg0).1;have hlt:=hw.get_lt hg0;have hwd:(H.drop i).Wf:=AH.put_wf hw hlt _;have hnx:(H.drop i).next=H.next:=rfl;have hget:∀j,((H.drop i).new b).get j=if j=H.next then some b else if j=i then some .defd else H.get j:=fun j=>by
  rw [AH.new_get hwd,hnx];split
  ·rfl
  ·exact AH.put_get hvis _ j
 have hl0:b0.live=true:=by cases b0<;>first|rfl|(simp [ABlk.own] at hown)
 refine ⟨fun E' hE=> ?_,?_,AH.new_wf hwd b⟩
 ·have hA:Agree H.next E E':=(Env.add_agree E H.next _).trans hE (qy3 _)
  have hn:E' H.next=x:=(hE H.next (qd1 _)).trans (Env.add_self _ _ _);have hei:E' i=E i:=hA i hlt;have r:=hS E' hA;refine ⟨fun j c hg=> ?_,fun j k c d hj hk hne hc hd=> ?_,fun j c hg hc=> ?_,by rw [zze];exact r.size⟩
  ·rw [hget] at hg
   split at hg
   ·next h=>subst h;cases hg;exact hb E' hA hn
   ·split at hg
    ·cases hg;trivial
    ·next h1 h2 =>
     refine (r.blk j c hg).congr fun hl=>zig ?_
     rw [← hei];exact r.inj i j b0 c hg0 hg (qa6 h2) hown hl
  ·rw [hget] at hj hk
   have hlc:c.live=true:=by cases c<;>first|rfl|(simp [ABlk.own] at hc)
   split at hj
   ·next h1 =>
    subst h1;rw [qd (qa6 hne)] at hk;split at hk
    ·cases hk;cases hd
    ·next h2=>rw [hn,hxb,← hei];exact r.inj i k b0 d hg0 hk (qa6 h2) hown hd
   ·split at hj
    ·cases hj;cases hc
    ·next h1 h2 =>
     split at hk
     ·next h3 =>
      subst h3;rw [hn,hxb,← hei];exact (r.inj i j b0 c hg0 hj (qa6 h2) hown hlc).symm
     ·split at hk
      ·cases hk;cases hd
      ·exact r.inj j k c d hj hk hne hc hd
  ·rw [hget] at hg
   split at hg
   ·next h=>subst h;rw [hn,hxb,← hei];exact r.base i b0 hg0 hown
   ·split at hg
    ·cases hg;cases hc
    ·exact r.base j c hg hc
 ·refine ⟨Env.add_agree _ _ _,qy3 _,rfl,rfl,rfl,rfl,rfl,by rw [zze];exact qn _,fun c hc hn=> ?_,fun c ho=> ?_,fun j hj=> ?_,zak hk,fun h=>⟨h,zfi hz⟩,fun c ho=> ?_,qn _⟩
  ·refine zig ?_
   rintro rfl;exact hn ⟨i,b0,hg0,hown,hlo,rfl⟩
  ·obtain ⟨j,d,hg,hd,hl,he⟩:=ho
   left
   rw [hget] at hg;split at hg
   ·next h=>subst h;rw [Env.add_self,hxb] at he;exact ⟨i,b0,hg0,hown,hlo,he⟩
   ·split at hg
    ·cases hg;cases hd
    ·exact ⟨j,d,hg,hd,hl,by rw [← he,Env.add_agree E H.next x j (hw.get_lt hg)]⟩
  ·show ((H.tree.set i .defd).set H.next b).get j=_
   rw [Tr.get_set,qd,Tr.get_set,qd]
   ·rintro rfl
    rcases hj with hj|hj
    ·omega
    ·rw [hvis] at hj;cases hj
   ·rintro rfl
    rcases hj with hj|hj
    ·exact absurd hw.lo oM
    ·rw [hw.vis_ge (qn _)] at hj;cases hj
  ·obtain ⟨j,d,hg,hd,he⟩:=ho
   left
   rw [hget] at hg;split at hg
   ·next h=>subst h;rw [Env.add_self,hxb] at he;exact ⟨i,b0,hg0,hl0,he⟩
   ·split at hg
    ·cases hg;cases hd
    ·exact ⟨j,d,hg,hd,by rw [← he,Env.add_agree E H.next x j (hw.get_lt hg)]⟩
theorem zzr (z:Array Value) (n:Nat):(Builtin.zeroCells z n).size=n*z.size:=by
 unfold Builtin.zeroCells;simp
theorem zmg (n:Nat):(askRoom n).run P w= .ok () w:=by
 unfold askRoom;simp only [qp4];split
 ·rfl
 ·rfl
theorem zrd {zs:List AV}(n:Nat):Builtin.zeroCells (concL E zs).toArray n=(concL E (rep zs n)).toArray:=by
 have h:=zrm (E:=E) (zs:=zs) rfl n;unfold Builtin.zeroCells;by_cases hn:n*zs.length=0
 ·simp only [qi hn] at h
  rw [← h,hn];simp [zma,hn]
 ·simp only [qd hn] at h
  rw [← h];simp [zma]
def zdl1 (P:Program) (w:World) (d':TypeDesc) (b z n:Nat) (zc:Array Value) (x:Value) (new:Array Value):Prop :=
 ((d'= .string\/ ∃e',d'= .slice e')/\(Builtin.lenOf x).run P w= .ok n w/\ ∀w',w'.heap=w.heap->(Builtin.firstCells z n x).run P w'= .ok new w')
 \/((∃k,d'= .int k)/\x= .int .i64 (.ofNat n)/\n*b<=140737488355328/\n<=9223372036854775807/\zc.size=z/\new=Builtin.zeroCells zc n)
theorem wrap_i64 {n:Nat}(h:n<=9223372036854775807):IntKind.i64.wrap (n:Int)=(n:Int):=by rw [IntKind.wrap_i64];omega
theorem zkh (zc:Array Value){n:Nat}(h:n*zc.size=0):Builtin.zeroCells zc n= #[]:=by
 unfold Builtin.zeroCells;rw [h];simp
theorem zgv (hL:LOk0 L P){e:TypeId}{zv:AV}(hzv:L.zero e=some zv):∀u∈concL (fun _=>⟨0,0,0⟩) zv.cells,FlatV e u:=by
 intro u hu;obtain ⟨j,hj⟩:=qy.1 hu;rw [zna?] at hj;cases hz:zv.cells[j]? with
 |none=>rw [hz] at hj;cases hj
 |some v =>
  rw [hz] at hj;refine ⟨⟨v,fun E=> ?_⟩,fun he=> ?_,fun he=> ?_⟩
  case refine_2 =>
   subst he;rw [hL.nv.1] at hzv;cases hzv;cases j with
   |zero=>cases hz;exact (ql3 hj).symm
   |succ j=>cases hz
  case refine_3 =>
   subst he;rw [hL.nv.2] at hzv;cases hzv;cases j with
   |zero=>cases hz;exact (ql3 hj).symm
   |succ j=>cases hz
  have h1:=zdk hL hzv E (fun _=>⟨0,0,0⟩)
  have h2:(concL E zv.cells)[j]? =(concL (fun _=>⟨0,0,0⟩) zv.cells)[j]? :=by rw [h1]
  rw [zna?,zna?,hz] at h2;exact (ql3 h2).trans (ql3 hj)
theorem zum (hL:LOk0 L P){e:TypeId}{zv:AV}(hzv:L.zero e=some zv) (n:Nat):∀u∈(Builtin.zeroCells (concL (fun _=>⟨0,0,0⟩) zv.cells).toArray n).toList,FlatV e u:=by
 intro u hu;rw [zrd] at hu;simp only [List.mem_toArray,Array.toList] at hu;have hmem:∀n,u∈concL (fun _=>⟨0,0,0⟩) (rep zv.cells n)->u∈concL (fun _=>⟨0,0,0⟩) zv.cells:=by
  intro n
  induction n with
  |zero=>intro h;cases h
  |succ n ih =>
   intro h;rw [zyj,zjc,qp2] at h;exact h.elim id ih
 exact zgv hL hzv u (hmem n hu)
theorem zwx (hL:LOk0 L P){e:TypeId}{z b:Nat}{zv:AV}(hz:L.size e=some z) (hb:L.bytes e=some b) (hzv:L.zero e=some zv) (hzl:zv.cells.length=z)
  {ts:Array TypeId}{ty t t':TypeId}(ht:ts[0]? =some t) (ht':ts[1]? =some t') (hu:L.under t=some (.slice e)){d':TypeDesc}(hu':L.under t'=some d')
  {x:Value}{base:Option Addr}{l c n:Nat}{old new:Array Value}{rest':List Value}(hsrc:zdl1 P w d' b z n (concL (fun _=>⟨0,0,0⟩) zv.cells).toArray x new) (hg:c<l+n)
  (h63:l+n<=9223372036854775807) (hby:(l+n)*b<=140737488355328)
  (hold:∀w',w'.heap=w.heap->(Builtin.firstCells z l (.slice base l c)).run P w'= .ok old w') :
  ∃ex,∃rest:List Value,rest.length=ex*z/\(∀u∈rest,FlatV e u/\(l+n)*z+rest.length<=9223372036854775807*z) /\
   (Builtin.append_ ts ty (.slice base l c::x::rest').toArray).run P w= .ok (.slice (some ⟨w.heap.size,0,none⟩) (l+n) (l+n+ex)) (wNew w.drew (.cells ((old ++ new).toList ++ rest).toArray e)):=by
 obtain ⟨i,hi,hib⟩:∃i,L.info e=some i/\i.bytes=b:=by
  unfold Lk.bytes at hb;split at hb
  ·next i hi=>cases hb;exact ⟨i,hi,rfl⟩
  ·cases hb
 refine ⟨w.tape w.drawn (.appendCap (l+n) c e)%(2 ^ 63 - (l+n)),(Builtin.zeroCells (concL (fun _=>⟨0,0,0⟩) zv.cells).toArray (w.tape w.drawn (.appendCap (l+n) c e)%(2 ^ 63 - (l+n)))).toList,?_,fun u hu=>⟨zum hL hzv _ u hu,?_⟩,?_⟩
 ·simp [zzr,zma,hzl]
 ·have h1:w.tape w.drawn (.appendCap (l+n) c e)%(2 ^ 63 - (l+n))<2 ^ 63 - (l+n):=qi6 _ oM
  have h2:(Builtin.zeroCells (concL (fun _=>⟨0,0,0⟩) zv.cells).toArray (w.tape w.drawn (.appendCap (l+n) c e)%(2 ^ 63 - (l+n)))).toList.length=(w.tape w.drawn (.appendCap (l+n) c e)%(2 ^ 63 - (l+n)))*z:=by simp [zzr,zma,hzl]
  rw [h2,← qj4];exact qd2 z oM
 ·have hn':¬(l+n<=c):=oM
  have h63':¬(9223372036854775807<((l:Int)+(n:Int))):=oM
  have hfit:=growslice_fits hg hby;have h48':¬(281474976710656<Builtin.nextslicecap (l+n) c*b):=oM
  have ho:=hold w.drew rfl;have hty:∀w,(typeInfo e).run P w= .ok i w:=fun w=>zef hL hi w
  have hsz:∀w,(sizeOf e).run P w= .ok z w:=fun w=>zkb hL hz w
  have hzr:∀w,(zeroValue e).run P w= .ok (conc (fun _=>⟨0,0,0⟩) zv) w:=fun w=>zzc hL hzv w
  have hu1:∀w,(underlying t).run P w= .ok (.slice e) w:=fun w=>zca hL hu w
  have hu2:∀w,(underlying t').run P w= .ok d' w:=fun w=>zca hL hu' w
  have hcut:(Question.appendCap (l+n) c e).cut (w.tape w.drawn (Question.appendCap (l+n) c e)) - (l+n)=w.tape w.drawn (Question.appendCap (l+n) c e)%(9223372036854775808 - (l+n)):=Nat.add_sub_cancel_left ..
  have fin:∀zs:Array Value,w.drew.alloc (Obj.cells (old ++ (new ++ zs)) e)=wNew w.drew (Obj.cells (old.toList ++ (new.toList ++ zs.toList)).toArray e):=by
   intro zs;show wNew w.drew _=_
   congr 2
   apply qb7
   simp
  rcases hsrc with ⟨hd',hn,hnew⟩|⟨⟨k,rfl⟩,rfl,hnb,hn63,hzc,hnw⟩
  ·have hw':=hnew w.drew rfl
   rcases hd' with rfl|⟨e',rfl⟩
   ·simp only [Builtin.append_,ht,ht',qo1,qs1,qg3]
    simp [hu1,hu2,hsz,hty,hzr,hn,hn',h63',hib,h48',Question.forced,ho,hw',newRow,zmg,zab];refine ⟨rfl,?_⟩;rw [hcut];exact fin _
   ·simp only [Builtin.append_,ht,ht',qo1,qs1,qg3]
    simp [hu1,hu2,hsz,hty,hzr,hn,hn',h63',hib,h48',Question.forced,ho,hw',newRow,zmg,zab];refine ⟨rfl,?_⟩;rw [hcut];exact fin _
  ·have hwrap:IntKind.i64.wrap (n:Int)=(n:Int):=wrap_i64 hn63
   have hneg:¬((n:Int)<0):=oM
   have hbn:¬((n:Int)*(b:Int)>281474976710656):=by
    have:((n*b:Nat):Int)<=140737488355328:=Int.ofNat_le.mpr hnb
    push_cast at this
    omega
   simp only [Builtin.append_,ht,ht',qo1,qs1,qg3];by_cases h0:n*z=0
   ·have hne:new= #[]:=by rw [hnw];exact zkh _ (by rw [hzc];exact h0)
    subst hne;simp [hu1,hu2,hsz,hty,hzr,hn',h63',hib,h48',Question.forced,ho,newRow,zmg,zab,asInt,asIntOf,hwrap,hneg,hbn,h0];refine ⟨rfl,?_⟩;rw [hcut];have:=fin (Builtin.zeroCells (concL (fun x=>⟨0,0,0⟩) zv.cells).toArray (w.tape w.drawn (Question.appendCap (l+n) c e)%(9223372036854775808 - (l+n))))
    simpa using this
   ·subst hnw
    simp [hu1,hu2,hsz,hty,hzr,hn',h63',hib,h48',Question.forced,ho,newRow,zmg,zab,asInt,asIntOf,hwrap,hneg,hbn,h0];refine ⟨rfl,?_⟩;rw [hcut];exact fin _
theorem zlq (hL:LOk0 L P){e:TypeId}{z b:Nat}{zv:AV}(hz:L.size e=some z) (hb:L.bytes e=some b) (hzv:L.zero e=some zv)
  {ts:Array TypeId}{ty t t':TypeId}(ht:ts[0]? =some t) (ht':ts[1]? =some t') (hu:L.under t=some (.slice e)){d':TypeDesc}(hu':L.under t'=some d')
  {x:Value}{base:Option Addr}{l c n:Nat}{new:Array Value}{rest':List Value}(hsrc:zdl1 P w d' b z n (concL (fun _=>⟨0,0,0⟩) zv.cells).toArray x new) (hg:l+n<=c) :
  (Builtin.append_ ts ty (.slice base l c::x::rest').toArray).run P w =
   ((match base with|none=>(pure ():Sem Unit)|some a=>storeCells (a.add (l*z)) new.toList).run P w).andThen (fun _ w'=>Result.ok (Value.slice base (l+n) c) w'):=by
 have hsz:∀w,(sizeOf e).run P w= .ok z w:=fun w=>zkb hL hz w
 have hu1:∀w,(underlying t).run P w= .ok (.slice e) w:=fun w=>zca hL hu w
 have hu2:∀w,(underlying t').run P w= .ok d' w:=fun w=>zca hL hu' w
 obtain ⟨i,hi,hib⟩:∃i,L.info e=some i/\i.bytes=b:=by
  unfold Lk.bytes at hb;split at hb
  ·next i hi=>cases hb;exact ⟨i,hi,rfl⟩
  ·cases hb
 have hty:∀w,(typeInfo e).run P w= .ok i w:=fun w=>zef hL hi w
 have hzr:∀w,(zeroValue e).run P w= .ok (conc (fun _=>⟨0,0,0⟩) zv) w:=fun w=>zzc hL hzv w
 rcases hsrc with ⟨hd',hn,hnew⟩|⟨⟨k,rfl⟩,rfl,hnb,hn63,hzc,hnw⟩
 ·have hnew:=hnew w rfl
  rcases hd' with rfl|⟨e',rfl⟩ <;>
  ·simp only [Builtin.append_,ht,ht',qo1,qs1,qg3]
   cases base<;>simp [hu1,hu2,hsz,hn,hg,hnew]
 ·have hwrap:IntKind.i64.wrap (n:Int)=(n:Int):=wrap_i64 hn63
  have hneg:¬((n:Int)<0):=oM
  have hbn:¬((n:Int)*(b:Int)>281474976710656):=by
   have:((n*b:Nat):Int)<=140737488355328:=Int.ofNat_le.mpr hnb
   push_cast at this
   omega
  simp only [Builtin.append_,ht,ht',qo1,qs1,qg3];by_cases h0:n*z=0
  ·have hne:new= #[]:=by rw [hnw];exact zkh _ (by rw [hzc];exact h0)
   subst hne;cases base<;>simp [hu1,hu2,hsz,hty,hzr,hg,hib,zab,asInt,asIntOf,hwrap,hneg,hbn,h0]
  ·subst hnw
   cases base<;>simp [hu1,hu2,hsz,hty,hzr,hg,hib,zab,asInt,asIntOf,hwrap,hneg,hbn,h0]
theorem zvo (hL:LOk0 L P) (hw:H.Wf) (hS:St B E H w){ts:Array TypeId}{ty t t':TypeId}(ht:ts[0]? =some t) (ht':ts[1]? =some t'){d':TypeDesc}(hu':L.under t'=some d')
  {e:TypeId}(hu:L.under t=some (.slice e)){z b:Nat}{zv:AV}(hz:L.size e=some z) (hb:L.bytes e=some b) (hzv:L.zero e=some zv) (hzl:zv.cells.length=z)
  {s:AV}{ux:Value}(hsE:∀E',Agree H.next E E'->conc E' s=conc E s){n:Nat}{new:Ce}(hsrc:zdl1 P w d' b z n (concL (fun _=>⟨0,0,0⟩) zv.cells).toArray ux (concL E new.l).toArray)
  (hnE:∀E',Agree H.next E E'->concL E' new.l=concL E new.l) (hone:new.l.all AV.oneCell=true) (hlen:new.l.length=n*z)
  {rest':List Value}{v:AV}{H1:AH}(h:znl e z b n new s H=some (v,H1)) :
  ∃u w1,(Builtin.append_ ts ty (conc E s::ux::rest').toArray).run P w= .ok u w1/\Done B E H w v H1 u w1:=by
 have hsame:∀w',w'.heap=w.heap->HRel B E H w':=fun w' he=>by
  have r:=hS.self;exact ⟨fun i b hg=>(r.blk i b hg).congr (fun _=>by rw [he]),r.inj,r.base,by rw [he];exact r.size⟩
 unfold znl at h;split at h
 ·-- a nil slice
  split at h
  ·next hn0 =>
   have hn0':=qf hn0;subst hn0';cases h;refine ⟨_,_,?_,Done.same hw hS (v:=.nilSl) (fun _ _=>rfl)⟩
   have:=zlq (P:=P) (w:=w) hL hz hb hzv (ty:=ty) ht ht' hu hu' (base:=none) (l:=0) (c:=0) (rest':=rest') hsrc (qn _);exact this
  ·split at h
   ·cases h
   ·next hbd =>
    cases h
    obtain ⟨hb1,hb2⟩:=zck hbd;have hpos:0<n:=by
     rcases qh3 n with h0|h0
     ·subst h0;next hn0=>exact absurd hn0 (by simp)
     ·exact h0
    obtain ⟨ex,rest,hrl,hrf,hrun⟩:=zwx (P:=P) (w:=w) hL hz hb hzv hzl (ty:=ty) ht ht' hu hu' (base:=none) (l:=0) (c:=0) (old:= #[]) (rest':=rest') hsrc oM oM (by simpa using hb1)
     (fun w' _=>by simp [Builtin.firstCells])
    simp only [qy1] at hrun;refine ⟨_,_,hrun,?_⟩;have key:=zgi (hw) (hS.drawn (w.drawn+1)) (vs:=new) e z true ex rest hnE (by simpa using hrl) (fun _ u hu=>⟨(hrf u hu).1,by have:=(hrf u hu).2;rw [hlen];simpa using this⟩)
    have hcells:((#[] ++ (concL E new.l).toArray).toList ++ rest).toArray=(concL E new.l ++ rest).toArray:=by simp
    rw [hcells];refine ⟨_,fun E' hE=> ?_,key.1,(Post.drawn (w.drawn+1)).trans key.2.1,key.2.2⟩
    have:E' H.next=⟨w.heap.size,0,ex⟩:=(hE H.next (qd1 _)).trans (Env.add_self _ _ _);simp [conc,this]
 ·-- another slice
  next i o l c op =>
  split at h
  ·next hle =>
   have hle':=ble_t hle;split at h
   ·next H' hwr =>
    cases h
    obtain ⟨w1,hst,h1,h2,h3,h4⟩:=zij (P:=P) hw hS hnE hwr;have hr:=zlq (P:=P) (w:=w) hL hz hb hzv (ty:=ty) ht ht' hu hu' (base:=some (cA E i o)) (l:=l) (c:=c+(if op then (E i).extra else 0)) (rest':=rest') hsrc oM
    refine ⟨Value.slice (some (cA E i o)) (l+n) (c+(if op then (E i).extra else 0)),w1,?_,E,?_,h1,h2,h3⟩
    ·show (Builtin.append_ ts ty (Value.slice (some (cA E i o)) l (c+(if op then (E i).extra else 0))::ux::rest').toArray).run P w=_
     rw [hr];simp only [zcl];rw [hst];rfl
    ·rw [h4]
     intro E' hE;have:=hsE E' hE;simp only [conc,Value.slice.injEq] at this ⊢
     obtain ⟨e1,_,e3⟩:=this;exact ⟨e1.symm,trivial,e3.symm⟩
   ·cases h
  ·next hle =>
   split at h
   ·next old hbd hrd' =>
    have hrd:=zfh hrd';obtain ⟨hb1,hb2⟩:=zck hbd;have hgt:c<l+n:=by
     rcases qi2 c (l+n) with hh|hh
     ·exact hh
     ·rw [qe hh] at hle;cases hle
    have hi:i<H.next:=by
     unfold AH.read AH.row at hrd;split at hrd
     ·next vs hvs =>
      split at hvs
      ·next hg=>exact hw.get_lt hg
      ·cases hvs
     ·cases hrd
    have holdl:old.l.length=l*z:=by
     unfold AH.read at hrd;split at hrd
     ·exact (zzd hrd).1
     ·cases hrd
    have holdr:∀c',∀w',w'.heap=w.heap->(Builtin.firstCells z l (Value.slice (some (cA E i o)) l c')).run P w'= .ok (concL E old.l).toArray w':=fun c' w' he=>(hsame w' he).read (P:=P) hrd
    have holdE:∀E',Agree H.next E E'->concL E' old.l=concL E old.l:=fun E' hE=>read_E hS P hi hrd hE
    have honE:∀E',Agree H.next E E'->concL E' (Ce.app old new).l=concL E (Ce.app old new).l:=fun E' hE=>by rw [Ce.app_l,zjc,zjc,holdE E' hE,hnE E' hE]
    have grow:∀c',c'<l+n-> ∀H2:AH,H2.next=H.next->H2.Wf->St B E H2 w-> ∃u w1,(Builtin.append_ ts ty (Value.slice (some (cA E i o)) l c'::ux::rest').toArray).run P w= .ok u w1 /\
      Done B E H2 w (.sl H.next 0 (l+n) (l+n) true) (H2.new (.cells (Ce.app old new) e z true false)) u w1:=by
     intro c' hc' H2 hnx hw2 hS2;obtain ⟨ex,rest,hrl,hrf,hrun⟩:=zwx (P:=P) (w:=w) hL hz hb hzv hzl (ty:=ty) ht ht' hu hu' (base:=some (cA E i o)) (l:=l) (c:=c') (rest':=rest') hsrc hc' hb2 hb1 (holdr c');refine ⟨_,_,hrun,?_⟩;have key:=zgi (hw2) (hS2.drawn (w.drawn+1)) (vs:=Ce.app old new) e z true ex rest (by rw [hnx];exact honE) (by simpa using hrl) (fun _ u hu=>⟨(hrf u hu).1,by have:=(hrf u hu).2;rw [Ce.app_l,qr,hlen,holdl,← qj4];exact this⟩)
     have hcells:(((concL E old.l).toArray ++ (concL E new.l).toArray).toList ++ rest).toArray=((concL E (Ce.app old new).l) ++ rest).toArray:=by rw [Ce.app_l,zjc];simp
     rw [hcells];refine ⟨_,fun E' hE=> ?_,key.1,(Post.drawn (w.drawn+1)).trans key.2.1,key.2.2⟩
     have:E' H2.next=⟨w.heap.size,0,ex⟩:=(hE H2.next (qd1 _)).trans (Env.add_self _ _ _);rw [hnx] at this;simp [conc,this]
    split at h
    ·cases h
     have:=grow c hgt H rfl hw hS
     simpa [conc] using this
    ·split at h
     ·next vs e' z' op' ro hlo hg =>
      split at h
      ·next hcond =>
       cases h
       simp only [qm,qm4] at hcond;obtain ⟨⟨⟨⟨q1,q2⟩,q3⟩,q4⟩,q5⟩:=hcond;have q1:=qf q1;have q2:=qf q2;have q5:=qf q5;rw [Ce.len_l] at q5;subst q1 q2 q3 q4;have hlo':=ble_t hlo;show ∃u w1,(Builtin.append_ ts ty (Value.slice (some (cA E i o)) l (c+(if true=true then (E i).extra else 0))::ux::rest').toArray).run P w= .ok u w1/\_
       rw [qi rfl];by_cases hroom:l+n<=c+(E i).extra
       ·-- there is room: the old row goes on
        obtain ⟨cs,e'',fz,h1,h2,h3⟩:=hS.self.blk i _ hg;obtain ⟨hfz,hsz,hfl,hmk⟩:=h3 rfl;simp only [qc5] at hsz;have hnl:=hlen;have hmul:(l+n)*z<=(c+(E i).extra)*z:=qd2 z hroom;have hmul2:(l+n)*z=l*z+n*z:=qj4 ..
        have hmul3:(c+(E i).extra)*z=c*z+(E i).extra*z:=qj4 ..
        obtain ⟨cs',hst,hs',hj'⟩:=zgh (P:=P) (E:=E) (i:=i) (o:=o+l*z) new.l 0 w cs h1 hfz.2 (by rw [hsz];omega) hone
        have hr:=zlq (P:=P) (w:=w) hL hz hb hzv (ty:=ty) ht ht' hu hu' (base:=some (cA E i o)) (l:=l) (c:=c+(E i).extra) (rest':=rest') hsrc hroom;have hold:old.l.length=l*z/\ ∀j,j<l*z->old.l[j]? =vs.l[o+j]? /\o+j<vs.l.length:=by
         unfold AH.read AH.row at hrd;rw [hg] at hrd;exact zzd hrd
        have key:=zhh1 hw hS hg rfl hlo' (.cells (Ce.app old new) e z true false) (.cells cs' e'' fz) ⟨(E i).blk,(E i).off+o,c+(E i).extra - (l+n)⟩ rfl (fun r hr=>by rw [h1] at hr;cases hr) (fun x off hx=>by rw [h1] at hx;cases hx;rfl) (fun E' hE hn=>by
         refine ⟨cs',e'',fz,by rw [hn];exact zid h1,fun j v hv=> ?_,fun _=>⟨by rw [hs'];exact hfz,?_,fun _ j u hj hu=> ?_,by rw [hs'];exact hmk⟩⟩
         ·rw [hn]
          have hcv:(concL E (Ce.app old new).l)[j]? =some (conc E' v):=by rw [← honE E' hE,zna?,hv];rfl
          rw [Ce.app_l] at hcv hv;show cs'[(E i).off+o+j]? =_
          rw [hj'];by_cases hlt:j<l*z
          ·rw [qd oM]
           rw [zna?,qt1 (by rw [hold.1];exact hlt),(hold.2 j hlt).1] at hcv
           obtain ⟨vv,hvv⟩:∃vv,vs.l[o+j]? =some vv:=⟨_,qo (hold.2 j hlt).2⟩
           rw [hvv] at hcv;rw [show (E i).off+o+j=(E i).off+(o+j) from oM,h2 _ _ hvv]
           exact hcv
          ·have hlt2:j<l*z+new.l.length:=by
            rcases qi2 j (l*z+new.l.length) with hh|hh
            ·exact hh
            ·rw [qk2 (by rw [qr,hold.1];exact hh)] at hv;cases hv
           rw [qi oM]
           rw [zna?,qz1 (by rw [hold.1];omega),hold.1] at hcv
           rw [show (E i).off+o+j - ((E i).off+(o+l*z)+0)=j - l*z from oM]
           exact hcv
         ·rw [hn,hs',hsz,Ce.app_l,qr,hold.1,hnl]
          simp only [qc5];rw [Nat.sub_mul];omega
         ·rw [hn,Ce.app_l,qr,hold.1] at hj
          have hj:(E i).off+o+(l*z+new.l.length)<=j:=hj;rw [hj' j,qd oM] at hu
          have hcz:c*z<=(l+n)*z:=qd2 z (Nat.le_of_lt hgt);rw [hnl] at hj;obtain ⟨f1,f2⟩:=hfl rfl j u (by rw [q5];omega) hu
          refine ⟨f1,?_⟩;rw [hn,hs'];show _<=(E i).off+o+_
          omega)
        refine ⟨Value.slice (some (cA E i o)) (l+n) (c+(E i).extra),_,?_,E.add H.next ⟨(E i).blk,(E i).off+o,c+(E i).extra - (l+n)⟩,?_,key.1,key.2.1,key.2.2⟩
        ·rw [hr]
         simp only [zcl];rw [hst];rfl
        ·intro E' hE
         have hn:E' H.next=⟨(E i).blk,(E i).off+o,c+(E i).extra - (l+n)⟩:=(hE H.next (qd1 _)).trans (Env.add_self _ _ _);simp only [conc,hn,qc5,qx4,cA];congr 1;omega
       ·-- a new row
        have dr:=zex hw hS hg hlo';obtain ⟨u,w1,hr,E1,d1,d2,d3,d4⟩:=grow (c+(E i).extra) oM (H.drop i) rfl dr.2.2 dr.1
        exact ⟨u,w1,hr,E1,d1,d2,dr.2.1.trans d3,d4⟩
      ·cases h
     ·cases h
   ·cases h
 ·cases h
theorem zrl (hL:LOk0 L P) (hw:H.Wf) (hS:St B E H w){ts:Array TypeId}{ty t t':TypeId}(ht:ts[0]? =some t) (ht':ts[1]? =some t'){d':TypeDesc}(hu':L.under t'=some d') (hd':d'= .string\/ ∃e',d'= .slice e')
  {s x:AV}{us ux:Value}(hs:StV E H.next s us) (hx:StV E H.next x ux){rest':List Value}{v:AV}{H1:AH}(h:zxc L t s x H=some (v,H1)) :
  ∃u w1,(Builtin.append_ ts ty (us::ux::rest').toArray).run P w= .ok u w1/\Done B E H w v H1 u w1:=by
 have hxE:∀E',Agree H.next E E'->conc E' x=conc E x:=fun E' hE=>(hx E' hE).symm.trans hx.self
 have hsE:∀E',Agree H.next E E'->conc E' s=conc E s:=fun E' hE=>(hs E' hE).symm.trans hs.self
 rw [hs.self,hx.self];unfold zxc at h;split at h
 ·next e hu =>
  split at h
  ·next z b zv n hz hb hzv hln =>
   split at h
   ·cases h
   ·next new hnew =>
    have hsame:∀w',w'.heap=w.heap->HRel B E H w':=fun w' he=>by
     have r:=hS.self;exact ⟨fun i b hg=>(r.blk i b hg).congr (fun _=>by rw [he]),r.inj,r.base,by rw [he];exact r.size⟩
    have hnewr:∀w',w'.heap=w.heap->(Builtin.firstCells z n (conc E x)).run P w'= .ok (concL E new.l).toArray w':=fun w' he=>zlg (hsame w' he) hnew
    have hnE:∀E',Agree H.next E E'->concL E' new.l=concL E new.l:=fun E' hE=>zuo (P:=P) hw hS hxE hnew hE
    split at h
    ·cases h
    ·next hone' =>
     have hone:=Ce.one_l hone';split at h
     ·cases h
     ·next hzz =>
      simp only [qv4,qr5] at hzz;have hzl:=qf hzz.2;rw [zxe] at hzl;obtain ⟨u,w1,h1,h2⟩:=zvo (ty:=ty) (rest':=rest') hL hw hS ht ht' hu' hu hz hb hzv hzl hsE (.inl ⟨hd',zjq (E:=E) hln,hnewr⟩) hnE hone (zkq hnew) h;exact ⟨u,w1,h1,h2⟩
  ·cases h
 ·cases h
theorem zmq (hL:LOk0 L P) (hw:H.Wf) (hS:St B E H w){ts:Array TypeId}{ty t t':TypeId}(ht:ts[0]? =some t) (ht':ts[1]? =some t'){k:IntKind}(hu':L.under t'=some (.int k))
  {s x:AV}{us ux:Value}(hs:StV E H.next s us) (hx:StV E H.next x ux){rest':List Value}{v:AV}{H1:AH}(h:zle L t s x H=some (v,H1)) :
  ∃u w1,(Builtin.append_ ts ty (us::ux::rest').toArray).run P w= .ok u w1/\Done B E H w v H1 u w1:=by
 have hsE:∀E',Agree H.next E E'->conc E' s=conc E s:=fun E' hE=>(hs E' hE).symm.trans hs.self
 rw [hs.self,hx.self];unfold zle at h;split at h
 ·next e n hu =>
  split at h
  ·next z b zv hz hb hzv =>
   split at h
   ·next hzz hbd =>
    simp only [qv4,qr5] at hzz;have hzl:=qf hzz.2;rw [zxe] at hzl;obtain ⟨hb1,hb2⟩:=zck hbd;split at h
    ·cases h
    ·next hone' =>
     have hone:=Ce.one_l hone';have hz0:∀E':Env,concL E' zv.cells=concL (fun _=>⟨0,0,0⟩) zv.cells:=fun E'=>by
      have h1:=zzc (P:=P) (w:=w) (E:=E') hL hzv;have h2:=zzc (P:=P) (w:=w) (E:=fun _=>⟨0,0,0⟩) hL hzv
      rw [h1] at h2;have h3:=qu4 Value.cells (qu5 h2).1;rw [zab,zab] at h3;exact qu4 Array.toList h3
     have hzE:∀E':Env,concL E' (Ce.repC zv.cells n).l=concL (fun _=>⟨0,0,0⟩) (Ce.repC zv.cells n).l:=fun E'=>by
      rw [Ce.repC_l];have h1:=zrd (E:=E') (zs:=zv.cells) n;have h2:=zrd (E:=fun _=>⟨0,0,0⟩) (zs:=zv.cells) n
      rw [hz0 E',h2] at h1;exact (qu4 Array.toList h1).symm
     exact zvo (ty:=ty) (rest':=rest') hL hw hS ht ht' hu' hu hz hb hzv hzl hsE (.inr ⟨⟨k,rfl⟩,rfl,hb1,hb2,by simp [zma,hzl],by rw [hzE,Ce.repC_l];exact (zrd n).symm⟩) (fun E' _=>by rw [hzE,hzE E]) hone (by rw [Ce.repC_l,zqd,hzl]) h
   ·cases h
  ·cases h
 ·cases h
end
section
variable {L:Lk}{P:Program}{w:World}{E:Env}{B:Nat}{H:AH}
theorem minN_eq (n l:Nat):minN n l=n.min l:=by
 unfold minN;cases hb:Nat.ble n l with
 |true=>have:=ble_t hb;exact (qv3 this).symm
 |false =>
  have h:¬n<=l:=fun hle=>by rw [qe hle] at hb;cases hb
  exact (Nat.min_eq_right (Nat.le_of_lt (Nat.lt_of_not_le h))).symm
theorem zsc1 (hL:LOk0 L P) (hw:H.Wf) (hS:St B E H w){ts:Array TypeId}{ty t:TypeId}(ht:ts[0]? =some t)
  {d x:AV}{ud ux:Value}(hd:StV E H.next d ud) (hx:StV E H.next x ux){rest':List Value}{v:AV}{H1:AH}(h:zgo L t d x H=some (v,H1)) :
  ∃u w1,(Builtin.copy_ ts ty (ud::ux::rest').toArray).run P w= .ok u w1/\Done B E H w v H1 u w1:=by
 rw [hd.self,hx.self];have hxE:∀E',Agree H.next E E'->conc E' x=conc E x:=fun E' hE=>(hx E' hE).symm.trans hx.self
 unfold zgo at h;split at h
 ·next e hu =>
  split at h
  ·next z n hz hln =>
   split at h
   ·cases h
    refine ⟨_,_,?_,Done.same hw hS (v:=.int .i64 0) (u:=.int .i64 0) (fun _ _=>rfl)⟩
    unfold Builtin.copy_;simp only [ht,qo1,qs1,qg3];have hf0:(Builtin.firstCells z 0 (conc E x)).run P w= .ok #[] w:=by
     unfold lenOf at hln;split at hln<;>first
      |(cases hln;done)
      |(cases hln;simp [Builtin.firstCells,conc,loadCells,loadCellsFrom];done)
      |(cases hln;simp [Builtin.firstCells,conc];done)
      |(split at hln<;>first
       |(cases hln;done)
       |(next hk=>obtain ⟨a,c,he⟩:=zjm hk E;cases hln;rw [he];simp [Builtin.firstCells,loadCells,loadCellsFrom];done))
    simp only [qj,zca hL hu,qb,conc,zjq (E:=E) hln,zkb hL hz];rw [show n.min 0=0 from Nat.min_zero n,hf0]
    rfl
   ·next i o l c op =>
    split at h
    ·next new hnew =>
     split at h
     ·next H' hwr =>
      cases h
      have hnE:∀E',Agree H.next E E'->concL E' new.l=concL E new.l:=fun E' hE=>zuo (P:=P) hw hS hxE hnew hE
      obtain ⟨w1,hst,h1,h2,h3,h4⟩:=zij (P:=P) hw hS hnE hwr;refine ⟨.int .i64 ((minN n l:Nat):Int),w1,?_,E,fun _ _=>rfl,h1,h2,h3⟩
      rw [minN_eq] at hnew ⊢
      unfold Builtin.copy_;simp only [ht,qo1,qs1,qg3];simp only [qj,zca hL hu,qb,conc,zjq (E:=E) hln,zkb hL hz,zlg (P:=P) hS.self hnew];rw [show (⟨(E i).blk,(E i).off+o,none⟩:Addr)=cA E i o from rfl,hst]
      rfl
     ·cases h
    ·cases h
   ·cases h
  ·cases h
 ·cases h
theorem zxx (hL:LOk0 L P) (hw:H.Wf) (hS:St B E H w){ts:Array TypeId}{ty t:TypeId}(ht:ts[0]? =some t)
  {x:AV}{rest':List Value}{H1:AH}(h:zrj L t x H=some H1) :
  ∃w1,(Builtin.clear_ ts ty (conc E x::rest').toArray).run P w= .ok undef w1/\St B E H1 w1/\Post E H w E H1 w1/\H1.Wf:=by
 unfold zrj at h;split at h
 ·next d hu =>
  split at h
  ·cases h
   refine ⟨w,?_,hS,Post.refl _ _ _,hw⟩;unfold Builtin.clear_;simp only [ht,qo1,qs1,qj,zca hL hu,qb,conc];rfl
  ·cases h
   refine ⟨w,?_,hS,Post.refl _ _ _,hw⟩;unfold Builtin.clear_;simp only [ht,qo1,qs1,qj,zca hL hu,qb,conc];rfl
  ·next i =>
   split at h
   ·split at h
    ·next es clock hlo hg =>
     cases h
     have hlo':=ble_t hlo;have key:=zjj hw hS hg hlo' [] clock (fun _ _=>rfl)
     refine ⟨_,?_,key⟩;unfold Builtin.clear_;simp only [ht,qo1,qs1,qj,zca hL hu,qb,conc];rw [zrc (hS.self.map hg) (fun _ _ _=>by simp)]
     simp only [qb,qj];rw [zaf (hS.self.map hg) (fun _ _ _=>by simp)]
     rfl
    ·cases h
   ·cases h
  ·next i o n c op =>
   split at h
   ·next e =>
    split at h
    ·next z hz =>
     split at h
     ·next hn =>
      cases h
      have hn':=qf hn;subst hn';refine ⟨w,?_,hS,Post.refl _ _ _,hw⟩;unfold Builtin.clear_;simp only [ht,qo1,qs1,qj,zca hL hu,qb,conc];rfl
     ·next hn =>
      have hn':n≠0:=qz4 hn;obtain ⟨w1,hst,h1,h2,h3,h4⟩:=zuk1 (P:=P) hw hS (fun E' _=>rep_E (fun A B=>zdk hL hz A B) n E' E) h
      refine ⟨w1,?_,h1,h2,h3⟩;unfold Builtin.clear_;simp only [ht,qo1,qs1,qj,zca hL hu,qb,conc];obtain ⟨m,rfl⟩:∃m,n=m+1:=⟨n - 1,oM⟩
      simp only [qj,zzc (E:=E) hL hz,qb,zab,zrd];rw [show (⟨(E i).blk,(E i).off+o,none⟩:Addr)=cA E i o from rfl,hst]
      rfl
    ·cases h
   ·cases h
  ·cases h
 ·cases h
theorem zvm {α β:Type}(f:α->β) (l:List α):∀j,(zai l j).map f=(l.map f).eraseIdx j:=by
 induction l with
 |nil=>intro j;cases j<;>rfl
 |cons a l ih=>intro j;cases j with|zero=>rfl|succ j=>show f a::(zai l j).map f=_;rw [ih];rfl
theorem zhv (hL:LOk0 L P) (hw:H.Wf) (hS:St B E H w){ts:Array TypeId}{ty t:TypeId}(ht:ts[0]? =some t)
  {m k:AV}{rest':List Value}{H1:AH}(h:zvf L t m k H=some H1) :
  ∃w1,(Builtin.delete_ ts ty (conc E m::conc E k::rest').toArray).run P w= .ok undef w1/\St B E H1 w1/\Post E H w E H1 w1/\H1.Wf:=by
 unfold zvf at h;split at h
 ·next key elem hu =>
  split at h
  ·split at h
   ·next r hf =>
    cases h
    refine ⟨w,?_,hS,Post.refl _ _ _,hw⟩;unfold Builtin.delete_;simp only [ht,qo1,qs1,qg3,qj,zca hL hu,qb,conc];simp only [zge hL hf,qb];rfl
   ·cases h
  ·next i =>
   split at h
   ·next es clock hlo hg =>
    have hlo':=ble_t hlo;split at h
    ·cases h
    ·next hf =>
     cases h
     have hfk:=zii (P:=P) (w:=w) (E:=E) hL hf;have hself:zvc w (E i).blk (.map (es.map (entryOf E)).toArray clock)=w:=by
      have h0:=hS.self.map hg;have hlt:(E i).blk<w.heap.size:=(hS.self.blk i _ hg).obj rfl;unfold zvc;have he:w.heap[(E i).blk]= .map (es.map (entryOf E)).toArray clock:=by rw [qu1 hlt] at h0;exact ql3 h0
      have:w.heap.setIfInBounds (E i).blk (.map (es.map (entryOf E)).toArray clock)=w.heap:=by
       refine Array.ext (by simp) fun q hq1 hq2=> ?_
       rw [qg6 (by simpa using hq2)]
       split
       ·next hh=>subst hh;exact he.symm
       ·rfl
      rw [this]
     refine ⟨w,?_,hS,Post.refl _ _ _,hw⟩
     ·unfold Builtin.delete_
      simp only [ht,qo1,qs1,qg3,qj,zca hL hu,qb,conc];rw [zrc (hS.self.map hg) (fun _ _ _=>by simp)]
      simp only [qb,qj,zge hL hf];rw [hfk];simp only [qq4,qb,qj];rw [zaf (hS.self.map hg) (fun _ _ _=>by simp),hself]
      rfl
    ·next j v hf =>
     cases h
     obtain ⟨hj2,e,he,hse⟩:=zux hf;have hfk:=zii (P:=P) (w:=w) (E:=E) hL hf;have key:=zjj hw hS hg hlo' (zai es j) clock (fun E' hE=>by
      rw [zvm,zvm,map_E hw hS hg hE])
     refine ⟨_,?_,key⟩;unfold Builtin.delete_;simp only [ht,qo1,qs1,qg3,qj,zca hL hu,qb,conc];rw [zrc (hS.self.map hg) (fun _ _ _=>by simp)]
     simp only [qb,qj,zge hL hf];rw [hfk];simp only [qg4,qb,qj];rw [zaf (hS.self.map hg) (fun _ _ _=>by simp)]
     simp only [qb];rw [zvm];have hlt:j<(es.map (entryOf E)).toArray.size:=by simp;omega
     have:(es.map (entryOf E)).toArray.eraseIdxIfInBounds j=((es.map (entryOf E)).eraseIdx j).toArray:=by
      unfold Array.eraseIdxIfInBounds;rw [dif_pos hlt];simp
     rw [this];rfl
   ·cases h
  ·cases h
 ·cases h
end
section
variable {L:Lk}{P:Program}{w:World}{E:Env}{B:Nat}{H:AH}
theorem zrb {n:Nat}{T:Tr AV}{a:Act}(hT:StT E n T a.tmps){x:Operand}{v:AV}(h:opnd T x=some v):StV E n v (a.eval x):=fun E' hE=>zkc (hT E' hE) h
theorem zel1 {n:Nat}{T:Tr AV}{a:Act}(hT:StT E n T a.tmps){l:List Operand}{vs:List AV}(h:opnds T l=some vs):StL E n vs (l.map a.eval):=fun E' hE=>zaq (hT E' hE) h
theorem ztc1 {l:List AV}{ns:List Int}(h:zzb1 l=some ns):concL E l=ns.map (Value.int .u8):=by
 rw [zhd];refine zxj numOf (Value.int .u8) (conc E) (fun a b hab=> ?_) h
 unfold numOf at hab;split at hab
 ·cases hab;rfl
 ·cases hab
theorem znq (hL:LOk0 L P) (hw:H.Wf) (hS:St B E H w){src dst:TypeId}{x v:AV}{H1:AH}{ux:Value}(hx:StV E H.next x ux) (h:zmb L src dst x H=some (v,H1)) :
  ∃u w1,(convert src dst ux).run P w= .ok u w1/\Done B E H w v H1 u w1:=by
 unfold zmb at h;split at h
 ·next s d hs hd =>
  rw [hx.self];split at h
  ·next k k' n =>
   simp only [zei] at h;cases h;refine ⟨_,_,?_,Done.same hw hS (v:=.int k (k.wrap n)) (u:=.int k (k.wrap n)) (fun _ _=>rfl)⟩
   unfold convert;simp only [qj,zca hL hs,zca hL hd,qb,conc];cases s<;>rfl
  ·split at h
   ·next e =>
    split at h
    ·next he =>
     cases h
     refine ⟨_,_,?_,Done.same hw hS (v:=.str ByteArray.empty) (u:=.string ByteArray.empty) (fun _ _=>rfl)⟩
     unfold convert;simp only [qj,zca hL hs,zca hL hd,qb,conc,zca hL he];rfl
    ·cases h
   ·cases h
  ·next kx ix ox =>
   split at h
   ·next e =>
    split at h
    ·next he =>
     split at h
     ·next hk =>
      cases h
      obtain ⟨a,c,hcx⟩:=zjm hk E;refine ⟨_,_,?_,Done.same hw hS (v:=.str ByteArray.empty) (u:=.string ByteArray.empty) (fun _ _=>rfl)⟩
      rw [hcx,run_convert_bytes_string w src dst e _ 0 _ (zwd hL hs) (zwd hL he) (zwd hL hd),run_bytesToString w _ 0 _ [] rfl];rfl
     ·cases h
    ·cases h
   ·cases h
  ·next i o n c op =>
   split at h
   ·next e =>
    split at h
    ·next he =>
     split at h
     ·next l hl =>
      split at h
      ·next ns hns =>
       cases h
       refine ⟨_,_,?_,Done.same hw hS (v:=.str ⟨(ns.map fun n=>UInt8.ofNat n.toNat).toArray⟩) (u:=.string ⟨(ns.map fun n=>UInt8.ofNat n.toNat).toArray⟩) (fun _ _=>rfl)⟩
       have hrd:=hS.self.read (P:=P) hl;rw [ztc1 (E:=E) hns] at hrd;show (convert src dst (Value.slice (some (cA E i o)) n _)).run P w=_
       rw [run_convert_bytes_string w src dst e _ n _ (zwd hL hs) (zwd hL he) (zwd hL hd),run_bytesToString w _ n _ ns hrd,foldl_push_bytes];simp [ByteArray.empty,ByteArray.emptyWithCapacity];rfl
      ·cases h
     ·cases h
    ·cases h
   ·cases h
  ·cases h
 ·cases h
end
def Owes (P:Program) (B:Nat) (E:Env) (H:AH) (w:World):Next1->Result Next->Prop
 | .val v H1,r=> ∃u w1,(r= .ok (.value u) w1\/(r= .ok .skip w1/\u=undef))/\Done B E H w v H1 u w1
 | .enter f args,r=> ∃us:List Value,StL E H.next args us/\r=(callFunc f us.toArray).run P w
 | .round l args,r=> ∃us:List Value,StL E H.next args us/\r=(Instr.yield (E l).blk us.toArray).run P w/\l<H.next
section
variable {L:Lk}{P:Program}{w:World}{E:Env}{B:Nat}{H:AH}
theorem zsc (hw:H.Wf) (hS:St B E H w){x:Option AV}{nx:Next1}(h:val1 x H=some nx){s:Sem Value}(hs:∀v,x=some v-> ∃u,s.run P w= .ok u w/\StV E H.next v u) :
  Owes P B E H w nx ((do pure (.value (← s)):Sem Next).run P w):=by
 unfold val1 at h;split at h
 ·next v =>
  cases h
  obtain ⟨u,hr,hu⟩:=hs v rfl;refine ⟨u,w,.inl ?_,Done.same hw hS hu⟩;simp only [qj,hr,qb,qt]
 ·cases h
theorem zwm {x:Option (AV×AH)}{nx:Next1}(h:val2 x=some nx){s:Sem Value}(hs:∀v H1,x=some (v,H1)-> ∃u w1,s.run P w= .ok u w1/\Done B E H w v H1 u w1) :
  Owes P B E H w nx ((do pure (.value (← s)):Sem Next).run P w):=by
 unfold val2 at h;split at h
 ·next p =>
  cases h
  obtain ⟨u,w1,hr,hd⟩:=hs p.1 p.2 rfl;refine ⟨u,w1,.inl ?_,hd⟩;simp only [qj,hr,qb,qt]
 ·cases h
theorem zxm {x:Option AH}{nx:Next1}(h:unit1 x=some nx){s:Sem Unit}(hs:∀H1,x=some H1-> ∃w1,s.run P w= .ok () w1/\St B E H1 w1/\Post E H w E H1 w1/\H1.Wf) :
  Owes P B E H w nx ((do s;pure .skip:Sem Next).run P w):=by
 unfold unit1 at h;split at h
 ·next H1 =>
  cases h
  obtain ⟨w1,hr,h1,h2,h3⟩:=hs H1 rfl;refine ⟨undef,w1,.inr ⟨?_,rfl⟩,E,fun _ _=>rfl,h1,h2,h3⟩
  simp only [qj,hr,qb,qt]
 ·cases h
theorem ziv (t:TypeId) (a:Addr) (s1 s2:String):(Builtin.ssaWrapNilChk_ #[t] t #[.pointer (some a),strVal s1,strVal s2]).run P w= .ok (.pointer (some a)) w:=rfl
theorem zjv (hL:LOk0 L P) (hR:HRel B E H w){t:TypeId}{v r:AV}{name:String}{f:FuncId}(h:zxp L t v name H=some (f,r)) (n:Nat) :
  (method (n+1) t (conc E v) name).run P w= .ok (f,conc E r) w:=by
 unfold zxp at h;split at h
 ·cases h
 ·next i hi =>
  split at h
  ·cases h
  ·next m hm =>
   split at h
   ·cases h
   ·next hp =>
    split at h
    ·cases h
    ·next f' pr hf =>
     split at h
     ·cases h
     ·next d hd =>
      have hm':i.methods.find? (·.name == name)=some m:=by rw [← hm];simp
      have hpe:m.path.isEmpty=true:=by
       have:m.path= #[]:=by
        apply qb7
        simpa using hp
       rw [this];rfl
      unfold method;simp only [qj,zef hL hi,qb,hm',hp,hf];unfold follow;simp only [qt,qb,qj,hpe,qc5];unfold receiverAt;simp only [qj,zca hL hd,qb];split at h
      ·cases h
       simp only [Place.get,qt,qb]
      ·split at h
       ·next x hx =>
        cases h
        simp only [Place.get,qt,qb,qj];have hl:=zom (P:=P) hL hR hx;unfold zub at hx;split at hx
        ·simp only [conc] at hl ⊢
         simp only [ziv,qt,qb,asAddr,qj];unfold Instr.loadAt at hl;simp only [Instr.sureAddr,qj,qt,qb] at hl;rw [hl];rfl
        ·cases hx
       ·cases h
      ·cases h
      ·next h1 h2 h3 =>
       cases h
       cases d<;>first
        |exact (h3 _ rfl).elim
        |(simp only [Place.get,qt,qb])
end
section
variable {L:Lk}{P:Program}{w:World}{E:Env}{B:Nat}{H:AH}
theorem StL.cons {n:Nat}{x:AV}{l:List AV}{us:List Value}(h:StL E n (x::l) us):∃u us',us=u::us'/\StV E n x u/\StL E n l us':=by
 have h0:=h E (Agree.refl _ _);refine ⟨conc E x,concL E l,h0,fun E' hE=> ?_,fun E' hE=> ?_⟩
 ·have:=h E' hE
  rw [h0] at this;exact (List.cons.inj this).1
 ·have:=h E' hE
  rw [h0] at this;exact (List.cons.inj this).2
theorem zoq (hL:LOk0 L P) (hw:H.Wf) (hS:St B E H w){b:Builtin}{ts:Array TypeId}{ty:TypeId}{cs:Array Bool}{args:List AV}{us:List Value}(hus:StL E H.next args us){v:AV}{H1:AH}
  (h:zqb L b ts.toList args H=some (v,H1)):∃u w1,(builtin b ts ty cs us.toArray).run P w= .ok (.value u) w1/\Done B E H w v H1 u w1:=by
 have lift:∀(s:Sem Value),(∃u w1,s.run P w= .ok u w1/\Done B E H w v H1 u w1)-> ∃u w1,((do pure (.value (← s)):Sem Next)).run P w= .ok (.value u) w1/\Done B E H w v H1 u w1:=by
  rintro s ⟨u,w1,hr,hd⟩;exact ⟨u,w1,by simp only [qj,hr,qb,qt],hd⟩
 unfold zqb at h;split at h
 ·split at h
  ·next t r x l hts =>
   split at h
   ·next rv hv =>
    cases h
    have ht:ts[0]? =some t:=by simp [← qa4,hts]
    obtain ⟨u,us',rfl,hx,_⟩:=hus.cons;refine lift _ ⟨_,w,?_,Done.same hw hS (v:=v) (u:=conc E v) ?_⟩
    ·rw [hx.self];exact zeq hL hS.self ht hv
    ·intro E' hE
     have h1:=zeq (P:=P) (ty:=ty) (us:=us') hL hS.self ht hv;have h2:=zeq (P:=P) (ty:=ty) (us:=us') hL (hS E' hE) ht hv;rw [← hx.self] at h1;rw [← hx E' hE,h1] at h2;exact (qu5 h2).1
   ·cases h
  ·cases h
 ·split at h
  ·next t r x l hts =>
   split at h
   ·next rv hv =>
    cases h
    have ht:ts[0]? =some t:=by simp [← qa4,hts]
    obtain ⟨u,us',rfl,hx,_⟩:=hus.cons;refine lift _ ⟨_,w,?_,Done.same hw hS (v:=v) (u:=conc E v) ?_⟩
    ·rw [hx.self];exact zfq hL ht hv
    ·intro E' hE
     have h1:=zfq (P:=P) (w:=w) (E:=E) (ty:=ty) (us:=us') hL ht hv;have h2:=zfq (P:=P) (w:=w) (E:=E') (ty:=ty) (us:=us') hL ht hv;rw [← hx.self] at h1;rw [← hx E' hE,h1] at h2;exact (qu5 h2).1
   ·cases h
  ·cases h
 ·split at h
  ·next t t' r s x l hts =>
   have ht:ts[0]? =some t:=by simp [← qa4,hts]
   have ht':ts[1]? =some t':=by simp [← qa4,hts]
   obtain ⟨u,us1,rfl,hs,h1⟩:=hus.cons;obtain ⟨u2,us2,rfl,hx,_⟩:=h1.cons;split at h
   ·next e hu=>exact lift _ (zrl hL hw hS ht ht' hu (.inr ⟨_,rfl⟩) hs hx h)
   ·next hu=>exact lift _ (zrl hL hw hS ht ht' hu (.inl rfl) hs hx h)
   ·next k hu=>exact lift _ (zmq hL hw hS ht ht' hu hs hx h)
   ·cases h
  ·cases h
 ·split at h
  ·next t r d x l hts =>
   have ht:ts[0]? =some t:=by simp [← qa4,hts]
   obtain ⟨u,us1,rfl,hd,h1⟩:=hus.cons;obtain ⟨u2,us2,rfl,hx,_⟩:=h1.cons;exact lift _ (zsc1 hL hw hS ht hd hx h)
  ·cases h
 ·split at h
  ·next x l =>
   split at h
   ·next rv hv =>
    cases h
    have key:∀E,(Builtin.min_ ts ty (concL E (x::l)).toArray).run P w= .ok (conc E v) w:=fun E=>zrx (E:=E) (f:=zuw) (g:=Builtin.min2) (fun x y r h=>zoc1 h) l x v hv
    refine lift _ ⟨_,w,by rw [hus E (Agree.refl _ _)];exact key E,Done.same hw hS (v:=v) (fun E' hE=> ?_)⟩
    have h2:=key E';rw [← hus E' hE,hus E (Agree.refl _ _),key E] at h2;exact (qu5 h2).1
   ·cases h
  ·cases h
 ·split at h
  ·next x l =>
   split at h
   ·next rv hv =>
    cases h
    have key:∀E,(Builtin.max_ ts ty (concL E (x::l)).toArray).run P w= .ok (conc E v) w:=fun E=>zrx (E:=E) (f:=zvw) (g:=Builtin.max2) (fun x y r h=>zpc1 h) l x v hv
    refine lift _ ⟨_,w,by rw [hus E (Agree.refl _ _)];exact key E,Done.same hw hS (v:=v) (fun E' hE=> ?_)⟩
    have h2:=key E';rw [← hus E' hE,hus E (Agree.refl _ _),key E] at h2;exact (qu5 h2).1
   ·cases h
  ·cases h
 ·split at h
  ·next t r x l hts =>
   have ht:ts[0]? =some t:=by simp [← qa4,hts]
   obtain ⟨u,us1,rfl,hx,h1⟩:=hus.cons;split at h
   ·next H' hc =>
    cases h
    obtain ⟨w1,hr,k1,k2,k3⟩:=zxx (P:=P) (ty:=ty) (rest':=us1) hL hw hS ht hc;exact lift _ ⟨undef,w1,by rw [hx.self];exact hr,E,fun _ _=>rfl,k1,k2,k3⟩
   ·cases h
  ·cases h
 ·split at h
  ·next t r m k l hts =>
   have ht:ts[0]? =some t:=by simp [← qa4,hts]
   obtain ⟨u,us1,rfl,hm,h1⟩:=hus.cons;obtain ⟨u2,us2,rfl,hk,_⟩:=h1.cons;split at h
   ·next H' hc =>
    cases h
    obtain ⟨w1,hr,k1,k2,k3⟩:=zhv (P:=P) (ty:=ty) (rest':=us2) hL hw hS ht hc;exact lift _ ⟨undef,w1,by rw [hm.self,hk.self];exact hr,E,fun _ _=>rfl,k1,k2,k3⟩
   ·cases h
  ·cases h
 ·cases h
end
section
variable {L:Lk}{P:Program}{w:World}{E:Env}{B:Nat}{H:AH}
end
section
variable {L:Lk}{P:Program}{w:World}{E:Env}{B:Nat}{H:AH}{T:Tr AV}{a:Act}
theorem zfk {n:Nat}(hT:StT E n T a.tmps){o:Option Operand}{l:List AV}(h:mapO (opnd T) o.toList=some l):∀E',Agree n E E'->o.map a.eval=l.head?.map (conc E'):=by
 intro E' hE;cases o with
 |none=>cases h;rfl
 |some x =>
  obtain ⟨h1,h2⟩:=(zim _ _ _).1 h;obtain ⟨b,hb,hr⟩:=h2 0 x (by simp)
  cases l with
  |nil=>simp at h1
  |cons y l =>
   simp only [qs1,qe2] at hr;subst hr;simp [zkc (hT E' hE) hb]
theorem zym {n:Nat}(hT:StT E n T a.tmps){parts:Array (Nat×Operand)}{ps:List (Nat×AV)}(h:mapO (fun p:Nat×Operand=>match opnd T p.2 with|some v=>some (p.1,v)|none=>none) parts.toList=some ps) :
  ∀E',Agree n E E'->(parts.map fun (p:Nat×Operand)=>(p.1,a.eval p.2))=(ps.map fun p=>(p.1,conc E' p.2)).toArray:=by
 intro E' hE;apply qb7;simp only [Array.toList_map];refine zxj _ (fun p:Nat×AV=>(p.1,conc E' p.2)) (fun p:Nat×Operand=>(p.1,a.eval p.2)) (fun p q hpq=> ?_) h
 split at hpq
 ·next v hv=>cases hpq;rw [zkc (hT E' hE) hv]
 ·cases hpq
theorem zbf {n:Nat}{s:Sem Value}{r:AV}(h:∀E',Agree n E E'->s.run P w= .ok (conc E' r) w):∃u,s.run P w= .ok u w/\StV E n r u :=
 ⟨conc E r,h E (Agree.refl _ _),fun E' hE=>by
  have h1:=h E (Agree.refl _ _);rw [h E' hE] at h1;exact (qu5 h1).1.symm⟩
theorem StV.yld_lt {n l:Nat}{u:Value}(h:StV E n (.yld l) u):l<n:=by
 rcases qi2 l n with h'|h'
 ·exact h'
 ·have h1:=h.self
  have h2:=h (E.add l ⟨(E l).blk+1,0,0⟩) (fun i hi=>by simp [Env.add];omega)
  rw [h1] at h2;simp only [conc,Env.add_self,Value.func.injEq,Fn.yield.injEq,qs2] at h2;omega
theorem zsl (hw:H.Wf){g:AV}{ug:Value}(hg:StV E H.next g ug){args:List AV}{us:List Value}(hus:StL E H.next args us){nx:Next1}(h:zec g args=some nx) :
  Owes P B E H w nx ((do let d ← Deferred.ofValue ug us.toArray;invoke d.target d.args:Sem Next).run P w):=by
 unfold zec at h;split at h
 ·next f first captured =>
  cases h
  refine ⟨(concL E (first ++ args ++ captured)),fun E' hE=> ?_,?_⟩
  ·have h1:=hg E' hE
   rw [hg.self] at h1;simp only [conc,Value.func.injEq,qm2] at h1;have h2:=hus E' hE;rw [hus E (Agree.refl _ _)] at h2;simp only [zjc,h2];have e1:concL E first=concL E' first:=by simpa using qu4 Array.toList h1.1
   have e2:concL E captured=concL E' captured:=by simpa using qu4 Array.toList h1.2
   rw [e1,e2]
  ·rw [hg.self,hus E (Agree.refl _ _)]
   simp only [conc,Deferred.ofValue,qj,qt,qb,invoke,zjc];congr 2;simp
 ·next l =>
  cases h
  refine ⟨us,hus,?_,hg.yld_lt⟩;rw [hg.self];simp only [conc,Deferred.ofValue,qj,qt,qb,invoke];congr 2;simp
 ·cases h
theorem zkv (hL:LOk0 L P) (hw:H.Wf) (hS:St B E H w){r:AV}{ur:Value}(hr:StV E H.next r ur){name:String}{args:List AV}{us:List Value}(hus:StL E H.next args us){nx:Next1}(h:zgd L r name args H=some nx) :
  Owes P B E H w nx ((callMethod ur name us.toArray).run P w):=by
 unfold zgd at h;split at h
 ·next t v =>
  split at h
  ·next f rc hm =>
   cases h
   have hd:P.types.size+Made.depth=(P.types.size+99)+1:=rfl;have hmr:∀E',Agree H.next E E'->(method (P.types.size+Made.depth) t (conc E' v) name).run P w= .ok (f,conc E' rc) w:=fun E' hE=>by
    rw [hd];exact zjv hL (hS E' hE) hm _
   have hvE:∀E',Agree H.next E E'->conc E' v=conc E v:=fun E' hE=>by
    have h1:=hr E' hE;rw [hr.self] at h1;simp only [conc,Value.iface.injEq,qm2] at h1;exact h1.symm
   refine ⟨conc E rc::us,fun E' hE=> ?_,?_⟩
   ·have h1:=hmr E' hE
    rw [hvE E' hE,hmr E (Agree.refl _ _)] at h1;have h2:=(qu5 h1).1;simp only [qs7,qm2] at h2;show conc E rc::us=conc E' rc::concL E' args
    rw [h2,hus E' hE]
   ·rw [hr.self]
    simp only [conc,callMethod,qj,program,Sem.run,qb,hmr E (Agree.refl _ _)];congr 2;simp
  ·cases h
 ·cases h
theorem evOp_ok (hL:LOk0 L P) (hw:H.Wf) (hS:St B E H w) (hT:StT E H.next T a.tmps){o:Oper}{nx:Next1}(h:evOp L T o H=some nx) :
  Owes P B E H w nx ((execOp a.eval o).run P w):=by
 obtain ⟨dst,op,ty,pos,after,guard⟩:=o;unfold evOp at h;unfold execOp;cases op with
 |move x =>
  simp only at h ⊢
  unfold val1 at h;split at h
  ·next v hv=>cases h;exact ⟨a.eval x,w,.inl rfl,Done.same hw hS (zrb hT hv)⟩
  ·cases h
 |assign x =>
  simp only at h ⊢
  unfold val1 at h;split at h
  ·next v hv=>cases h;exact ⟨a.eval x,w,.inl rfl,Done.same hw hS (zrb hT hv)⟩
  ·cases h
 |pick c x y =>
  simp only at h ⊢
  unfold val1 at h;split at h
  ·next hc =>
   split at h
   ·next v hv =>
    cases h
    refine ⟨a.eval x,w,.inl ?_,Done.same hw hS (zrb hT hv)⟩;rw [(zrb hT hc).self];rfl
   ·cases h
  ·next hc =>
   split at h
   ·next v hv =>
    cases h
    refine ⟨a.eval y,w,.inl ?_,Done.same hw hS (zrb hT hv)⟩;rw [(zrb hT hc).self];rfl
   ·cases h
  ·cases h
 |alloc e =>
  simp only at h ⊢
  split at h
  ·next z s hz hs =>
   cases h
   obtain ⟨u,w1,hr,hd⟩:=znx (P:=P) hL hw hS hz s;exact ⟨u,w1,.inl (by simp only [qj,hr,qb,qt]),hd⟩
  ·cases h
 |box e x =>
  simp only at h ⊢
  split at h
  ·next v s hv hs =>
   cases h
   obtain ⟨u,w1,hr,hd⟩:=zxk1 (P:=P) hw hS e (zrb hT hv) s;exact ⟨u,w1,.inl (by simp only [qj,hr,qb,qt]),hd⟩
  ·cases h
 |build t parts =>
  simp only at h ⊢
  split at h
  ·next ps hp =>
   refine zsc hw hS h fun v hv=>zbf fun E' hE=> ?_
   rw [zym hT hp E' hE];exact zmx hL hv
  ·cases h
 |buildSlice t n parts =>
  simp only at h ⊢
  split at h
  ·next ps hp =>
   refine zwm h fun v H1 hv=> ?_
   rw [zym hT hp E (Agree.refl _ _)];refine zdl hL hw hS (fun E' hE=> ?_) hv
   have h1:=zym hT hp E' hE;rw [zym hT hp E (Agree.refl _ _)] at h1
   simpa using qu4 Array.toList h1.symm
  ·cases h
 |load t x =>
  simp only at h ⊢
  split at h
  ·next v hv=>exact zsc hw hS h fun r hr=>zbf fun E' hE=>by rw [zkc (hT E' hE) hv];exact zfx hL (hS E' hE) hr
  ·cases h
 |store t x y =>
  simp only at h ⊢
  split at h
  ·next v u hv hu=>exact zxm h fun H1 hH=>zvx hL hw hS (zrb hT hv) (zrb hT hu) hH
  ·cases h
 |nilCheck x =>
  simp only at h ⊢
  split at h
  ·next i o hv=>cases h;exact ⟨a.eval x,w,.inl (by rw [(zrb hT hv).self];rfl),Done.same hw hS (zrb hT hv)⟩
  ·next t v hv=>cases h;exact ⟨a.eval x,w,.inl (by rw [(zrb hT hv).self];rfl),Done.same hw hS (zrb hT hv)⟩
  ·next f b c hv=>cases h;exact ⟨a.eval x,w,.inl (by rw [(zrb hT hv).self];rfl),Done.same hw hS (zrb hT hv)⟩
  ·next l hv=>cases h;exact ⟨a.eval x,w,.inl (by rw [(zrb hT hv).self];rfl),Done.same hw hS (zrb hT hv)⟩
  ·cases h
 |binOp op t x y yt =>
  simp only at h ⊢
  split at h
  ·next v u hv hu=>exact zsc hw hS h fun r hr=>zbf fun E' hE=>by rw [zkc (hT E' hE) hv,zkc (hT E' hE) hu];exact zal1 hL hr
  ·cases h
 |unOp op t x =>
  simp only at h ⊢
  split at h
  ·next v hv=>exact zsc hw hS h fun r hr=>zbf fun E' hE=>by rw [zkc (hT E' hE) hv];exact evUn_ok hr
  ·cases h
 |convert s d x =>
  simp only at h ⊢
  split at h
  ·next v hv=>exact zwm h fun r H1 hr=>znq hL hw hS (zrb hT hv) hr
  ·cases h
 |makeInterface t x =>
  simp only at h ⊢
  split at h
  ·next v hv=>exact zsc hw hS h fun r hr=>zbf fun E' hE=>by rw [zkc (hT E' hE) hv];exact zhi hL hr
  ·cases h
 |makeFunc fn first captured =>
  simp only at h ⊢
  split at h
  ·next f x y hx hy =>
   cases h
   refine ⟨_,w,.inl rfl,Done.same hw hS (fun E' hE=> ?_)⟩
   have e1:=zaq (hT E' hE) hx;have e2:=zaq (hT E' hE) hy;simp only [conc,← e1,← e2];congr 1<;>(apply qb7;simp)
  ·cases h
 |makeMap t r =>
  simp only at h ⊢
  split at h
  ·cases h
   have key:=zyu hw hS (.map [] 0) (.map #[] 0) 0 (fun E' hE hn=>by
    show (wNew w _).heap[(E' H.next).blk]? =_
    rw [hn];exact zkg)
   refine ⟨.map (some w.heap.size),wNew w (.map #[] 0),.inl ?_,_,fun E' hE=> ?_,key⟩
   ·simp only [qq4,Instr.makeMap,newObj,qj,Sem.run,qb,qt]
    rfl
   ·have:E' H.next=⟨w.heap.size,0,0⟩:=(hE H.next (qd1 _)).trans (Env.add_self _ _ _)
    simp [conc,this]
  ·cases h
 |makeSlice t l c =>
  simp only at h ⊢
  split at h
  ·next v u hv hu=>exact zwm h fun r H1 hr=>by rw [(zrb hT hv).self,(zrb hT hu).self];exact zsm hL hw hS hr
  ·cases h
 |slice t x lo hi mx =>
  simp only at h ⊢
  split at h
  ·next v p q r hv hp hq hr =>
   exact zsc hw hS h fun rr hrr=>zbf fun E' hE=>by
    rw [zkc (hT E' hE) hv,zfk hT hp E' hE,zfk hT hq E' hE,zfk hT hr E' hE];exact zlx hL hrr
  ·cases h
 |fieldAddr s x f =>
  simp only at h ⊢
  split at h
  ·next v hv=>exact zsc hw hS h fun r hr=>zbf fun E' hE=>by rw [zkc (hT E' hE) hv];exact zpm hL hr
  ·cases h
 |field t x f =>
  simp only at h ⊢
  split at h
  ·next v hv=>exact zsc hw hS h fun r hr=>zbf fun E' hE=>by rw [zkc (hT E' hE) hv];exact zhx hL hr
  ·cases h
 |indexAddr t x ix =>
  simp only at h ⊢
  split at h
  ·next v u hv hu=>exact zsc hw hS h fun r hr=>zbf fun E' hE=>by rw [zkc (hT E' hE) hv,zkc (hT E' hE) hu];exact zqm hL hr
  ·cases h
 |index t x ix =>
  simp only at h ⊢
  split at h
  ·next v u hv hu=>exact zsc hw hS h fun r hr=>zbf fun E' hE=>by rw [zkc (hT E' hE) hv,zkc (hT E' hE) hu];exact zix hL hr
  ·cases h
 |lookup t x k ok =>
  simp only at h ⊢
  split at h
  ·next v u hv hu=>exact zsc hw hS h fun r hr=>zbf fun E' hE=>by rw [zkc (hT E' hE) hv,zkc (hT E' hE) hu];exact zfv hL (hS E' hE) hr
  ·cases h
 |mapUpdate t m k x =>
  simp only at h ⊢
  split at h
  ·next p q r hp hq hr=>exact zxm h fun H1 hH=>zjh hL hw hS (zrb hT hp) (zrb hT hq) (zrb hT hr) hH
  ·cases h
 |insert t m k x =>
  simp only at h ⊢
  split at h
  ·next p q r hp hq hr=>exact zxm h fun H1 hH=>zjh hL hw hS (zrb hT hp) (zrb hT hq) (zrb hT hr) hH
  ·cases h
 |typeAssert x xt t ok =>
  simp only at h ⊢
  split at h
  ·next v hv=>exact zsc hw hS h fun r hr=>zbf fun E' hE=>by rw [zkc (hT E' hE) hv];exact zbv hL hr
  ·cases h
 |extract x ix =>
  simp only at h ⊢
  split at h
  ·next vs hv =>
   refine zsc hw hS h fun r hr=>zbf fun E' hE=> ?_
   rw [zkc (hT E' hE) hv];rw [zug] at hr;unfold Instr.extract;simp only [conc];have:(concL E' vs).toArray[ix]? =some (conc E' r):=by simp [zna?,hr]
   rw [this];rfl
  ·cases h
 |call c =>
  simp only at h ⊢
  split at h
  ·cases h
  ·next args hargs =>
   have hus:=zel1 hT hargs;have harr:c.args.map a.eval=(c.args.toList.map a.eval).toArray:=by apply qb7;simp
   split at h
   ·next b hb =>
    unfold val2 at h;split at h
    ·next p hp =>
     cases h
     obtain ⟨u,w1,hr,hd⟩:=zoq (P:=P) (ty:=ty) (cs:=c.args.map fun| .const _=>true|_=>false) hL hw hS hus hp
     refine ⟨u,w1,.inl ?_,hd⟩;unfold resolve;simp only [hb,qj,qt,qb,invoke,harr];exact hr
    ·cases h
   ·next f hf =>
    split at h
    ·next g hg =>
     have:=zsl (P:=P) (B:=B) (w:=w) hw (zrb hT hg) hus h;unfold resolve;simp only [hf,harr];exact this
    ·cases h
   ·next r name hr =>
    split at h
    ·next v hv =>
     have:=zkv (P:=P) hL hw hS (zrb hT hv) hus h;unfold resolve;simp only [hr,qj,qt,qb,invoke,harr];have h0:(#[a.eval r] ++ (List.map a.eval c.args.toList).toArray)[0]? =some (a.eval r):=by simp
     have h1:(#[a.eval r] ++ (List.map a.eval c.args.toList).toArray).extract 1 (#[a.eval r] ++ (List.map a.eval c.args.toList).toArray).size=(List.map a.eval c.args.toList).toArray:=by
      apply qb7
      simp;rw [qx (by simp)]
     rw [h0];simp only [h1];exact this
    ·cases h
 |_=>cases h
end
def Open (F:Fence):Prop:=(∀f,F.fn f)/\F.depth=none/\F.alive=false
theorem zgf:Open Fence.wide:=⟨fun _=>trivial,rfl,rfl⟩
theorem Open.inRound {F:Fence}(h:Open F) (l:Nat):Open (F.inRound l):=h
theorem zng {P:Program}{K:Fence}(hK:Open K):Machine.fenced P K=fun _=>True:=by
 funext mm
 refine eq_true fun g _=>⟨?_,Or.inl (hK.1 _),fun f _=>hK.1 f,fun d hd=> ?_⟩
 ·intro h;rw [hK.2.2] at h;cases h
 ·rw [hK.2.1] at hd;cases hd
theorem zzm {K:Fence}(hK:Open K) (n:Nat):K.room n:=by
 intro d hd;rw [hK.2.1] at hd;cases hd
theorem zlh {K:Fence}(hK:Open K) (n:Nat):K.depth.isSome=true->1<=n:=by
 intro h;rw [hK.2.1] at h;cases h
theorem zgk {F G:Fence}(hF:Open F) (hG:Open G){n m:Nat}{P:Program}{f:FuncId}{args:Array Value}{w:World}{R:Ending->World->Prop}(h:CallsIn F n P f args w R):CallsIn G m P f args w R:=by
 refine ⟨hG.1 f,fun cs _=> ?_⟩
 obtain ⟨e,w',fr,hR,hc,hx⟩:=h.2 cs (zzm hF _);refine ⟨e,w',fr,hR,?_,hx⟩;rw [zng hF] at hc;rw [zng hG];exact hc
def CallOk (P:Program) (B:Nat) (E:Env) (H:AH) (w:World) (f:FuncId) (us:List Value) (v:AV) (H1:AH):Prop :=
 match (callFunc f us.toArray).run P w with
 | .ok (.value u) w1=>Done B E H w v H1 u w1
 | .ok (.enter g vs) w'=>CallsIn Fence.wide 0 P g vs w' fun e w1=> ∃u,e= .returned u/\Done B E H w v H1 u w1
 |_=>False
structure RecOk (P:Program) (B:Nat) (rec:Rec):Prop where
 call:∀f args H out,rec (.call f args H)=some out-> ∀E w us,H.Wf->St B E H w->StL E H.next args us->CallOk P B E H w f us (zrg out) out.H
 round:∀l args H out,rec (.round l args H)=some out-> ∀E w us,H.Wf->St B E H w->StL E H.next args us ->
  ∃g tmps as bd w',(Instr.yield (E l).blk us.toArray).run P w= .ok (.round (E l).blk g tmps as bd) w' /\
   ∀F,Open F->F.round=none->RoundIn F 0 P (E l).blk g tmps as bd w' fun e w1=> ∃u,e= .returned u/\Done B E H w (zrg out) out.H u w1
section
variable {L:Lk}{P:Program}{B:Nat}{rec:Rec}{F:Fence}
theorem zpq {F G:Fence}(hF:Open F) (hG:Open G){n m:Nat}{P:Program}{l:Nat}{f:FuncId}{tmps:Array Value}{as bd:Code}{w:World}{R:Ending->World->Prop}(h:RoundIn F n P l f tmps as bd w R):RoundIn G m P l f tmps as bd w R:=by
 refine ⟨hG.1 f,fun c cs _=> ?_⟩
 obtain ⟨e,w',hR,hc⟩:=h.2 c cs (zzm hF _);refine ⟨e,w',hR,?_⟩;rw [zng hF] at hc;rw [zng hG];exact hc
theorem zog (hL:LOk0 L P) (hr:RecOk P B rec) (hF:Open F){T:Tr AV}{o:Oper}{H:AH}{v:AV}{H1:AH}(h:zwa L rec T o H=some (v,H1))
  {E:Env}{w:World}{a:Act}(hw:H.Wf) (hS:St B E H w) (hT:StT E H.next T a.tmps){K:Act->World->Prop}{Q:Exit->Act->World->Prop}
  (hK:∀u w1,Done B E H w v H1 u w1->K (a.put o.dst u) w1):o.wpIn F 0 P a w K Q:=by
 unfold zwa at h;refine ⟨fun f _=>hF.1 f,?_⟩
 split at h
 ·cases h
 ·next nx hnx =>
  have hop:∀c,o.op≠ .defer c:=by
   intro c hc;unfold evOp at hnx;rw [hc] at hnx;cases hnx
  rw [Oper.semAt_eq F.round a.eval o hop];have ho:=evOp_ok hL hw hS hT hnx;split at h
  ·next v' H' =>
   cases h
   obtain ⟨u,w1,hrun,hd⟩:=ho;rcases hrun with hrun|⟨hrun,rfl⟩
   ·rw [hrun];exact hK u w1 hd
   ·rw [hrun];exact hK undef w1 hd
  ·next f args =>
   split at h
   ·next out hout =>
    cases h
    obtain ⟨us,hus,hrun⟩:=ho;rw [hrun];have hc:=hr.call f args H out hout E w us hw hS hus;unfold CallOk at hc;split at hc
    ·next u w1 he=>rw [he];exact hK u w1 hc
    ·next g vs w' he =>
     rw [he];refine ⟨zlh hF _,(zgk zgf hF hc).mono fun e w1 ⟨u,he',hd⟩=> ?_⟩
     subst he';exact hK u w1 hd
    ·exact hc.elim
   ·cases h
  ·next l args =>
   split at h
   ·next out hout =>
    cases h
    obtain ⟨us,hus,hrun,hlt⟩:=ho;rw [hrun];obtain ⟨g,tmps,as,bd,w',hy,hro⟩:=hr.round l args H out hout E w us hw hS hus;rw [hy];refine ⟨zlh hF _,(zpq zgf hF (hro Fence.wide zgf rfl)).mono fun e w1 ⟨u,he',hd⟩=> ?_⟩
    subst he';exact hK u w1 hd
   ·cases h
theorem StT.put {E:Env}{n:Nat}{T:Tr AV}{a:Act}(hT:StT E n T a.tmps){d:Option Tmp}{v:AV}{u:Value}(hv:StV E n v u) (hd:∀t,d=some t->t<a.tmps.size):StT E n (putT T d v) (a.put d u).tmps:=by
 intro E' hE t;cases d with
 |none=>exact hT E' hE t
 |some d =>
  have hlt:=hd d rfl;show (a.tmps.setIfInBounds d u).getD t undef=conc E' (getT (T.set d v) t)
  rw [zlm];by_cases h:t=d
  ·subst h
   rw [qi rfl];simp [hlt,hv E' hE]
  ·rw [qd h,← hT E' hE t]
   simp [qn1,qc3,qa6 h]
theorem zji (a:Act) (d:Option Tmp) (u:Value):(a.put d u).tmps.size=a.tmps.size:=by cases d<;>simp [Act.put]
theorem zmh (a:Act) (d:Option Tmp) (u:Value):(a.put d u).defers=a.defers:=by cases d<;>rfl
theorem zas {E:Env}{T:Tr AV}{tmps:Array Value}(hT:TRel E T tmps) (ops:Array Oper) (o:Oper):Region.wanted o (yielded ops tmps)=zac ops.toList T o:=by
 unfold Region.wanted zac;cases o.guard with
 |none=>rfl
 |some g =>
  obtain ⟨j,want⟩:=g;simp only [zug,yielded,qa4];cases ops[j]? with
  |none=>rfl
  |some oj =>
   simp only [Option.bind_some];cases oj.dst with
   |none=>rfl
   |some d =>
    simp only [Option.bind_some];have h:=hT d;unfold getT at h;have hd:tmps[d]? =none\/tmps[d]? =some (tmps.getD d undef):=by
     cases he:tmps[d]? with
     |none=>exact .inl rfl
     |some u=>right;simp [qn1,he]
    rcases hd with hd|hd
    ·have hu:tmps.getD d undef=undef:=by simp [qn1,hd]
     rw [hu] at h;rw [hd];cases hg:T.get d with
     |none=>rfl
     |some v =>
      rw [hg] at h;cases v<;>first|rfl|cases h
    ·rw [hd,h]
     cases hg:T.get d with
     |none=>rfl
     |some v =>
      cases v<;>first|rfl|(simp only [qw4,conc];next b=>cases b<;>cases want<;>rfl)|(next k i o=>rcases k with _|_|_|k<;>rcases o with _|o<;>cases want<;>rfl)
theorem zfl1 (hL:LOk0 L P){T:Tr AV}{o:Oper}{H:AH}{v:AV}{H1:AH}(h:evEnd L T o H=some (v,H1))
  {E:Env}{w:World}{a:Act}(hw:H.Wf) (hS:St B E H w) (hT:StT E H.next T a.tmps) :
  (∃u,(execOp a.eval o).run P w= .ok (.value u) w/\Done B E H w v H1 u w)/\ ∀c,o.op≠ .defer c:=by
 obtain ⟨dst,op,ty,pos,after,guard⟩:=o;unfold evEnd at h;split at h
 ·next t x lo hi heq =>
  simp only at heq;subst heq;refine ⟨?_,fun c hc=>by cases hc⟩
  split at h
  ·next v0 av bv hv ha hb =>
   split at h
   ·next i o n c =>
    split at h
    ·next e hu =>
     split at h
     ·next l hh z hl hhi hz =>
      split at h
      ·next hbb =>
       cases h
       rw [qm] at hbb;obtain ⟨hbb,b3⟩:=hbb;rw [qm] at hbb;obtain ⟨b1,b2⟩:=hbb;have e1:l=c:=qf b1;have e2:=ble_t b2;have e3:=ble_t b3;subst e1;have e4:hh=l:=oM
       subst e4;have hsb:=zdc (P:=P) (w:=w) (E:=E) (isSl:=true) (n:=n) (c:=hh+(E i).extra) (mx:=none) (m:=hh+(E i).extra) hl hhi rfl rfl (qn _) oM (qn _)
       have e0:a.eval x=conc E (.sl i o n hh true):=zkc (hT E (Agree.refl _ _)) hv;have ea:=zfk hT ha E (Agree.refl _ _);have eb:=zfk hT hb E (Agree.refl _ _);have hrun:(Instr.sliceAt t (a.eval x) (lo.map a.eval) (hi.map a.eval) none).run P w =
         .ok (.slice (some ⟨(E i).blk,(E i).off+offOf (hh+(E i).extra) hh o z,none⟩) 0 (E i).extra) w:=by
        rw [e0,ea,eb];unfold Instr.sliceAt Instr.slice;simp only [conc,qj,zca hL hu,qb,qc5,qq4] at hsb ⊢
        simp only [hsb,qb,qj,zkb hL hz,qt];rw [zkx (E:=E)];congr 2<;>omega
       refine ⟨.slice (some ⟨(E i).blk,(E i).off+offOf (hh+(E i).extra) hh o z,none⟩) 0 (E i).extra,?_,?_⟩
       ·unfold execOp
        simp only [qq4];simp only [qj,hrun,qb,qt]
       ·refine ⟨E.add H.next ⟨(E i).blk,(E i).off+offOf (hh+(E i).extra) hh o z,(E i).extra⟩,fun E' hE=> ?_,fun E' hE=> ?_,?_,?_⟩
        ·have:E' H.next=_:=(hE H.next (qd1 _)).trans (Env.add_self _ _ _)
         simp [conc,this]
        ·have hA:Agree H.next E E':=(Env.add_agree E H.next _).trans hE (qy3 _)
         have r:=hS E' hA;exact ⟨r.blk,r.inj,r.base,r.size⟩
        ·refine ⟨Env.add_agree E H.next _,qy3 _,rfl,rfl,rfl,rfl,rfl,qn _,fun _ _ _=>rfl,fun c ho=> ?_,fun _ _=>rfl,fun _ r h=>⟨r,h⟩,fun h=>⟨h,fun _=>rfl⟩,fun c ho=> ?_,qn _⟩
         ·obtain ⟨j,b,hg,hbo,hlo,hc⟩:=ho
          have hg':H.get j=some b:=hg;have hlt:=hw.get_lt hg';refine .inl ⟨j,b,hg',hbo,hlo,?_⟩;rw [← hc,Env.add_agree E H.next _ j hlt]
         ·obtain ⟨j,b,hg,hbo,hc⟩:=ho
          have hg':H.get j=some b:=hg;have hlt:=hw.get_lt hg';refine .inl ⟨j,b,hg',hbo,?_⟩;rw [← hc,Env.add_agree E H.next _ j hlt]
        ·exact ⟨fun j b hj=>Nat.lt_succ_of_lt (hw.tree j b hj),qe5 hw.lo,fun r hr=>qe5 (hw.hide r hr)⟩
      ·cases h
     ·cases h
    ·cases h
   ·cases h
  ·cases h
 ·cases h
def ArrOps (F:Fence) (P:Program) (ops:Array Oper) (Q:Exit->Act->World->Prop) (l:List Nat) (a:Act) (w:World):Prop :=
 ∀(b:Frame) (k:List Item) (cs:List Frame),b.roundOf=F.round->F.fn b.fn->F.room (cs.length+1+0) ->
   ∃e a' w',Q e a' w'/\ArrivesIn (Machine.fenced P F) P (lone (b.atR a (.inRegion ops l::k)) cs w) b k cs e a' w'
section
variable {ops:Array Oper}{Q:Exit->Act->World->Prop}{a:Act}{w:World}
theorem ArrOps.nil (h:Q .normal a w):ArrOps F P ops Q [] a w:=fun _ _ _ _ hb hr=>⟨.normal,a,w,h,.one (fenced_calm hb hr rfl) stepR_region_end⟩
theorem ArrOps.skip (hF:Open F){i:Nat}{rest:List Nat}{o:Oper}(ho:ops[i]? =some o) (hw:Region.wanted o (yielded ops a.tmps)=false) (h:ArrOps F P ops Q rest (a.put o.dst undef) w):ArrOps F P ops Q (i::rest) a w:=by
 intro b k cs hro hb hr;obtain ⟨e,a',w',hq,harr⟩:=h b k cs hro hb hr;have hs:=stepR_op_skip (P:=P) (b:=b) (a:=a) (k:=k) (cs:=cs) (w:=w) (ops:=ops) (i:=i) (rest:=rest)
  (by simp [ho];simpa using hw)
 simp only [ho,Option.bind_some] at hs;exact ⟨e,a',w',hq,.of_steps (.one (fenced_oper hb hr ho (fun f _=>hF.1 f)) hs) harr⟩
theorem ArrOps.op (hF:Open F){i:Nat}{rest:List Nat}{o:Oper}(ho:ops[i]? =some o) (hw:Region.wanted o (yielded ops a.tmps)=true) (h:o.wpIn F 0 P a w (ArrOps F P ops Q rest) Q):ArrOps F P ops Q (i::rest) a w:=by
 intro b k cs hro hb hr;obtain ⟨habout,h⟩:=h;have h0:(lone (b.atR a (.inRegion ops (i::rest)::k)) cs w).fenced P F:=fenced_oper hb hr ho habout;simp only [Oper.uponIn] at h;have hg:=stepGR_op (P:=P) (b:=b) (k:=k) (cs:=cs) (w:=w) (rest:=rest) ho hw;rw [hro] at hg;have hfin:∀v,(b.atR a (.inRegion ops (i::rest)::k)).finish v=b.atR (a.put o.dst v) (.inRegion ops rest::k):=by
  intro v;rw [Frame.finish_atR,ho];rfl
 split at h
 ·rename_i v w' hr'
  obtain ⟨e,a',w'',hq,harr⟩:=h b k cs hro hb hr;refine ⟨e,a',w'',hq,.of_steps (.one h0 (qs5 ?_)) harr⟩;rw [hg,← hfin];simp [stepG.apply,hr']
 ·rename_i w' hr'
  obtain ⟨e,a',w'',hq,harr⟩:=h b k cs hro hb hr;refine ⟨e,a',w'',hq,.of_steps (.one h0 (qs5 ?_)) harr⟩;rw [hg,← hfin];simp [stepG.apply,hr']
 ·rename_i d w' hr'
  obtain ⟨e,a',w'',hq,harr⟩:=h b k cs hro hb hr;refine ⟨e,a',w'',hq,.of_steps (.one h0 (qs5 ?_)) harr⟩;have:({b.atR a (.inRegion ops (i::rest)::k) with defers:=d::a.defers}:Frame).finish undef =
    b.atR ({a with defers:=d::a.defers}.put o.dst undef) (.inRegion ops rest::k):=by
   have:=Frame.finish_atR b {a with defers:=d::a.defers} ops i rest k undef
   rw [ho] at this;exact this
  rw [hg];simp only [stepG.apply,Sem.runT_eq,hr',GStep.bare_after];exact qu4 (fun fr=>GStep.go {frame:=fr,callers:=cs,status:=.running,dying:=none} w') this
 ·rename_i f args w' hr'
  obtain ⟨hn,hFf,h⟩:=h;have hroom:F.room ((b.atR a (.inRegion ops (i::rest)::k)::cs).length+1+(0 - 1)):=Fence.room_enter hr hn;obtain ⟨e,w'',fr,hR,hsteps,hfn,hleave⟩:=h (b.atR a (.inRegion ops (i::rest)::k)::cs) hroom;have henter:step P (lone (b.atR a (.inRegion ops (i::rest)::k)) cs w) =
    .next (lone (Frame.enter P f args .normal) (b.atR a (.inRegion ops (i::rest)::k)::cs) w') :=
   qs5 (by rw [hg];simp [stepG.apply,hr',Frame.atR])
  cases e with
  |returned v =>
   have hl:(lone fr (b.atR a (.inRegion ops (i::rest)::k)::cs) w'').fenced P F:=fenced_leaving (hfn▸hFf) hroom hleave;obtain ⟨e,a',w₃,hq,harr⟩:=hR b k cs hro hb hr;refine ⟨e,a',w₃,hq,.of_steps (.head h0 henter (StepsIn.trans hsteps (.one hl ?_))) harr⟩;rw [← hfin];exact step_leave_returned hleave
  |panicked chain =>
   have hl:(lone fr (b.atR a (.inRegion ops (i::rest)::k)::cs) w'').fenced P F:=fenced_leaving (hfn▸hFf) hroom hleave;refine ⟨.panic chain,a,w'',hR,.inRegion ops (i::rest)::k,.head h0 henter (StepsIn.trans hsteps (.one hl ?_))⟩;rw [← Frame.raise_atR];exact step_leave_panicked hleave
  |outgrown =>
   obtain ⟨a₀,w₀,hq⟩:=hR;exact ⟨.outgrown,a₀,w₀,hq,.inr (Outgrown.of_steps (.one henter) hsteps)⟩
 ·rename_i row args w' hr'
  obtain ⟨hn,h⟩:=h;obtain ⟨v,w'',hR,hsteps⟩:=h (b.atR a (.inRegion ops (i::rest)::k)) cs (Fence.room_enter hr hn);have henter:step P (lone (b.atR a (.inRegion ops (i::rest)::k)) cs w) =
    .next (lone (Frame.ofRow P row args .normal) (b.atR a (.inRegion ops (i::rest)::k)::cs) w') :=
   qs5 (by rw [hg];simp [stepG.apply,hr',Frame.atR])
  obtain ⟨e,a',w₃,hq,harr⟩:=hR b k cs hro hb hr;refine ⟨e,a',w₃,hq,.of_steps (.head h0 henter ?_) harr⟩;rw [← hfin];exact hsteps
 ·rename_i l f tmps assign body w' hr'
  obtain ⟨hn,_,h⟩:=h;obtain ⟨e,w'',hR,hsteps⟩:=h (b.atR a (.inRegion ops (i::rest)::k)) cs (Fence.room_enter hr hn);have henter:step P (lone (b.atR a (.inRegion ops (i::rest)::k)) cs w) =
    .next (lone (Frame.round l f tmps assign body .normal) (b.atR a (.inRegion ops (i::rest)::k)::cs) w') :=
   qs5 (by rw [hg];simp [stepG.apply,hr',Frame.atR])
  cases e with
  |returned v =>
   obtain ⟨e,a',w₃,hq,harr⟩:=hR b k cs hro hb hr;refine ⟨e,a',w₃,hq,.of_steps (.head h0 henter ?_) harr⟩;rw [← hfin];exact hsteps
  |panicked chain =>
   refine ⟨.panic chain,a,w'',hR,.inRegion ops (i::rest)::k,.head h0 henter ?_⟩;rw [← Frame.raise_atR];exact hsteps
  |outgrown =>
   obtain ⟨a₀,w₀,hq⟩:=hR;exact ⟨.outgrown,a₀,w₀,hq,.inr (Outgrown.of_steps (.one henter) hsteps)⟩
 ·rename_i v w' hr'
  refine ⟨_,a,w',h,.inRegion ops (i::rest)::k,.one h0 (qs5 ?_)⟩;rw [hg,← Frame.raise_atR];simp [stepG.apply,hr']
 ·exact h.elim
end
theorem zyx (hL:LOk0 L P) (hr:RecOk P B rec) (hF:Open F){T:Tr AV}{o:Oper}{H:AH}{v:AV}{H1:AH}(h:zwf L rec T o H=some (v,H1)){ops:Array Oper}{Q:Exit->Act->World->Prop}
  {E:Env}{w:World}{a:Act}(hw:H.Wf) (hS:St B E H w) (hT:StT E H.next T a.tmps){i:Nat}{rest:List Nat}(ho:ops[i]? =some o) (hwant:Region.wanted o (yielded ops a.tmps)=true)
  (hK:∀u w1,Done B E H w v H1 u w1->ArrOps F P ops Q rest (a.put o.dst u) w1):ArrOps F P ops Q (i::rest) a w:=by
 unfold zwf at h;split at h
 ·next r hr'=>cases h;exact ArrOps.op hF ho hwant (zog hL hr hF hr' hw hS hT hK)
 ·split at h
  ·next r he =>
   cases h
   obtain ⟨⟨u,hrun,hd⟩,hop⟩:=zfl1 (B:=B) hL he hw hS hT;refine ArrOps.op hF ho hwant ⟨fun f _=>hF.1 f,?_⟩
   rw [Oper.semAt_eq F.round a.eval o hop,hrun];exact hK u w hd
  ·cases h
theorem zgl1 (hL:LOk0 L P) (hr:RecOk P B rec) (hF:Open F) (ops:Array Oper) (l:List Oper):∀(k:Nat),(∀j,l[j]? =ops[k+j]?)-> ∀(T:Tr AV) (H:AH) (T1:Tr AV) (H1:AH),evOps L rec ops.toList l T H=some (T1,H1) ->
  ∀(E:Env) (w:World) (a:Act),H.Wf->St B E H w->StT E H.next T a.tmps->(∀o∈l,∀d,o.dst=some d->d<a.tmps.size)-> ∀(Q:Exit->Act->World->Prop),
   (∀E1 a1 w1,St B E1 H1 w1->StT E1 H1.next T1 a1.tmps->Post E H w E1 H1 w1->H1.Wf->a1.tmps.size=a.tmps.size->a1.defers=a.defers->Q .normal a1 w1) ->
   ArrOps F P ops Q (List.range' k l.length) a w:=by
 induction l with
 |nil =>
  intro k _ T H T1 H1 h E w a hw hS hT _ Q hQ;cases h;exact ArrOps.nil (hQ E a w hS hT (Post.refl _ _ _) hw rfl rfl)
 |cons o l ih =>
  intro k hk T H T1 H1 h E w a hw hS hT hd Q hQ;have h0:ops[k]? =some o:=by simpa using (hk 0).symm
  have hk':∀j,l[j]? =ops[k+1+j]? :=fun j=>by have:=hk (j+1);simpa [qb6,qm7 1 j] using this
  simp only [ql2,List.range'_succ];have hwk:=zas (hT E (Agree.refl _ _)) ops o;unfold evOps at h;rw [zta] at h;have hdo:=hd o (by simp)
  split at h
  ·next hwant =>
   split at h
   ·next r hro =>
    refine zyx hL hr hF hro hw hS hT h0 (hwk.trans hwant) fun u w1 ⟨E1,hv,hS1,hp,hw1⟩=> ?_
    refine ih (k+1) hk' _ _ _ _ h E1 w1 _ hw1 hS1 (StT.put (hT.up hp.ext hp.next) hv hdo) (fun o ho d hod=>by rw [zji];exact hd o (by simp [ho]) d hod) Q fun E2 a2 w2 k1 k2 k3 k4 k5 k6=> ?_
    exact hQ E2 a2 w2 k1 k2 (hp.trans k3) k4 (k5.trans (zji _ _ _)) (k6.trans (zmh _ _ _))
   ·cases h
  ·next hwant =>
   refine ArrOps.skip hF h0 (hwk.trans hwant) ?_;refine ih (k+1) hk' _ _ _ _ h E w _ hw hS (StT.put hT (v:=.undef) (u:=undef) (fun _ _=>rfl) hdo) (fun o ho d hod=>by rw [zji];exact hd o (by simp [ho]) d hod) Q fun E2 a2 w2 k1 k2 k3 k4 k5 k6=> ?_
   exact hQ E2 a2 w2 k1 k2 k3 k4 (k5.trans (zji _ _ _)) (k6.trans (zmh _ _ _))
end
end Go.Ev
