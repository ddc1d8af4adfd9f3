import Derived.Test.YtmdkejaglfokaaaGreatVAAA
import Derived.Laws.Entries
import Derived.Laws.Sem
import Derived.ChangeKeysEq
import Derived.Laws.StructEq
import Derived.Stop.Asserts
import Derived.Laws.Append
import Derived.Laws.BytesArg
set_option maxHeartbeats 8000000
set_option linter.unusedSimpArgs false
set_option linter.unusedVariables false
namespace Go.Ev
def Own (E:Env) (H:AH) (c:Nat):Prop:= ∃i b,H.get i=some b/\b.own=true/\H.lo<=i/\(E i).blk=c
def Lives (E:Env) (H:AH) (c:Nat):Prop:= ∃i b,H.get i=some b/\b.live=true/\(E i).blk=c
def objFz (o:Obj) (off:Nat):Bool:=match o with| .cells _ _ fz=>decide (fz.1<=off) && decide (off<fz.2)|_=>false
theorem zke (w:World) (a:Addr):w.frozen? a=(match w.heap[a.block]? with|some o=>objFz o a.off|none=>false):=by
 unfold World.frozen?
 cases w.heap[a.block]? with
 |none=>rfl
 |some o=>cases o<;>rfl
structure Post (E:Env) (H:AH) (w:World) (E1:Env) (H1:AH) (w1:World):Prop where
 ext:Agree H.next E E1
 next:H.next<=H1.next
 lo:H1.lo=H.lo
 hide:H1.hide=H.hide
 tape:w1.tape=w.tape
 os:w1.os=w.os
 output:w1.output=w.output
 size:w.heap.size<=w1.heap.size
 frame:∀c,c<w.heap.size-> ¬Own E H c->w1.heap[c]? =w.heap[c]?
 own:∀c,Own E1 H1 c->Own E H c\/w.heap.size<=c
 keep:∀i,i<H.lo\/H.vis i=false->H1.tree.get i=H.tree.get i
 loops:∀(c:Nat) (r:Loop),w.heap[c]? =some (Obj.loop r)-> ∃r':Loop,w1.heap[c]? =some (Obj.loop r')
 froz:H1.fz=false->H.fz=false/\ ∀a,w1.frozen? a=w.frozen? a
 lives:∀c,Lives E1 H1 c->Lives E H c\/w.heap.size<=c
 dr:w.drawn<=w1.drawn
theorem vis_of {H H1:AH}(h:H1.hide=H.hide) (i:Nat):H1.vis i=H.vis i:=by unfold AH.vis;rw [h]
theorem Post.refl (E:Env) (H:AH) (w:World):Post E H w E H w :=
 ⟨Agree.refl _ _,qn _,rfl,rfl,rfl,rfl,rfl,qn _,fun _ _ _=>rfl,fun _ h=>.inl h,fun _ _=>rfl,fun _ r h=>⟨r,h⟩,fun h=>⟨h,fun _=>rfl⟩,fun _ h=>.inl h,qn _⟩
theorem Post.trans {E E1 E2:Env}{H H1 H2:AH}{w w1 w2:World}(h:Post E H w E1 H1 w1) (k:Post E1 H1 w1 E2 H2 w2):Post E H w E2 H2 w2 where
 ext:=h.ext.trans k.ext h.next
 next:=qx2 h.next k.next
 lo:=k.lo.trans h.lo
 hide:=k.hide.trans h.hide
 tape:=k.tape.trans h.tape
 os:=k.os.trans h.os
 output:=k.output.trans h.output
 size:=qx2 h.size k.size
 frame c hc hn:=(k.frame c (qa1 hc h.size) (fun ho=>(h.own c ho).elim hn (fun hge=>absurd hc oM))).trans (h.frame c hc hn)
 own c ho:=by
  rcases k.own c ho with h1|h1
  ·exact h.own c h1
  ·exact .inr (qx2 h.size h1)
 keep i hi:=(k.keep i (by rw [h.lo,vis_of h.hide];exact hi)).trans (h.keep i hi)
 loops c r hc:=let ⟨r1,h1⟩:=h.loops c r hc;k.loops c r1 h1
 froz hz:=⟨(h.froz (k.froz hz).1).1,fun a=>((k.froz hz).2 a).trans ((h.froz (k.froz hz).1).2 a)⟩
 lives c hc:=by
  rcases k.lives c hc with h1|h1
  ·exact h.lives c h1
  ·exact .inr (qx2 h.size h1)
 dr:=qx2 h.dr k.dr
theorem Post.drawn {E:Env}{H:AH}{w:World}(n:Nat) (hn:w.drawn<=n:=by omega):Post E H w E H {w with drawn:=n} :=
 ⟨Agree.refl _ _,qn _,rfl,rfl,rfl,rfl,rfl,qn _,fun _ _ _=>rfl,fun _ h=>.inl h,fun _ _=>rfl,fun _ r h=>⟨r,h⟩,fun h=>⟨h,fun _=>rfl⟩,fun _ h=>.inl h,hn⟩
def St (B:Nat) (E:Env) (H:AH) (w:World):Prop:= ∀E',Agree H.next E E'->HRel B E' H w
def StV (E:Env) (n:Nat) (v:AV) (u:Value):Prop:= ∀E',Agree n E E'->u=conc E' v
def StL (E:Env) (n:Nat) (l:List AV) (us:List Value):Prop:= ∀E',Agree n E E'->us=concL E' l
def StT (E:Env) (n:Nat) (T:Tr AV) (tmps:Array Value):Prop:= ∀E',Agree n E E'->TRel E' T tmps
theorem St.self {B:Nat}{E:Env}{H:AH}{w:World}(h:St B E H w):HRel B E H w:=h E (Agree.refl _ _)
theorem StV.self {E:Env}{n:Nat}{v:AV}{u:Value}(h:StV E n v u):u=conc E v:=h E (Agree.refl _ _)
theorem StV.up {E E1:Env}{n m:Nat}{v:AV}{u:Value}(h:StV E n v u) (ha:Agree n E E1) (hle:n<=m):StV E1 m v u :=
 fun E' hE=>h E' (ha.trans hE hle)
theorem StL.up {E E1:Env}{n m:Nat}{l:List AV}{us:List Value}(h:StL E n l us) (ha:Agree n E E1) (hle:n<=m):StL E1 m l us :=
 fun E' hE=>h E' (ha.trans hE hle)
theorem StT.up {E E1:Env}{n m:Nat}{T:Tr AV}{tmps:Array Value}(h:StT E n T tmps) (ha:Agree n E E1) (hle:n<=m):StT E1 m T tmps :=
 fun E' hE=>h E' (ha.trans hE hle)
theorem St.drawn {B:Nat}{E:Env}{H:AH}{w:World}(h:St B E H w) (n:Nat):St B E H {w with drawn:=n}:=fun E' hE =>
 let r:=h E' hE
 ⟨fun i b hg=>(r.blk i b hg).congr (fun _=>rfl),r.inj,r.base,r.size⟩
def Env.add (E:Env) (n:Nat) (x:EB):Env:=fun i=>if i=n then x else E i
theorem Env.add_self (E:Env) (n:Nat) (x:EB):E.add n x n=x:=by simp [Env.add]
theorem Env.add_agree (E:Env) (n:Nat) (x:EB):Agree n E (E.add n x):=fun i hi=>by simp [Env.add];omega
def wNew (w:World) (o:Obj):World:= {w with heap:=w.heap.push o}
theorem zng (w:World) (o:Obj):(wNew w o).heap.size=w.heap.size+1:=by simp [wNew]
theorem zdj {w:World}{o:Obj}{c:Nat}(h:c<w.heap.size):(wNew w o).heap[c]? =w.heap[c]? :=by
 show (w.heap.push o)[c]? =_
 rw [Array.getElem?_push,qg (Nat.ne_of_lt h)]
theorem zog {w:World}{o:Obj}:(wNew w o).heap[w.heap.size]? =some o:=by
 show (w.heap.push o)[w.heap.size]? =_
 rw [Array.getElem?_push,qj rfl]
theorem AH.new_get {H:AH}(hw:H.Wf) (b:ABlk) (i:Nat):(H.new b).get i=if i=H.next then some b else H.get i:=by
 unfold AH.get;have hv:(H.new b).vis i=H.vis i:=rfl;rw [hv];show (match H.vis i with|true=>(H.tree.set H.next b).get i|false=>none)=_
 rw [Tr.get_set];by_cases h:i=H.next
 ·subst h
  rw [qj rfl,qj rfl,hw.vis_ge (qn _)]
 ·rw [qg h,qg h]<;>rfl
theorem AH.new_wf {H:AH}(hw:H.Wf) (b:ABlk):(H.new b).Wf:=by
 refine ⟨fun i c h=> ?_,qf5 hw.lo,fun r hr=>qf5 (hw.hide r hr)⟩
 have h':(H.tree.set H.next b).get i=some c:=h;rw [Tr.get_set] at h';show i<H.next+1
 split at h'
 ·omega
 ·exact Nat.lt_succ_of_lt (hw.tree i c h')
theorem zyr {w:World}{o:Obj}(hz:∀off,objFz o off=false) (a:Addr):(wNew w o).frozen? a=w.frozen? a:=by
 rw [zke,zke];rcases Nat.lt_trichotomy a.block w.heap.size with h|h|h
 ·rw [zdj h]
 ·rw [h,zog,qy2 (qn _)];exact hz _
 ·rw [qy2 (by rw [zng];omega),qy2 oM]
theorem zav {B:Nat}{E:Env}{H:AH}{w:World}(hw:H.Wf) (hS:St B E H w) (b:ABlk) (o:Obj) (ex:Nat)
  (hb:∀E',Agree H.next E E'->E' H.next=⟨w.heap.size,0,ex⟩->BRel E' H.next b (wNew w o)) (hz:∀off,objFz o off=false:=by intro off;simp [objFz]) :
  St B (E.add H.next ⟨w.heap.size,0,ex⟩) (H.new b) (wNew w o)/\Post E H w (E.add H.next ⟨w.heap.size,0,ex⟩) (H.new b) (wNew w o)/\(H.new b).Wf:=by
 refine ⟨fun E' hE=> ?_,?_,AH.new_wf hw b⟩
 ·have hA:Agree H.next E E':=(Env.add_agree E H.next _).trans hE (qv3 _)
  have hn:E' H.next=⟨w.heap.size,0,ex⟩:=(hE H.next (qc1 _)).trans (Env.add_self _ _ _);have r:=hS E' hA;refine ⟨fun i c hg=> ?_,fun i j c d hi hj hne hc hd=> ?_,fun i c hg hc=> ?_,by rw [zng];have:=r.size;omega⟩
  ·rw [AH.new_get hw] at hg
   split at hg
   ·next h=>subst h;cases hg;exact hb E' hA hn
   ·have hbr:=r.blk i c hg
    exact hbr.congr fun hl=>zdj (hbr.obj hl)
  ·rw [AH.new_get hw] at hi hj
   split at hi
   ·next h =>
    subst h;rw [qg (qz5 hne)] at hj;rw [hn];have:=(r.blk j d hj).obj hd;show w.heap.size≠_
    omega
   ·next h =>
    have hlive:c.live=true:=by cases c<;>first|rfl|(simp [ABlk.own] at hc)
    split at hj
    ·next h' =>
     subst h';rw [hn];have:=(r.blk i c hi).obj hlive;show _≠w.heap.size
     omega
    ·exact r.inj i j c d hi hj hne hc hd
  ·rw [AH.new_get hw] at hg
   split at hg
   ·next h=>subst h;rw [hn];exact r.size
   ·exact r.base i c hg hc
 ·refine ⟨Env.add_agree _ _ _,qv3 _,rfl,rfl,rfl,rfl,rfl,by rw [zng];omega,fun c hc _=>zdj hc,fun c ho=> ?_,fun i hi=> ?_,fun c r hc=>⟨r,(zdj (qn2.1 hc).1).trans hc⟩,fun h=>⟨h,zyr hz⟩,fun c ho=> ?_,qn _⟩
  ·obtain ⟨i,d,hg,hd,hlo,he⟩:=ho
   rw [AH.new_get hw] at hg;split at hg
   ·next h=>subst h;rw [Env.add_self] at he;right;rw [← he];exact qn _
   ·next h =>
    left
    refine ⟨i,d,hg,hd,hlo,?_⟩;rw [← he,(Env.add_agree E H.next _ i (hw.get_lt hg))]
  ·show (H.tree.set H.next b).get i=_
   rw [Tr.get_set,qg];rintro rfl;rcases hi with hi|hi
   ·exact absurd hw.lo oM
   ·rw [hw.vis_ge (qn _)] at hi;cases hi
  ·obtain ⟨i,d,hg,hd,he⟩:=ho
   rw [AH.new_get hw] at hg;split at hg
   ·next h=>subst h;rw [Env.add_self] at he;right;rw [← he];exact qn _
   ·next h =>
    left
    refine ⟨i,d,hg,hd,?_⟩;rw [← he,(Env.add_agree E H.next _ i (hw.get_lt hg))]
theorem AH.put_get {H:AH}{i:Nat}(hv:H.vis i=true) (b:ABlk) (j:Nat):(H.put i b).get j=if j=i then some b else H.get j:=by
 unfold AH.get;show (match H.vis j with|true=>(H.tree.set i b).get j|false=>none)=_
 rw [Tr.get_set];by_cases h:j=i
 ·subst h;rw [qj rfl,qj rfl,hv]
 ·rw [qg h,qg h]<;>rfl
theorem AH.put_wf {H:AH}(hw:H.Wf){i:Nat}(hi:i<H.next) (b:ABlk):(H.put i b).Wf:=by
 refine ⟨fun j c h=> ?_,hw.lo,hw.hide⟩
 have h':(H.tree.set i b).get j=some c:=h;rw [Tr.get_set] at h';show j<H.next
 split at h'
 ·omega
 ·exact hw.tree j c h'
theorem zgk {w:World}{b:Nat}{o:Obj}(hk:∀r,w.heap[b]? =some (.loop r)-> ∃r',o= .loop r') (c:Nat) (r:Loop) (hc:w.heap[c]? =some (.loop r)):∃r',(zvc w b o).heap[c]? =some (.loop r'):=by
 by_cases h:b=c
 ·subst h
  obtain ⟨r',rfl⟩:=hk r hc;exact ⟨r',zld hc⟩
 ·exact ⟨r,(zmg h).trans hc⟩
theorem zji {w:World}{b:Nat}{o:Obj}(hz:∀x off,w.heap[b]? =some x->objFz o off=objFz x off) (a:Addr):(zvc w b o).frozen? a=w.frozen? a:=by
 rw [zke,zke];by_cases h:b=a.block
 ·subst h
  cases hx:w.heap[a.block]? with
  |none=>rw [qy2 (by rw [zwe];exact Array.getElem?_eq_none_iff.1 hx)]
  |some x=>rw [zld hx];exact hz x _ hx
 ·rw [zmg h]
theorem zsm {B:Nat}{E:Env}{H:AH}{w:World}(hw:H.Wf) (hS:St B E H w){i:Nat}{b0:ABlk}(hg0:H.get i=some b0) (hown:b0.own=true) (hlo:H.lo<=i) (b:ABlk) (o:Obj) (hk:∀r,w.heap[(E i).blk]? =some (.loop r)-> ∃r',o= .loop r') (hz:∀x off,w.heap[(E i).blk]? =some x->objFz o off=objFz x off)
  (hb:∀E',Agree H.next E E'->BRel E' i b (zvc w (E i).blk o)) :
  St B E (H.put i b) (zvc w (E i).blk o)/\Post E H w E (H.put i b) (zvc w (E i).blk o)/\(H.put i b).Wf:=by
 have hvis:=(AH.get_some.1 hg0).1;have hlt:=hw.get_lt hg0;refine ⟨fun E' hE=> ?_,?_,AH.put_wf hw hlt b⟩
 ·have r:=hS E' hE
  have hei:E' i=E i:=hE i hlt;have hlive0:b0.live=true:=by cases b0<;>first|rfl|(simp [ABlk.own] at hown)
  refine ⟨fun j c hg=> ?_,fun j k c d hj hk hne hc hd=> ?_,fun j c hg hc=> ?_,by rw [zwe];exact r.size⟩
  ·rw [AH.put_get hvis] at hg
   split at hg
   ·next h=>subst h;cases hg;exact hb E' hE
   ·next h =>
    have hbr:=r.blk j c hg;refine hbr.congr fun hl=>zmg ?_
    rw [← hei];exact r.inj i j b0 c hg0 hg (qz5 h) hown hl
  ·rw [AH.put_get hvis] at hj hk
   have hlc:c.live=true:=by cases c<;>first|rfl|(simp [ABlk.own] at hc)
   split at hj
   ·next h =>
    subst h;rw [qg (qz5 hne)] at hk;exact r.inj j k b0 d hg0 hk hne hown hd
   ·next h =>
    split at hk
    ·next h' =>
     subst h';exact (r.inj k j b0 c hg0 hj (qz5 hne) hown hlc).symm
    ·exact r.inj j k c d hj hk hne hc hd
  ·rw [AH.put_get hvis] at hg
   split at hg
   ·next h=>subst h;exact r.base j b0 hg0 hown
   ·exact r.base j c hg hc
 ·refine ⟨Agree.refl _ _,qn _,rfl,rfl,rfl,rfl,rfl,by rw [zwe];exact qn _,fun c hc hn=> ?_,fun c ho=> ?_,fun j hj=> ?_,zgk hk,fun h=>⟨h,zji hz⟩,fun c ho=> ?_,qn _⟩
  ·refine zmg ?_
   rintro rfl;exact hn ⟨i,b0,hg0,hown,hlo,rfl⟩
  ·obtain ⟨j,d,hg,hd,hl,he⟩:=ho
   left
   rw [AH.put_get hvis] at hg;split at hg
   ·next h=>subst h;exact ⟨j,b0,hg0,hown,hlo,he⟩
   ·exact ⟨j,d,hg,hd,hl,he⟩
  ·show (H.tree.set i b).get j=_
   rw [Tr.get_set,qg];rintro rfl;rcases hj with hj|hj
   ·omega
   ·rw [hvis] at hj;cases hj
  ·obtain ⟨j,d,hg,hd,he⟩:=ho
   left
   rw [AH.put_get hvis] at hg;split at hg
   ·next h=>subst h;exact ⟨j,b0,hg0,by cases b0<;>first|rfl|(simp [ABlk.own] at hown),he⟩
   ·exact ⟨j,d,hg,hd,he⟩
theorem zvg1 {B:Nat}{E:Env}{H:AH}{w:World}(hw:H.Wf) (hS:St B E H w){i:Nat}{b0:ABlk}(hg0:H.get i=some b0) (hlo:H.lo<=i) :
  St B E (H.drop i) w/\Post E H w E (H.drop i) w/\(H.drop i).Wf:=by
 have hvis:=(AH.get_some.1 hg0).1;have hlt:=hw.get_lt hg0;refine ⟨fun E' hE=> ?_,?_,AH.put_wf hw hlt _⟩
 ·have r:=hS E' hE
  unfold AH.drop;refine ⟨fun j c hg=> ?_,fun j k c d hj hk hne hc hd=> ?_,fun j c hg hc=> ?_,r.size⟩
  ·rw [AH.put_get hvis] at hg
   split at hg
   ·cases hg;trivial
   ·exact r.blk j c hg
  ·rw [AH.put_get hvis] at hj hk
   split at hj
   ·cases hj;cases hc
   ·split at hk
    ·cases hk;cases hd
    ·exact r.inj j k c d hj hk hne hc hd
  ·rw [AH.put_get hvis] at hg
   split at hg
   ·cases hg;cases hc
   ·exact r.base j c hg hc
 ·refine ⟨Agree.refl _ _,qn _,rfl,rfl,rfl,rfl,rfl,qn _,fun c hc hn=>rfl,fun c ho=> ?_,fun j hj=> ?_,fun _ r h=>⟨r,h⟩,fun h=>⟨h,fun _=>rfl⟩,fun c ho=> ?_,qn _⟩
  ·obtain ⟨j,d,hg,hd,hl,he⟩:=ho
   unfold AH.drop at hg;rw [AH.put_get hvis] at hg;split at hg
   ·cases hg;cases hd
   ·exact .inl ⟨j,d,hg,hd,hl,he⟩
  ·show (H.tree.set i .defd).get j=_
   rw [Tr.get_set,qg];rintro rfl;rcases hj with hj|hj
   ·omega
   ·rw [hvis] at hj;cases hj
  ·obtain ⟨j,d,hg,hd,he⟩:=ho
   left
   unfold AH.drop at hg;rw [AH.put_get hvis] at hg;split at hg
   ·cases hg;cases hd
   ·exact ⟨j,d,hg,hd,he⟩
theorem znj {P:Program}{B:Nat}{E:Env}{H H1:AH}{w:World}(hw:H.Wf) (hS:St B E H w){i o:Nat}{X:Ce}(hx:∀E',Agree H.next E E'->concL E' X.l=concL E X.l) (h:H.writeC i o X=some H1) :
  ∃w1,(storeCells (cA E i o) (concL E X.l)).run P w= .ok () w1/\St B E H1 w1/\Post E H w E H1 w1/\H1.Wf/\H1.next=H.next:=by
 unfold AH.writeC at h;cases hlo:Nat.ble H.lo i with
 |false=>rw [hlo] at h;cases h
 |true =>
  rw [hlo] at h;have hlo':=qf1 hlo;cases hg:H.get i with
  |none=>rw [hg] at h;cases h
  |some b =>
   rw [hg] at h;cases b with
   |cells vs e z op ro =>
    cases ro with
    |true=>cases h
    |false =>
     simp only at h;cases hone':X.one with
     |false=>rw [hone'] at h;cases h
     |true =>
      have hone:=Ce.one_l hone';rw [hone'] at h;simp only at h;cases hov':Ce.over X vs o with
      |none=>rw [hov'] at h;cases h
      |some vs' =>
       rw [hov'] at h;simp only [qz1] at h;subst h;have hov:=Ce.over_l hov';obtain ⟨hle,hvs'⟩:=(zyb X.l vs.l o vs'.l).1 hov;obtain ⟨cs,e',fz,h1,h2,h3⟩:=hS.self.blk i _ hg;obtain ⟨hfz,hsz,hfl,hmk⟩:=h3 rfl;obtain ⟨cs',hrun,hs',hj'⟩:=zjh (P:=P) (E:=E) (i:=i) (o:=o) X.l 0 w cs h1 hfz.2 (by rw [hsz];omega) hone
       refine ⟨_,hrun,?_⟩;have key:=zsm hw hS hg rfl hlo' (.cells vs' e z op false) (.cells cs' e' fz) (fun r hr=>by rw [h1] at hr;cases hr) (fun x off hx=>by rw [h1] at hx;cases hx;rfl) (fun E' hE=>by
        have hei:E' i=E i:=hE i (hw.get_lt hg);obtain ⟨cs2,e2,fz2,k1,k2,_⟩:=(hS E' hE).blk i _ hg;rw [hei,h1] at k1;cases k1;refine ⟨cs',e',fz,by rw [hei];exact zld h1,fun j v hv=> ?_,fun _=>⟨by rw [hs'];exact hfz,by rw [hs',hsz,hei,hvs'];simp;omega,fun ho j u hj hu=>by
         rw [hei,hvs'] at hj;simp only [qy,qd1,qb2] at hj;rw [hj',qg oM] at hu
         exact hfl ho j u oM hu,by rw [hs'];exact hmk⟩⟩
        rw [hei,hj'];rw [hvs'] at hv;by_cases hin:(E i).off+o+0<=(E i).off+j/\(E i).off+j<(E i).off+o+0+X.l.length
        ·rw [qj hin]
         rw [qg1,qw1 (by simp;omega),qr1 (by simp;omega)] at hv
         have hlt:min o vs.l.length=o:=oM
         simp only [qd1,hlt] at hv;have hcx:(concL E' X.l)[j - o]? =(concL E X.l)[j - o]? :=by rw [hx E' hE]
         rw [zma?,zma?,hv] at hcx;rw [show (E i).off+j - ((E i).off+o+0)=j - o from oM,hv]
         exact hcx.symm
        ·rw [qg hin]
         have:=k2 j v (by
          by_cases hjo:j<o
          ·rw [qg1,qr1 (by simp;omega),qa2 hjo] at hv
           exact hv
          ·rw [qw1 (by simp;omega),qj2] at hv
           simp only [qy,qd1,show min o vs.l.length=o from oM] at hv
           rwa [show o+X.l.length+(j - (o+X.l.length))=j from oM] at hv)
         rwa [hei] at this)
       exact ⟨key.1,key.2.1,key.2.2,rfl⟩
   |_=>cases h
theorem zhk1 {P:Program}{B:Nat}{E:Env}{H H1:AH}{w:World}(hw:H.Wf) (hS:St B E H w){i o:Nat}{xs:List AV}(hx:∀E',Agree H.next E E'->concL E' xs=concL E xs) (h:H.write i o xs=some H1) :
  ∃w1,(storeCells (cA E i o) (concL E xs)).run P w= .ok () w1/\St B E H1 w1/\Post E H w E H1 w1/\H1.Wf/\H1.next=H.next:=by
 have:=znj (P:=P) hw hS (X:=Ce.of xs) (by rw [Ce.of_l];exact hx) h
 rwa [Ce.of_l] at this
structure LOk0 (L:Lk) (P:Program):Prop where
 info:∀t i,L.info t=some i->P.info? t=some i
 plainEq:∀t,L.plainEq t=true->P.stoodInHeld t=false/\P.eqGuardType P.depth t=false
 zt:∀t z,L.zt t=some z-> ∃i v,L.info t=some i/\i.zero=some v/\ ∀E,conc E z=v
section
variable {L:Lk}{P:Program}{w:World}{E:Env}
theorem zdf (hL:LOk0 L P){t:TypeId}{d:TypeDesc}(h:L.under t=some d):P.underlying t=some d:=by
 unfold Lk.under at h;unfold Program.underlying;cases hi:L.info t with
 |none=>rw [hi] at h;cases h
 |some i =>
  rw [hi] at h;rw [hL.info t i hi];obtain ⟨desc,a1,a2,a3,a4,a5,a6,a7,a8,a9⟩:=i;cases desc with
  |named n u =>
   simp only at h;cases hu:L.info u with
   |none=>rw [hu] at h;cases h
   |some j=>rw [hu] at h;simp only [hL.info u j hu,qd4];exact h
  |_=>exact h
theorem zca (hL:LOk0 L P){t:TypeId}{d:TypeDesc}(h:L.under t=some d) (w:World):(underlying t).run P w= .ok d w:=run_underlying (zdf hL h) w
theorem zef (hL:LOk0 L P){t:TypeId}{i:TypeInfo}(h:L.info t=some i) (w:World):(typeInfo t).run P w= .ok i w:=by
 unfold typeInfo;simp only [qk,program,Sem.run,qd,hL.info t i h,qt]
theorem zlb (hL:LOk0 L P){t:TypeId}{s:Nat}(h:L.size t=some s) (w:World):(sizeOf t).run P w= .ok s w:=by
 unfold Lk.size at h;cases hi:L.info t with
 |none=>rw [hi] at h;cases h
 |some i=>rw [hi] at h;cases h;unfold sizeOf;simp only [qk,zef hL hi,qd,qt]
theorem zec1 (hL:LOk0 L P){t:TypeId}{s:Nat}(h:L.bytes t=some s) (w:World):∃i,(typeInfo t).run P w= .ok i w/\i.bytes=s:=by
 unfold Lk.bytes at h;cases hi:L.info t with
 |none=>rw [hi] at h;cases h
 |some i=>rw [hi] at h;cases h;exact ⟨i,zef hL hi w,rfl⟩
theorem zkh (hL:LOk0 L P){t:TypeId}{b:Bool}(h:L.isAgg t=some b) (w:World):(isAgg t).run P w= .ok b w:=by
 unfold Lk.isAgg at h;cases hu:L.under t with
 |none=>rw [hu] at h;cases h
 |some d =>
  rw [hu] at h;unfold isAgg;simp only [qk,zca hL hu,qd];cases d<;>simp only [qz1] at h<;>subst h<;>rfl
theorem ztm {v:Value}{a:AV}(h:zyp v=some a):conc E a=v/\a.oneCell=true/\v.cells= #[v]:=by
 unfold zyp at h;split at h<;>first
  |(cases h;exact ⟨rfl,rfl,rfl⟩)
  |cases h
theorem zeg {v:Value}{a:AV}(h:ofValue v=some a):conc E a=v:=by
 unfold ofValue at h;split at h
 ·next cs =>
  unfold obind at h;split at h
  ·next l hl =>
   cases h
   have:=zek zyp (conc E) id (fun a b hab=>(ztm hab).1.symm) hl
   show Value.agg (concL E l).toArray=_
   rw [zkd,← this];simp
  ·cases h
 ·next cs =>
  unfold obind at h;split at h
  ·next l hl =>
   cases h
   have:=zek zyp (conc E) id (fun a b hab=>(ztm hab).1.symm) hl
   show Value.tuple (concL E l).toArray=_
   rw [zkd,← this];simp
  ·cases h
 ·exact (ztm h).1
theorem zbd (hL:LOk0 L P){t:TypeId}{z:AV}(h:L.zero t=some z) (w:World):(zeroValue t).run P w= .ok (conc E z) w:=by
 unfold Lk.zero at h;cases hzt:L.zt t with
 |some z' =>
  rw [hzt] at h;cases h;obtain ⟨i,v,hi,hv,hc⟩:=hL.zt t _ hzt;unfold zeroValue;simp only [qk,zef hL hi,qd,hv,qt,hc]
 |none =>
 rw [hzt] at h;have h:L.zero0 t=some z:=h;unfold Lk.zero0 at h;cases hi:L.info t with
 |none=>rw [hi] at h;cases h
 |some i =>
  rw [hi] at h;simp only at h;cases hz:i.zero with
  |none=>rw [hz] at h;cases h
  |some v =>
   rw [hz] at h;unfold zeroValue;simp only [qk,zef hL hi,qd,hz,qt,zeg (E:=E) h]
theorem zfc1 {v:Value}{a:AV}(h:ofValue v=some a) (E E':Env):conc E a=conc E' a:=(zeg h).trans (zeg h).symm
theorem zzr {a:AV}{E E':Env}(h:conc E a=conc E' a):concL E a.cells=concL E' a.cells:=by
 have h1:=zab E a;have h2:=zab E' a;rw [h,h2] at h1
 simpa using h1.symm
theorem zero_E (hL:LOk0 L P){t:TypeId}{z:AV}(h:L.zero t=some z) (E E':Env):conc E z=conc E' z:=by
 unfold Lk.zero at h;cases hzt:L.zt t with
 |some z' =>
  rw [hzt] at h;cases h;obtain ⟨i,v,hi,hv,hc⟩:=hL.zt t _ hzt;rw [hc,hc]
 |none =>
 rw [hzt] at h;have h:L.zero0 t=some z:=h;unfold Lk.zero0 at h;cases hi:L.info t with
 |none=>rw [hi] at h;cases h
 |some i =>
  rw [hi] at h;simp only at h;cases hz:i.zero with
  |none=>rw [hz] at h;cases h
  |some v=>rw [hz] at h;exact zfc1 h E E'
theorem zlc {T:Tr AV}{a:Act}(hT:TRel E T a.tmps){x:Operand}{v:AV}(h:opnd T x=some v):a.eval x=conc E v:=by
 cases x with
 |tmp t =>
  have:=hT t;unfold getT at this;simp only [opnd] at h;cases hg:T.get t with
  |none=>rw [hg] at h this;cases h;exact this
  |some u=>rw [hg] at h this;cases h;exact this
 |const u=>exact (zeg h).symm
 |global g=>cases h;rfl
 |func f=>cases h;rfl
theorem zeq {T:Tr AV}{a:Act}(hT:TRel E T a.tmps){l:List Operand}{vs:List AV}(h:opnds T l=some vs):l.map a.eval=concL E vs:=by
 rw [zkd];exact zek (opnd T) (conc E) a.eval (fun x v hx=>zlc hT hx) h
theorem zum (hL:LOk0 L P){B:Nat}{H:AH}(hR:HRel B E H w){t:TypeId}{a r:AV}(h:zvb L t a H=some r):(Instr.loadAt t (conc E a)).run P w= .ok (conc E r) w:=by
 unfold zvb at h;split at h
 ·next i o =>
  simp only [Instr.loadAt,conc,Instr.sureAddr,qk,qt,qd,loadVar];split at h
  ·next hag =>
   split at h
   ·next s hs =>
    split at h
    ·next l hl =>
     cases h
     simp only [zkh hL hag,qd,qc5,qk,zlb hL hs,hR.read (P:=P) (zmj hl),qt];rw [zdq]
    ·cases h
   ·cases h
  ·next hag =>
   simp only [zkh hL hag,qd,qj1,qq3];exact hR.read1 (P:=P) h
  ·cases h
 ·cases h
theorem zex (hL:LOk0 L P){B:Nat}{H:AH}(hR:HRel B E H w){t:TypeId}{a r:AV}(h:zue L t a H=some r):(Instr.loadAt t (conc E a)).run P w= .ok (conc E r) w:=by
 unfold zue at h;split at h
 ·next k g o =>
  split at h
  ·next hag =>
   obtain ⟨rfl,rfl,hc⟩:=hR.ldG h;show (Instr.loadAt t (.pointer (some ⟨g,0,none⟩))).run P w=_
   simp only [Instr.loadAt,Instr.sureAddr,qk,qt,qd,loadVar];simp only [zkh hL hag,qd,qj1,qq3];simp only [load,Sem.run];rw [hc]
  ·cases h
 ·exact zum hL hR h
end
section
variable {L:Lk}{P:Program}{w:World}{E:Env}
theorem zhk {v:AV}{m:Nat}(h:natOf v=some m):∃k,v= .int k (m:Int):=by
 unfold natOf at h;split at h
 ·next k n =>
  split at h
  ·next j=>cases h;exact ⟨k,rfl⟩
  ·cases h
 ·cases h
theorem zno (l:List AV) (n:Nat):concL E (l.take n)=(concL E l).take n:=by simp [zkd]
theorem zfx (l:List AV) (n:Nat):concL E (l.drop n)=(concL E l).drop n:=by simp [zkd]
theorem zle (hL:LOk0 L P){t:TypeId}{cs:Ce}{off:Nat}{r:AV}(h:ztc L t cs off=some r) :
  (part t (concL E cs.l).toArray off).run P w= .ok (conc E r) w:=by
 unfold ztc at h;unfold part;simp only [qk];split at h
 ·next hag =>
  split at h
  ·next s hs =>
   split at h
   ·next l hl =>
    cases h
    obtain ⟨h1,h2⟩:=(zae cs.l off s l.l).1 (Ce.sub_l hl);simp only [zkh hL hag,qd,qc5,qk,zlb hL hs,qt];congr 1;rw [zdq];congr 1;rw [h2,zno,zfx];simp [List.extract_eq_take_drop]
   ·cases h
  ·cases h
 ·next hag =>
  rw [Ce.get_l] at h;simp only [zkh hL hag,qd,qj1,qq3];have:(concL E cs.l).toArray[off]? =some (conc E r):=by simp [zma?,h]
  rw [this];rfl
 ·cases h
theorem zgx (hL:LOk0 L P){t:TypeId}{x r:AV}{f:Nat}(h:zcj L t x f=some r):(Instr.field t (conc E x) f).run P w= .ok (conc E r) w:=by
 unfold zcj at h;split at h
 ·next cs hcs =>
  rw [znd hcs];split at h
  ·next fields hu =>
   split at h
   ·next fd hf =>
    rw [zcg] at hf;have hf':fields[f]? =some fd:=by simpa using hf
    unfold Instr.field;simp only [qk,zca hL hu,qd,hf'];simp only [asAgg,qk,qt,qd];exact zle hL h
   ·cases h
  ·cases h
 ·cases h
theorem zvm (hL:LOk0 L P){t:TypeId}{x r:AV}{f:Nat}(h:zob L t x f=some r):(Instr.fieldAt t (conc E x) f).run P w= .ok (conc E r) w:=by
 unfold zob at h;split at h
 ·next i o =>
  split at h
  ·next fields hu =>
   split at h
   ·next fd hf =>
    rw [zcg] at hf;have hf':fields[f]? =some fd:=by simpa using hf
    split at h
    ·next z hz =>
     split at h
     ·cases h
     ·next hz0 =>
      cases h
      have hz':¬z=0:=by intro he;subst he;cases hz0
      unfold Instr.fieldAt;simp only [qk,zca hL hu,qd,hf',conc,Instr.sureAddr,qt,fieldPlace,zlb hL hz,qo4,qg hz'];rw [show (⟨(E i).blk,(E i).off+o,none⟩:Addr)=cA E i o from rfl,zhl]
    ·cases h
   ·cases h
  ·cases h
 ·cases h
theorem zwm (hL:LOk0 L P){t:TypeId}{x ix r:AV}(h:zib L t x ix=some r):(Instr.indexAt t (conc E x) (conc E ix)).run P w= .ok (conc E r) w:=by
 unfold zib at h;split at h
 ·cases h
 ·next j hj =>
  obtain ⟨k,rfl⟩:=zhk hj;split at h
  ·next e i o n c op hu =>
   split at h
   ·next z hz =>
    split at h
    ·next hlt =>
     cases h
     have hlt':j<n:=qf1 hlt;unfold Instr.indexAt;simp only [conc,asIntOf,qk,qt,qd,zca hL hu,zlb hL hz,qo4];rw [qj ⟨oM,oM⟩]
     simp only [qg2];rw [show (⟨(E i).blk,(E i).off+o,none⟩:Addr)=cA E i o from rfl,zhl]
    ·cases h
   ·cases h
  ·next n e i o hu =>
   split at h
   ·next z hz =>
    split at h
    ·next hlt =>
     cases h
     have hlt':j<n:=qf1 hlt;unfold Instr.indexAt;simp only [conc,asIntOf,qk,qt,qd,zca hL hu,zlb hL hz,qo4,Instr.sureAddr];rw [qj ⟨oM,oM⟩]
     simp only [qg2];rw [show (⟨(E i).blk,(E i).off+o,none⟩:Addr)=cA E i o from rfl,zhl]
    ·cases h
   ·cases h
  ·cases h
theorem zhx (hL:LOk0 L P){t:TypeId}{x ix r:AV}(h:zvd L t x ix=some r):(Instr.index t (conc E x) (conc E ix)).run P w= .ok (conc E r) w:=by
 unfold zvd at h;split at h
 ·cases h
 ·next j hj =>
  obtain ⟨k,rfl⟩:=zhk hj;split at h
  ·next n e hu =>
   split at h
   ·next cs hcs =>
    split at h
    ·next z hz =>
     split at h
     ·next hlt =>
      have hlt':j<n:=qf1 hlt;rw [znd hcs];unfold Instr.index;simp only [conc,asIntOf,qk,qt,qd,zca hL hu,zlb hL hz,qo4];rw [qj ⟨oM,oM⟩]
      simp only [qg2];exact zle hL h
     ·cases h
    ·cases h
   ·cases h
  ·next hu =>
   split at h
   ·next s =>
    split at h
    ·next b hb =>
     cases h
     unfold Instr.index;simp only [conc,asIntOf,qk,qt,qd,zca hL hu,qg2];rw [qj oM,hb]
     rfl
    ·cases h
   ·cases h
  ·cases h
theorem zff {k:IntKind}{m y:Nat}(h:m<=y) (c:BoundsCode):(Instr.sliceBound (.int k (m:Int)) y c).run P w= .ok m w:=by
 unfold Instr.sliceBound;simp only [asIntOf,qk,qt,qd,qo4];rw [qj ⟨oM,oM⟩]
 simp
theorem bnd {v:Option AV}{d m:Nat}(h:bndOf v d=some m):(v=none/\m=d)\/ ∃k,v=some (.int k (m:Int)):=by
 cases v with
 |none=>cases h;exact .inl ⟨rfl,rfl⟩
 |some v=>obtain ⟨k,rfl⟩:=zhk h;exact .inr ⟨k,rfl⟩
theorem zcc {isSl:Bool}{n c:Nat}{lo hi mx:Option AV}{l h m:Nat}(hlo:bndOf lo 0=some l)
  (hhi:bndOf hi n=some h) (hmx:bndOf mx c=some m)
  (hh:maxOk mx hi=true) (h1:l<=h) (h2:h<=m) (h3:m<=c) :
  (Instr.sliceBounds isSl n c (lo.map (conc E)) (hi.map (conc E)) (mx.map (conc E))).run P w= .ok (l,h,m) w:=by
 unfold Instr.sliceBounds;rcases bnd hlo with ⟨rfl,rfl⟩|⟨k1,rfl⟩<;>rcases bnd hhi with ⟨rfl,rfl⟩|⟨k2,rfl⟩<;>rcases bnd hmx with ⟨rfl,rfl⟩|⟨k3,rfl⟩<;>first
  |(cases hh;done)
  |(simp only [qp4,qd4,conc,qk,qt,qd,zff h1,zff h2,zff h3])
end
section
variable {L:Lk}{P:Program}{w:World}{E:Env}
theorem ble_t {a b:Nat}(h:Nat.ble a b=true):a<=b:=qf1 h
theorem zik {a b c d:Nat}(h:(Nat.ble a b && Nat.ble c d)=true):a<=b/\c<=d:=by
 rw [qm] at h;exact ⟨ble_t h.1,ble_t h.2⟩
theorem zix {a b c d e f:Nat}(h:(Nat.ble a b && Nat.ble c d && Nat.ble e f)=true):a<=b/\c<=d/\e<=f:=by
 rw [qm] at h;exact ⟨(zik h.1).1,(zik h.1).2,ble_t h.2⟩
theorem beq_f {a b:Nat}(h:a≠b):Nat.beq a b=false:=by
 cases hb:Nat.beq a b with
 |false=>rfl
 |true=>exact absurd (qi hb) h
theorem off_eq {m l z o:Nat}{i:Nat}:(if m=l then (⟨(E i).blk,(E i).off+o,none⟩:Addr) else (⟨(E i).blk,(E i).off+o,none⟩:Addr).add (l*z)) =
  ⟨(E i).blk,(E i).off+offOf m l o z,none⟩:=by
 unfold offOf;by_cases h:m=l
 ·subst h;rw [qj rfl,qr2]
 ·rw [qg h,beq_f h]
  exact zhl E i o (l*z)
theorem zjx {m l z o:Nat}{i:Nat}:(if m=l then some (⟨(E i).blk,(E i).off+o,none⟩:Addr) else (some (⟨(E i).blk,(E i).off+o,none⟩:Addr)).map (·.add (l*z))) =
  some ⟨(E i).blk,(E i).off+offOf m l o z,none⟩:=by
 rw [← off_eq (E:=E)];split<;>rfl
theorem zkx (hL:LOk0 L P){t:TypeId}{x r:AV}{lo hi mx:Option AV}(h:zfb L t x lo hi mx=some r) :
  (Instr.sliceAt t (conc E x) (lo.map (conc E)) (hi.map (conc E)) (mx.map (conc E))).run P w= .ok (conc E r) w:=by
 unfold zfb at h;split at h
 ·cases h
 ·next hmh =>
  split at h
  ·cases h
  ·next l hl =>
   split at h
   ·next s hu =>
    split at h
    ·cases h
    ·split at h
     ·cases h
     ·next hx hhi =>
      split at h
      ·next hb =>
       cases h
       obtain ⟨h1,h2⟩:=zik hb;have hsb:=zcc (P:=P) (w:=w) (E:=E) (isSl:=false) (n:=s.size) (c:=s.size) (mx:=none) (m:=s.size) hl hhi rfl hmh h1 h2 (qn _);unfold Instr.sliceAt Instr.slice;simp only [qp4] at hsb;simp only [conc,qk,zca hL hu,qd,qp4,qc4,qj1,qq3,qt,qo4,hsb]
      ·cases h
   ·next e hu =>
    split at h
    ·next h0 m z hhi hmx hz =>
     split at h
     ·next hb =>
      cases h
      rw [qm,qm] at hb;obtain ⟨⟨b1,b2⟩,b3⟩:=hb;have e1:l=0:=qi b1;have e2:h0=0:=qi b2;have e3:m=0:=qi b3;subst e1 e2 e3;have hsb:=zcc (P:=P) (w:=w) (E:=E) (isSl:=true) (n:=0) (c:=0) hl hhi hmx hmh (qn _) (qn _) (qn _);unfold Instr.sliceAt Instr.slice;simp only [conc,qk,zca hL hu,qd,hsb,zlb hL hz,qt];rfl
     ·cases h
    ·cases h
   ·next e i o n c op hu =>
    split at h
    ·cases h
    ·next z hz =>
     split at h
     ·cases h
     ·next hx hhi =>
      split at h
      ·next v =>
       split at h
       ·cases h
       ·next m hm =>
        split at h
        ·next hb =>
         cases h
         obtain ⟨h1,h2,h3⟩:=zix hb;have hsb:=zcc (P:=P) (w:=w) (E:=E) (isSl:=true) (n:=n) (c:=c+(if op=true then (E i).extra else 0)) (mx:=some v) (m:=m) hl hhi hm hmh h1 h2 oM
         unfold Instr.sliceAt Instr.slice;simp only [conc,qk,zca hL hu,qd,hsb,zlb hL hz,qt,zjx,qj1,qq3,qk4]
        ·cases h
      ·split at h
       ·next hb =>
        obtain ⟨h1,h2⟩:=zik hb;have hsb:=zcc (P:=P) (w:=w) (E:=E) (isSl:=true) (n:=n) (c:=c+(if op=true then (E i).extra else 0)) (mx:=none) (m:=c+(if op=true then (E i).extra else 0)) hl hhi rfl hmh h1 oM (qn _)
        unfold Instr.sliceAt Instr.slice;simp only [conc,qk,zca hL hu,qd,hsb,zlb hL hz,qt];split at h
        ·cases h
         simp only [qj1,qq3,qk4,zjx,conc]
        ·split at h
         ·next hcl =>
          split at h
          ·next ho =>
           cases h
           have hcl:=qi hcl;have ho:=qi ho;subst hcl ho;simp only [qc5,qd4,conc];have e1:hx - c=0:=oM
           have e2:c+(E i).extra - c=(E i).extra:=oM
           rw [e1,e2];cases (E i).extra with
           |zero=>rw [qj (qk4 c)]
           |succ k =>
            rw [qg oM,show (⟨(E i).blk,(E i).off+0,none⟩:Addr)=cA E i 0 from rfl,zhl,qu1]
          ·cases h
         ·next hne =>
          cases h
          have hne':c≠l:=qw4 hne;simp only [qc5,qd4,conc];rw [qg oM]
          rw [show (⟨(E i).blk,(E i).off+o,none⟩:Addr)=cA E i o from rfl,zhl]
          congr 2
          omega
       ·cases h
   ·next n e i o hu =>
    split at h
    ·cases h
    ·next z hz =>
     split at h
     ·next h0 m hhi hmx =>
      split at h
      ·next hb =>
       cases h
       obtain ⟨h1,h2,h3⟩:=zix hb;have hsb:=zcc (P:=P) (w:=w) (E:=E) (isSl:=false) (n:=n) (c:=n) hl hhi hmx hmh h1 h2 h3;unfold Instr.sliceAt;simp only [conc,qk,zca hL hu,qd,hsb,zlb hL hz,qt,Instr.sureAddr,off_eq,qj1,qq3,qk4]
      ·cases h
     ·cases h
   ·cases h
end
section
variable {L:Lk}{P:Program}{w:World}{E:Env}
theorem zgc1 (off:Nat) (l:List Value):∀(k:Nat) (arr:Array Value),off+k+l.length<=arr.size ->
  ((l.zipIdx k).foldl (fun cs p=>cs.setIfInBounds (off+p.2) p.1) arr).size=arr.size /\
  ∀j:Nat,((l.zipIdx k).foldl (fun cs p=>cs.setIfInBounds (off+p.2) p.1) arr)[j]? =if off+k<=j/\j<off+k+l.length then l[j - (off+k)]? else arr[j]? :=by
 induction l with
 |nil=>intro k arr _;exact ⟨rfl,fun j=>by rw [qg (by simp)];rfl⟩
 |cons a l ih =>
  intro k arr h;simp only [qi2] at h;rw [List.zipIdx_cons,qs6];obtain ⟨h1,h2⟩:=ih (k+1) (arr.setIfInBounds (off+k) a) (by simp;omega)
  refine ⟨by rw [h1];simp,fun j=> ?_⟩
  rw [h2];simp only [qi2];by_cases h0:j=off+k
  ·subst h0
   rw [qg oM,qj oM,qa3,qj rfl,qj oM]
   simp
  ·by_cases hin:off+(k+1)<=j/\j<off+(k+1)+l.length
   ·rw [qj hin,qj oM]
    obtain ⟨d,hd⟩:∃d,j - (off+k)=d+1:=⟨j - (off+k) - 1,oM⟩
    rw [hd,show j - (off+(k+1))=d from oM];simp
   ·rw [qg hin,qg oM,qa3,qg oM]
theorem zhc1 {xs cs cs':List AV}{off:Nat}(h:zgd xs cs off=some cs') :
  ((concL E xs).toArray.zipIdx.foldl (fun cs p=>cs.setIfInBounds (off+p.2) p.1) (concL E cs).toArray)=(concL E cs').toArray:=by
 obtain ⟨hle,he⟩:=(zyb xs cs off cs').1 h;have key:=zgc1 off (concL E xs) 0 (concL E cs).toArray (by simp [zpa];omega)
 have hz:(concL E xs).toArray.zipIdx.foldl (fun cs p=>cs.setIfInBounds (off+p.2) p.1) (concL E cs).toArray=((concL E xs).zipIdx 0).foldl (fun cs p=>cs.setIfInBounds (off+p.2) p.1) (concL E cs).toArray:=by
  rw [← Array.foldl_toList];simp
 rw [hz];refine qw6 fun j=> ?_
 rw [key.2];simp only [zpa,qk4];rw [he];simp only [qo1,zma?];by_cases hin:off<=j/\j<off+xs.length
 ·rw [qj hin,qg1,qw1 (by simp;omega),qr1 (by simp;omega)]
  simp only [qd1,show min off cs.length=off from oM]
 ·rw [qg hin]
  by_cases hj:j<off
  ·rw [qg1,qr1 (by simp;omega),qa2 hj]
  ·rw [qw1 (by simp;omega),qj2]
   simp only [qy,qd1,show min off cs.length=off from oM]
   rw [show off+xs.length+(j - (off+xs.length))=j from oM]
theorem zoo {pl pl':Nat->Option (Nat×Nat)}(parts:List (Nat×AV)):∀{cs cs':List AV},(∀i x,pl i=some x->pl' i=some x)->fillL pl parts cs=some cs' ->
  Instr.fill pl' (concL E cs).toArray (parts.map fun p=>(p.1,conc E p.2))=some (concL E cs').toArray:=by
 induction parts with
 |nil=>intro cs cs' _ h;cases h;rfl
 |cons p parts ih =>
  intro cs cs' hpl h;unfold fillL at h;rw [zta] at h;split at h
  ·cases h
  ·next os hos =>
   split at h
   ·cases h
   ·next hb =>
    split at h
    ·cases h
    ·next cs1 hov =>
     have hlen:=qi hb;rw [zse] at hlen;have hle:=((zyb _ _ _ _).1 hov).1;show Instr.fill pl' (concL E cs).toArray ((p.1,conc E p.2)::parts.map fun p=>(p.1,conc E p.2))=_
     unfold Instr.fill;rw [hpl _ _ hos];obtain ⟨o1,o2⟩:=os;simp only at hlen hov hle ⊢
     rw [zab];rw [qg (by simp [zpa,hlen];omega)]
     rw [zhc1 hov];exact ih hpl h
theorem zfq {α β:Type}(f:α->Sem β) (l:List α):∀(r:List β),r.length=l.length->(∀(i:Nat) a,l[i]? =some a-> ∃b,r[i]? =some b/\(f a).run P w= .ok b w)->(l.mapM f).run P w= .ok r w:=by
 induction l with
 |nil=>intro r hr _;have:r= []:=ql1 (by simpa using hr);subst this;simp
 |cons a l ih =>
  intro r hr h;cases r with
  |nil=>simp at hr
  |cons b r =>
   obtain ⟨b',hb',hf⟩:=h 0 a (by simp)
   simp only [qq1,qz1] at hb';subst hb';rw [List.mapM_cons];simp only [qk,hf,qd];rw [ih r (by simpa using hr) (fun i x hx=>by simpa using h (i+1) x (by simpa using hx))]
   simp
theorem zik1 {α β:Type}(f:α->Sem β) (xs:Array α) (r:List β) (hr:r.length=xs.toList.length) (h:∀(i:Nat) a,xs.toList[i]? =some a-> ∃b,r[i]? =some b/\(f a).run P w= .ok b w) :
  (xs.mapM f).run P w= .ok r.toArray w:=by
 rw [Array.mapM_eq_mapM_toList];simp only [Sem.run_map,zfq f xs.toList r hr h,qd]
theorem zjk1 {s:Nat}(parts:List (Nat×AV)):∀{c c':Ce},fillC s parts c=some c'->fillL (fun i=>some (i*s,s)) parts c.l=some c'.l:=by
 induction parts with
 |nil=>intro c c' h;cases h;rfl
 |cons p parts ih =>
  intro c c' h;unfold fillC at h;rw [zta] at h;unfold fillL;rw [zta];split at h
  ·cases h
  ·next hb =>
   split at h
   ·cases h
   ·next c1 hov =>
    have hov:=Ce.over_l hov;rw [toC_l] at hov;have hl:Nat.beq (len p.2.cells) s=true:=by rw [← hb,zse,← toC_l,Ce.len_l]
    simp only [hl,hov];exact ih h
theorem zbv {s:Nat}{parts:List (Nat×AV)}{z r:AV}(h:zzp s parts z=some r):∃cs,fillL (fun i=>some (i*s,s)) parts z.cells=some cs/\conc E r= .agg (concL E cs).toArray:=by
 unfold zzp at h;split at h
 ·split at h
  ·next cs hf=>cases h;exact ⟨cs,hf,rfl⟩
  ·cases h
 ·next c hc =>
  split at h
  ·next c' hf =>
   cases h
   have hz:z.cells=c.l:=by cases z<;>first|(cases hc;rfl)|cases hc
   exact ⟨c'.l,by rw [hz];exact zjk1 parts hf,zdq E c'⟩
  ·cases h
theorem zlx (hL:LOk0 L P){t:TypeId}{parts:List (Nat×AV)}{r:AV}(h:zua L t parts=some r) :
  (Instr.build t (parts.map fun p=>(p.1,conc E p.2)).toArray).run P w= .ok (conc E r) w:=by
 unfold zua at h;split at h
 ·cases h
 ·next z hz =>
  split at h
  ·next fields hu =>
   split at h
   ·next pls hp =>
    split at h
    ·next cs hf =>
     cases h
     unfold Instr.build;simp only [qk,zbd (E:=E) hL hz,qd,zca hL hu,zab];obtain ⟨p1,p2⟩:=(zqm _ _ _).1 hp;rw [zik1 (P:=P) (w:=w) (fun f:Field=>do pure (f.offset,← sizeOf f.type)) fields pls p1 (fun i f hf=>by
      obtain ⟨b,hb,hr⟩:=p2 i f hf;split at hb
      ·next s hs=>cases hb;exact ⟨_,hr,by simp only [qk,zlb hL hs,qd,qt]⟩
      ·cases hb)]
     simp only [qd];rw [zoo (E:=E) parts (pl':=fun i=>pls.toArray[i]?) (fun i x hx=>by rw [zcg] at hx;simpa using hx) hf]
     rfl
    ·cases h
   ·cases h
  ·next n e hu =>
   split at h
   ·next s hs =>
    obtain ⟨cs,hf,hr⟩:=zbv h;unfold Instr.build;simp only [qk,zbd (E:=E) hL hz,qd,zca hL hu,zab,zlb hL hs];rw [zoo (E:=E) parts (fun i x hx=>hx) hf,hr]
    rfl
   ·cases h
  ·cases h
theorem zde (e:TypeId) (cs:Array Value):(newRow e cs).run P w= .ok ⟨w.heap.size,0,none⟩ (wNew w (.cells cs e)):=by
 unfold newRow newObj;simp only [qk,Sem.run,qd,qt];rfl
theorem zki {B:Nat}{H:AH}(hw:H.Wf) (hS:St B E H w){vs:Ce}(e:TypeId) (z:Nat) (op:Bool) (ex:Nat) (rest:List Value)
  (hx:∀E',Agree H.next E E'->concL E' vs.l=concL E vs.l) (hr:rest.length=if op then ex*z else 0) (hrf:op=true-> ∀u∈rest,FlatV u) :
  St B (E.add H.next ⟨w.heap.size,0,ex⟩) (H.new (.cells vs e z op false)) (wNew w (.cells ((concL E vs.l) ++ rest).toArray e)) /\
  Post E H w (E.add H.next ⟨w.heap.size,0,ex⟩) (H.new (.cells vs e z op false)) (wNew w (.cells ((concL E vs.l) ++ rest).toArray e))/\(H.new (.cells vs e z op false)).Wf :=
 zav hw hS _ _ ex fun E' hE hn=>by
  refine ⟨((concL E vs.l) ++ rest).toArray,e,(0,0),by rw [hn];exact zog,fun j v hv=> ?_,fun _=>⟨⟨qn _,fun j hj=>by simp⟩,?_,fun ho j u hj hu=> ?_,fun _ h=>absurd h.2 (qb4 _),rfl⟩⟩
  ·rw [hn]
   have hlt:j<vs.l.length:=by
    rcases qf2 j vs.l.length with h|h
    ·exact h
    ·rw [qx1 h] at hv;cases hv
   simp only [qu1,qo1];rw [qr1 (by rw [zpa];exact hlt),← hx E' hE,zma?,hv]
   rfl
  ·rw [hn]
   simp [zpa,hr]
  ·rw [hn] at hj
   simp only [qu1] at hj;rw [qo1,qw1 (by rw [zpa];exact hj)] at hu
   exact hrf ho u (qj6 hu)
theorem zxm {zs:List AV}{s:Nat}(hz:zs.length=s) (n:Nat) :
  (Array.range (n*s)).map ((if n*s=0 then (#[]:Array Value) else (concL E zs).toArray)[·% (if n*s=0 then (#[]:Array Value) else (concL E zs).toArray).size]!)=(concL E (rep zs n)).toArray:=by
 refine qw6 fun j=> ?_
 by_cases hj:j<n*s
 ·rw [qg oM]
  have hs:0<s:=by
   rcases qp3 s with h|h
   ·subst h;simp at hj
   ·exact h
  have hlt:j%s<zs.length:=by rw [hz];exact qb6 _ hs
  simp only [Array.getElem?_map,Array.getElem?_range,qj hj,qd4,qo1,zma?];rw [zhi zs n j (by rw [hz];exact hj),hz]
  simp only [List.size_toArray,zpa,hz];rw [qr hlt];simp [zkd,hlt,getElem!_pos]
 ·rw [qy2 (by simp;omega),qy2 (by simp [zpa,zuc,hz];omega)]
end
def Done (B:Nat) (E:Env) (H:AH) (w:World) (v:AV) (H1:AH) (u:Value) (w1:World):Prop :=
 ∃E1,StV E1 H1.next v u/\St B E1 H1 w1/\Post E H w E1 H1 w1/\H1.Wf
section
variable {L:Lk}{P:Program}{w:World}{E:Env}{B:Nat}{H:AH}
theorem Done.same (hw:H.Wf) (hS:St B E H w){v:AV}{u:Value}(h:StV E H.next v u):Done B E H w v H u w:=⟨E,h,hS,Post.refl _ _ _,hw⟩
theorem zjk (hL:LOk0 L P){t:TypeId}{z:AV}(h:L.zero t=some z) (E E':Env):concL E z.cells=concL E' z.cells:=zzr (zero_E hL h E E')
theorem rep_E {zs:List AV}(h:∀E E',concL E zs=concL E' zs) (n:Nat) (E E':Env):concL E (rep zs n)=concL E' (rep zs n):=by
 induction n with
 |zero=>rfl
 |succ n ih=>rw [zgi,zkc,zkc,h E E',ih]
theorem zlh (hw:H.Wf) (hS:St B E H w){vs:Ce}{xs:List AV}(hvs:vs.l=xs) (e:TypeId) (z:Nat) (hx:∀E',Agree H.next E E'->concL E' xs=concL E xs) (v:AV) (u:Value)
  (hv:∀E',(E' H.next)=⟨w.heap.size,0,0⟩->u=conc E' v) :
  Done B E H w v (H.new (.cells vs e z false false)) u (wNew w (.cells (concL E xs).toArray e)):=by
 subst hvs;have h:=zki hw hS e z false 0 [] hx rfl (fun h=>by cases h)
 rw [qy1] at h;exact ⟨_,fun E' hE=>hv E' ((hE H.next (qc1 _)).trans (Env.add_self _ _ _)),h.1,h.2.1,h.2.2⟩
theorem zmx (hL:LOk0 L P) (hw:H.Wf) (hS:St B E H w){e:TypeId}{z:AV}(hz:L.zero e=some z) (s:Nat) :
  ∃u w1,(Instr.alloc e true (.tuple #[])).run P w= .ok u w1/\Done B E H w (.ptr H.next 0) (H.new (.cells z.toC e s false false)) u w1:=by
 refine ⟨_,_,?_,zlh hw hS (toC_l z) e s (fun E' _=>zjk hL hz E' E) (.ptr H.next 0) (.pointer (some ⟨w.heap.size,0,none⟩)) (fun E' h=>by simp [conc,h])⟩
 unfold Instr.alloc;simp only [qk,zbd (E:=E) hL hz,qd,newVar,zab,zde,qt]
theorem zkk1 (hw:H.Wf) (hS:St B E H w) (e:TypeId){v:AV}{u:Value}(hv:StV E H.next v u) (s:Nat) :
  ∃u' w1,(Instr.box e u).run P w= .ok u' w1/\Done B E H w (.ptr H.next 0) (H.new (.cells v.toC e s false false)) u' w1:=by
 refine ⟨_,_,?_,zlh hw hS (toC_l v) e s (fun E' hE=>zzr ((hv E' hE).symm.trans hv.self)) (.ptr H.next 0) (.pointer (some ⟨w.heap.size,0,none⟩)) (fun E' h=>by simp [conc,h])⟩
 unfold Instr.box;rw [hv.self];simp only [qk,newVar,zab,zde,qd,qt]
theorem zil (hL:LOk0 L P) (hw:H.Wf) (hS:St B E H w){t:TypeId}{n:Nat}{parts:List (Nat×AV)}{v:AV}{H1:AH}
  (hp:∀E',Agree H.next E E'->(parts.map fun p=>(p.1,conc E' p.2))=(parts.map fun p=>(p.1,conc E p.2))) (h:zsb L t n parts H=some (v,H1)) :
  ∃u w1,(Instr.buildSlice t n (parts.map fun p=>(p.1,conc E p.2)).toArray).run P w= .ok u w1/\Done B E H w v H1 u w1:=by
 unfold zsb at h;split at h
 ·next e hu =>
  split at h
  ·next s z hs hz =>
   split at h
   ·cases h
   ·next hb =>
    rw [qm] at hb;have hb1:=ble_t hb.1;have hb2:=qi hb.2;rw [zse] at hb2;split at h
    ·next cs hf =>
     cases h
     have hcs:∀E',Agree H.next E E'->concL E' cs=concL E cs:=fun E' hE=>by
      have f1:=zoo (E:=E) parts (pl':=fun i=>some (i*s,s)) (fun i x hx=>hx) hf
      have f2:=zoo (E:=E') parts (pl':=fun i=>some (i*s,s)) (fun i x hx=>hx) hf
      rw [hp E' hE,rep_E (fun A B=>zjk hL hz A B) n E' E,f1] at f2
      simpa using f2.symm
     refine ⟨_,_,?_,zlh hw hS (Ce.of_l cs) e s hcs (.sl H.next 0 n n false) (.slice (some ⟨w.heap.size,0,none⟩) n n) (fun E' h=>by simp [conc,h])⟩
     unfold Instr.buildSlice;simp only [qk,zca hL hu,qd,zlb hL hs,qo4];rw [qg (by show ¬n*s>16777216;omega)]
     simp only [qt,qd];have rr:=zxm (E:=E) hb2 n;have ff:=zoo (E:=E) parts (pl':=fun i=>some (i*s,s)) (fun i x hx=>hx) hf
     by_cases hns:n*s=0
     ·simp only [qj hns] at rr ⊢
      rw [rr,ff];simp only [qk,zde,qd,qt]
     ·simp only [qg hns] at rr ⊢
      simp only [zbd (E:=E) hL hz,qd,zab];rw [rr,ff];simp only [qk,zde,qd,qt]
    ·cases h
  ·cases h
 ·cases h
theorem zym (hL:LOk0 L P) (hw:H.Wf) (hS:St B E H w){t:TypeId}{l c v:AV}{H1:AH}(h:zpc L t l c H=some (v,H1)) :
  ∃u w1,(Instr.makeSlice t (conc E l) (conc E c)).run P w= .ok u w1/\Done B E H w v H1 u w1:=by
 unfold zpc at h;split at h
 ·next e hu =>
  split at h
  ·next l' c' b z s hl hc hby hz hs =>
   split at h
   ·next hb =>
    cases h
    rw [qm,qm,qm] at hb;obtain ⟨⟨⟨b1,b2⟩,b3⟩,b4⟩:=hb;have b1:=ble_t b1;have b2:=ble_t b2;have b3:=ble_t b3;have b4:=qi b4;rw [zse] at b4;obtain ⟨k1,rfl⟩:=zhk hl;obtain ⟨k2,rfl⟩:=zhk hc;refine ⟨_,_,?_,zlh hw hS (Ce.repC_l z.cells c') e s (fun E' _=>rep_E (fun A B=>zjk hL hz A B) c' E' E) (.sl H.next 0 l' c' false) (.slice (some ⟨w.heap.size,0,none⟩) l' c') (fun E' h=>by simp [conc,h])⟩
    obtain ⟨i,hi,hib⟩:=zec1 hL hby w;unfold Instr.makeSlice;simp only [conc,qk,zca hL hu,qd,asInt,asIntOf,qt,hi];rw [IntWalk.i64_in (l':Int) ⟨oM,oM⟩,IntWalk.i64_in (c':Int) ⟨oM,oM⟩]
    simp only [qo4];rw [qg (by
     simp only [qg5,qs,hib];rintro ((h|h)|h)
     ·rcases h with h|h
      ·omega
      ·have:(b:Int)*c'>281474976710656:=h
       have h2:(b:Int)*c'=((b*c':Nat):Int):=by simp
       omega
     ·omega
     ·omega)]
    have hroom:(askRoom (c'*i.bytes)).run P w= .ok () w:=by
     unfold askRoom roomBytes;simp only [qo4,qt];rw [qg (by
      rw [hib,qo3];show ¬b*c'>140737488355328
      omega)]
    simp only [qg2,qk,hroom,zlb hL hs,qd];have rr:=zxm (E:=E) b4 c';by_cases hns:c'*s=0
    ·simp only [qj hns] at rr ⊢
     simp only [qk,qd,qt];rw [rr];simp only [zde,qd]
    ·simp only [qg hns] at rr ⊢
     simp only [qk,zbd (E:=E) hL hz,qd,zab,qt];rw [rr];simp only [zde,qd]
   ·cases h
  ·cases h
 ·cases h
end
section
variable {L:Lk}{P:Program}{w:World}{E:Env}
theorem zlk1 {op:BinOp}{t:TypeId}{k:IntKind}{x y:Int}{r:AV}(h:evInt op k x y=some r):(binOp op t (.int k x) (.int k y)).run P w= .ok (conc E r) w:=by
 cases op<;>simp only [evInt,zii] at h<;>first
  |(cases h;done)
  |(cases h;simp [binOp,Op.intArith,Op.intBits,Op.intCmp,conc];done)
  |(split at h
    ·cases h
    ·next hy =>
     cases h
     have hy':¬y=0:=by simpa using hy
     simp [binOp,Op.intDiv,conc,hy'])
theorem zpo {op:BinOp}{t:TypeId}{k k':IntKind}{x y:Int}{r:AV}(hop:op= .shl\/op= .shr) (h:zyg op k x y=some r):(binOp op t (.int k x) (.int k' y)).run P w= .ok (conc E r) w:=by
 unfold zyg at h;split at h
 ·cases h
 ·next hy =>
  have hy':¬y<0:=by simpa using hy
  rcases hop with rfl|rfl<;>(simp only [zii] at h;cases h;simp [binOp,Op.shift,conc,hy'])
theorem zgq:∀l m:List UInt8,lstEq l m=decide (l=m)
 | [], []=>rfl
 | [],_::_=>rfl
 |_::_, []=>rfl
 |a::l,b::m=>by
  show brec false (lstEq l m) (Nat.beq a.toNat b.toNat)=_
  rw [zgq l m];cases hb:Nat.beq a.toNat b.toNat with
  |true =>
   have h:a=b:=UInt8.toNat_inj.1 (qi hb);subst h;show decide (l=m)=_
   simp
  |false =>
   have h:a≠b:=fun h=>by subst h;rw [qr2] at hb;cases hb
   show false=_
   simp [h]
theorem zhq (a b:ByteArray):strEq a b=(a == b):=by
 unfold strEq;rw [zgq];obtain ⟨⟨x⟩⟩:=a;obtain ⟨⟨y⟩⟩:=b;show decide (x=y)=((⟨x⟩:Array UInt8) == ⟨y⟩)
 rw [ql2];simp
theorem zmk1 {op:BinOp}{t:TypeId}{x y:ByteArray}{r:AV}(h:evStr op x y=some r):(binOp op t (.string x) (.string y)).run P w= .ok (conc E r) w:=by
 cases op<;>simp only [evStr] at h<;>first
  |(cases h;done)
  |(cases h;simp [binOp,Op.stringOp,conc];done)
  |(cases h;rw [zhq,beq_toListBytes];simp [binOp,Op.stringOp,conc];done)
  |(split at h
    ·next hb =>
     cases h
     have hb':=ble_t hb;simp only [binOp,Op.stringOp,qo4,conc,qt];rw [qg (by
      have:IntKind.max .i64=9223372036854775807:=dC
      rw [this];omega)]
    ·cases h)
theorem evUn_ok {op:UnOp}{x r:AV}(h:evUn op x=some r):(Op.unary op (conc E x)).run P w= .ok (conc E r) w:=by
 unfold evUn at h;split at h
 ·split at h
  ·simp only [zii] at h
   cases h
   simp [Op.unary,Op.intArith,conc]
  ·cases h
 ·split at h
  ·simp only [evInt,zii] at h
   cases h
   simp [Op.unary,Op.intBits,conc]
  ·cases h
 ·split at h
  ·cases h;simp [Op.unary,conc]
  ·cases h
 ·cases h
theorem zkk (eq:AV->AV->Option Bool) (px py:Nat->Option AV) (s n i:Nat):zxf eq px py s (n+1) i=(match px (i*s),py (i*s) with
  |some a,some b=>(match eq a b with
   |some true=>zxf eq px py s n (i+1)
   |r=>r)
  |_,_=>none):=rfl
theorem zqo {eq:AV->AV->Option Bool}(he:∀a b,eq (.int .u8 a) (.int .u8 b)=some (a == b)){px py:Nat->Option AV}{n N M:Nat}
  (hx:∀i,i<n->px i=some (.int .u8 (.ofNat (Ce.B N i)))) (hy:∀i,i<n->py i=some (.int .u8 (.ofNat (Ce.B M i)))) :
  ∀k j,j+k=n->zxf eq px py 1 k j=some (decide (∀i,i<n->j<=i->Ce.B N i=Ce.B M i)):=by
 intro k
 induction k with
 |zero =>
  intro j hj;show some true=_
  congr 1
  symm
  rw [decide_eq_true_iff];intro i h1 h2;exact absurd h1 oM
 |succ k ih =>
  intro j hj;rw [zkk,qx4,hx j oM,hy j oM]
  simp only [he];by_cases h:Ce.B N j=Ce.B M j
  ·have hb:((Int.ofNat (Ce.B N j)) == (Int.ofNat (Ce.B M j)))=true:=by rw [h];simp
   rw [hb];simp only;rw [ih (j+1) oM]
   congr 1
   rw [ql2];simp only [qs];constructor
   ·intro hh i h1 h2
    by_cases hij:i=j
    ·rw [hij];exact h
    ·exact hh i h1 oM
   ·intro hh i h1 h2;exact hh i h1 oM
  ·have hb:((Int.ofNat (Ce.B N j)) == (Int.ofNat (Ce.B M j)))=false:=by
    rw [beq_eq_false_iff_ne];intro hc;exact h (Int.ofNat.inj hc)
   rw [hb];simp only;congr 1
   symm
   rw [qa4];intro hh;exact h (hh j oM (qn _))
theorem znx {n:Nat}{e:TypeId}(h:evEq L n e (.int .u8 0) (.int .u8 0)=some true) (a b:Int):evEq L n e (.int .u8 a) (.int .u8 b)=some (a == b):=by
 cases n with
 |zero=>cases h
 |succ n =>
  unfold evEq at h ⊢
  rw [zag] at h ⊢
  cases hu:L.under e with
  |none=>rw [hu] at h;cases h
  |some d =>
   rw [hu] at h;cases d<;>first
    |rfl
    |(simp only at h;cases h;done)
    |(simp only [AV.aggC] at h;cases h;done)
    |(simp only at h;split at h<;>first|(cases h;done)|(simp only [AV.aggC] at h;cases h;done))
theorem zic1 {e s n:Nat}{d:Nat}{xs ys:Ce}{r:Bool}(h:zsw (L.isAgg e) s (evEq L d e (.int .u8 0) (.int .u8 0)) n xs ys=some r) :
  zxf (evEq L d e) (ztc L e xs) (ztc L e ys) s n 0=some r:=by
 unfold zsw at h;split at h
 ·next hag ht =>
  next a N b M =>
  split at h
  ·next hb =>
   cases h
   rw [qm,qm] at hb;obtain ⟨h1,h2,h3⟩:=hb;have h1:=qi h1;have h2:=qi h2;have h3:=qi h3;subst h1 h2 h3;have hp:∀N i,i<b->ztc L e (.byt b N) i=some (.int .u8 (.ofNat (Ce.B N i))):=fun N i hi=>by
    unfold ztc;rw [hag];simp only;rw [Ce.get_l,Ce.l_byt,Ce.bytesL_get,qj hi]
   rw [zqo (fun a b=>znx ht a b) (n:=b) (hp N) (hp M) b 0 oM]
   congr 1
   rw [ql2];simp only [qs];show _↔Nat.beq (N%Ce.pw b) (M%Ce.pw b)=true
   rw [Ce.pw_eq,Nat.beq_eq,Ce.mod_eq_iff];exact ⟨fun h i hi=>h i hi (qh2 _),fun h i hi _=>h i hi⟩
  ·cases h
 ·cases h
theorem zox (hL:LOk0 L P) (n:Nat):∀(m:Nat) (t:TypeId) (x y:AV) (b:Bool),n<=m->evEq L n t x y=some b->(Op.equalIn m t (conc E x) (conc E y)).run P w= .ok b w:=by
 induction n with
 |zero=>intro m t x y b _ h;cases h
 |succ n ih =>
  intro m t x y b hm h;obtain ⟨m,rfl⟩:∃m',m=m'+1:=⟨m - 1,oM⟩
  have hm':n<=m:=oM
  unfold evEq at h;rw [zag] at h;have ih':∀t x y b,nrecF (α:=TypeId) (β:=AV->AV->Option Bool) (fun _ _ _=>none) _ n t x y=some b->_:=fun t x y b hh=>ih m t x y b hm' hh
  generalize hgen:nrecF (α:=TypeId) (β:=AV->AV->Option Bool) (fun _ _ _=>none) _ n=rec at h ih'
  split at h
  ·cases h
  ·next d hu =>
   split at h
   ·split at h
    ·cases h;rw [show conc E (.bool _)=Value.bool _ from rfl];exact run_equalIn_bool w m t _ _ (zdf hL hu)
    ·cases h
   ·next kd =>
    split at h
    ·next k a k2 b2 =>
     split at h
     ·next hk =>
      have hk':k=k2:=by simpa using hk
      subst hk';cases h;exact run_equalIn_int w m t k kd a b2 (zdf hL hu)
     ·cases h
    ·cases h
   ·split at h
    ·next a b2 =>
     cases h
     rw [zhq,beq_toListBytes];exact run_equalIn_string w m t a b2 (zdf hL hu)
    ·cases h
   ·next e =>
    split at h<;>first
     |(cases h;done)
     |(cases h;simp [Op.equalIn,zca hL hu,conc];done)
     |(next i o j p =>
       split at h
       ·next s hij hs =>
        have hij':=qi hij;subst hij';split at h
        ·cases h
        ·next hs0 =>
         cases h
         have hs':¬s=0:=by intro he;subst he;cases hs0
         simp only [Op.equalIn,qk,zca hL hu,qd,conc,zlb hL hs,qo4,hs',ne_eq,qb3,qc5,sameAddr,beq_self_eq_true,qt];congr 1;by_cases hop:o=p
         ·subst hop;simp
         ·rw [beq_f hop];simp;omega
       ·cases h)
   ·next ms =>
    split at h<;>first
     |(cases h;done)
     |(cases h;simp [Op.equalIn,zca hL hu,conc];done)
     |(next tx vx ty vy =>
       split at h
       ·next hxy =>
        cases h
        have hne:tx≠ty:=qw4 hxy;simp [Op.equalIn,zca hL hu,conc,hne]
       ·next hxy =>
        have he:=qi hxy;subst he;split at h
        ·next i hi =>
         split at h
         ·next hc =>
          have:=ih' _ _ _ _ h;simp only [Op.equalIn,qk,zca hL hu,qd,conc,ne_eq,qu2,qq3,zef hL hi,hc,ql5,qj1,qo4];exact this
         ·cases h
        ·cases h)
   ·next fs =>
    split at h
    ·cases h
    ·next hpl =>
     split at h
     ·next xs ys hxs hys =>
      rw [znd hxs,znd hys];clear hxs hys;have hu':=zdf hL hu;have hfo:P.fieldsOf t=fs:=by unfold Program.fieldsOf;rw [hu']
      have hp:=(hL.plainEq t hpl).1;show (Op.equalIn (m+1) t (.agg (concL E xs.l).toArray) (.agg (concL E ys.l).toArray)).run P w=_
      rw [run_equalIn_struct w m t _ _ (by rw [hfo];exact hu') hp,hfo]
      clear hu hu' hfo hp hpl
      revert h
      generalize fs.toList=l;intro h
      induction l with
      |nil=>cases h;simp [Op.eqFields]
      |cons f l ihl =>
       rw [zta] at h;unfold Op.eqFields;split at h
       ·next hn =>
        have hn' : f.name = "_" := by simpa using hn
        rw [qg (by simp [hn'])]
        exact ihl h
       ·next hn =>
        have hn' : f.name ≠ "_" := by simpa using hn
        rw [qj hn'];split at h
        ·next a b2 ha hb =>
         simp only [qk,zle hL ha,zle hL hb,qd];split at h
         ·next hr =>
          rw [ih' _ _ _ _ hr];simp only [qd,ql5,qj1,qq3];exact ihl h
         ·next r hr =>
          rw [ih' _ _ _ _ h];cases b with
          |true=>exact absurd h hr
          |false=>simp
        ·cases h
     ·cases h
   ·next n' e =>
    split at h
    ·next xs ys hxs hys =>
     rw [znd hxs,znd hys];clear hxs hys;split at h
     ·next s hs =>
      replace h:zxf (rec e) (ztc L e xs) (ztc L e ys) s n' 0=some b:=by
       split at h
       ·next r hr=>cases h;subst hgen;exact zic1 hr
       ·exact h
      have hu':=zdf hL hu;show (Op.equalIn (m+1) t (.agg (concL E xs.l).toArray) (.agg (concL E ys.l).toArray)).run P w=_
      obtain ⟨i,hi,hsz⟩:∃i,P.info? e=some i/\i.size=s:=by
       unfold Lk.size at hs;split at hs
       ·next i hi=>cases hs;exact ⟨i,hL.info e i hi,rfl⟩
       ·cases hs
      have hco:P.cellsOf e=s:=by unfold Program.cellsOf;rw [hi];exact hsz
      rw [run_equalIn_array w m _ _ hu' hi,hco,List.range_eq_range'];clear hu hu'
      revert h
      generalize 0=j;intro h
      induction n' generalizing j with
      |zero=>cases h;simp [Op.eqItems]
      |succ n' ihn =>
       rw [zkk] at h;rw [List.range'_succ];unfold Op.eqItems;split at h
       ·next a b2 ha hb =>
        simp only [qk,zle hL ha,zle hL hb,qd];split at h
        ·next hr =>
         rw [ih' _ _ _ _ hr];simp only [qd,ql5,qj1,qq3];exact ihn _ h
        ·next r hr =>
         rw [ih' _ _ _ _ h];cases b with
         |true=>exact absurd h hr
         |false=>simp
       ·cases h
     ·cases h
    ·cases h
   ·split at h<;>first
     |(cases h;done)
     |(cases h;simp [Op.equalIn,zca hL hu,conc];done)
     |(split at h<;>first
      |(cases h;done)
      |(next hk=>obtain ⟨d,rfl,rfl⟩:=zko hk;cases h;simp [Op.equalIn,zca hL hu,conc];done))
   ·split at h<;>first
     |(cases h;done)
     |(cases h;simp [Op.equalIn,zca hL hu,conc];done)
   ·split at h<;>first
     |(cases h;done)
     |(cases h;simp [Op.equalIn,zca hL hu,conc];done)
   ·cases h
end
section
variable {L:Lk}{P:Program}{w:World}{E:Env}{B:Nat}{H:AH}
def zro (x y:AV):Bool:=match x,y with| .int _ _,.int _ _=>true| .str _,.str _=>true|_,_=>false
def kdV (u:Value):Nat:=match u with| .int _ _=>1| .string _=>2| .float _ _=>3| .complex _ _ _=>4|_=>0
def kdA (x:AV):Nat:=match x with| .int _ _=>1| .str _=>2|_=>0
theorem zas (x:AV):kdV (conc E x)=kdA x:=by
 cases x<;>first
  |rfl
  |(next k i o=>rcases k with _|_|_|k<;>rcases o with _|o<;>rfl)
theorem zwg1 {x y:AV}(h:zro x y=false):kdA x=kdA y->kdA x=0:=by
 cases x<;>cases y<;>first
  |(cases h;done)
  |(intro _;rfl)
  |(intro h;cases h)
theorem zjc1 {t:TypeId}{u v:Value}(h:kdV u=kdV v->kdV u=0){b:Bool}(he:(Op.equal t u v).run P w= .ok b w):(binOp .eql t u v).run P w= .ok (.bool b) w:=by
 cases u<;>cases v<;>first
  |(simp only [binOp,qk,he,qd,qt];done)
  |(exact absurd (h rfl) (Nat.succ_ne_zero _))
theorem zkc1 {t:TypeId}{u v:Value}(h:kdV u=kdV v->kdV u=0){b:Bool}(he:(Op.equal t u v).run P w= .ok b w):(binOp .neq t u v).run P w= .ok (.bool (!b)) w:=by
 cases u<;>cases v<;>first
  |(simp only [binOp,qk,he,qd,qt];done)
  |(exact absurd (h rfl) (Nat.succ_ne_zero _))
theorem zso {t:TypeId}{x y:AV}(h:zro x y=false){b:Bool}(he:(Op.equal t (conc E x) (conc E y)).run P w= .ok b w):(binOp .eql t (conc E x) (conc E y)).run P w= .ok (.bool b) w :=
 zjc1 (by rw [zas,zas];exact zwg1 h) he
theorem zto {t:TypeId}{x y:AV}(h:zro x y=false){b:Bool}(he:(Op.equal t (conc E x) (conc E y)).run P w= .ok b w):(binOp .neq t (conc E x) (conc E y)).run P w= .ok (.bool (!b)) w :=
 zkc1 (by rw [zas,zas];exact zwg1 h) he
def ekV (u:Value):Nat:=match u with| .nilIface=>1| .agg _=>2|_=>0
def ekA (x:AV):Nat:=match x with| .nilIfc=>1| .agg _=>2| .bag _ _=>2|_=>0
theorem zpx (x:AV):ekV (conc E x)=ekA x:=by
 cases x<;>first
  |rfl
  |(next k i o=>rcases k with _|_|_|k<;>rcases o with _|o<;>rfl)
theorem zuo {op:BinOp}{t:TypeId}{xo yo:Operand}{u v:Value}(h:ekV u=ekV v->ekV u=0):(eqGuard op t xo yo u v).run P w= .ok () w:=by
 cases op<;>first
  |rfl
  |(cases u<;>cases v<;>first
    |rfl
    |(exact absurd (h rfl) (Nat.succ_ne_zero _)))
def zxg1 (L:Lk) (t:TypeId) (xo yo:Operand) (x y:AV):Bool :=
 match x,y with
 | .nilIfc,.nilIfc=>zol xo || zol yo
 | .agg _,.agg _=>L.plainEq t
 | .agg _,.bag _ _=>L.plainEq t
 | .bag _ _,.agg _=>L.plainEq t
 | .bag _ _,.bag _ _=>L.plainEq t
 |_,_=>true
theorem zcv (hL:LOk0 L P){op:BinOp}{t:TypeId}{xo yo:Operand}{x y:AV}(h:zxg1 L t xo yo x y=true):(eqGuard op t xo yo (conc E x) (conc E y)).run P w= .ok () w:=by
 unfold zxg1 at h;split at h
 ·rw [qg5] at h
  unfold eqGuard;simp only [conc,qo4,qt];rcases h with h|h
  ·cases xo<;>first|(cases h;done)|(simp [zol])
  ·cases yo<;>first|(cases h;done)|(simp [zol])
 ·exact run_eqGuard_agg w op t xo yo _ _ (hL.plainEq t h).2
 ·rw [zdg];exact run_eqGuard_agg w op t xo yo _ _ (hL.plainEq t h).2
 ·rw [zdg];exact run_eqGuard_agg w op t xo yo _ _ (hL.plainEq t h).2
 ·rw [zdg,zdg];exact run_eqGuard_agg w op t xo yo _ _ (hL.plainEq t h).2
 ·next h1 h2 h3 h4 h5 =>
  refine zuo fun he=> ?_
  rw [zpx,zpx] at he;rw [zpx];cases x<;>cases y<;>first
   |rfl
   |(cases he;done)
   |(exact (h1 rfl rfl).elim)
   |(exact (h2 _ _ rfl rfl).elim)
   |(exact (h3 _ _ _ rfl rfl).elim)
   |(exact (h4 _ _ _ rfl rfl).elim)
   |(exact (h5 _ _ _ _ rfl rfl).elim)
theorem zte {op:BinOp}{t:TypeId}{xo yo:Operand}{k:IntKind}{n:Int}{b:Value}:(eqGuard op t xo yo (.int k n) b).run P w= .ok () w:=by
 cases op<;>first|rfl|(cases b<;>rfl)
theorem zjl {op:BinOp}{t:TypeId}{xo yo:Operand}{s:ByteArray}{b:Value}:(eqGuard op t xo yo (.string s) b).run P w= .ok () w:=by
 cases op<;>first|rfl|(cases b<;>rfl)
theorem znk1 (hL:LOk0 L P){op:BinOp}{t:TypeId}{xo yo:Operand}{x y r:AV}(h:evBin L op t xo yo x y=some r) :
  ((do eqGuard op t xo yo (conc E x) (conc E y);binOp op t (conc E x) (conc E y)):Sem Value).run P w= .ok (conc E r) w:=by
 unfold evBin at h;simp only [qk];split at h
 ·split at h
  ·simp only [conc,zte,qd]
   exact zpo (.inl rfl) h
  ·cases h
 ·split at h
  ·simp only [conc,zte,qd]
   exact zpo (.inr rfl) h
  ·cases h
 ·split at h
  ·split at h
   ·next hk =>
    have hk':=qe hk;subst hk';simp only [conc,zte,qd];exact zlk1 h
   ·cases h
  ·simp only [conc,zjl,qd]
   exact zmk1 h
  ·next hi hs =>
   have hb:zro x y=false:=by
    unfold zro;split
    ·exact (hi _ _ _ _ rfl rfl).elim
    ·exact (hs _ _ rfl rfl).elim
    ·rfl
   split at h<;>first
    |(cases h;done)
    |(split at h
      ·cases h
      ·next hg =>
       rw [zcv hL hg];simp only [qd];split at h
       ·next rr hr =>
        cases h
        first
         |exact zso hb (zox hL 40 10000 t x y rr oM hr)
         |exact zto hb (zox hL 40 10000 t x y rr oM hr)
       ·cases h)
theorem zli (hL:LOk0 L P){t:TypeId}{x r:AV}(h:zsa L t x=some r):(Instr.makeInterface t (conc E x)).run P w= .ok (conc E r) w:=by
 unfold zsa at h;unfold Instr.makeInterface;split at h
 ·cases h
 ·next d hu hd =>
  cases h
  simp only [qk,zca hL hd,qd];cases d<;>first
   |rfl
   |exact (hu _ rfl).elim
 ·cases h
theorem zsl (want:Array (String×TypeId)) (got:Array Method):lacking want got= []↔zxj1 want got=true:=by
 unfold lacking zxj1;rw [List.map_eq_nil_iff,List.filter_eq_nil_iff,qb1];constructor
 ·intro h p hp
  have:=h p hp;rw [Array.any_toList]
  simpa using this
 ·intro h p hp
  have:=h p hp;rw [Array.any_toList] at this
  simpa using this
theorem zdv (hL:LOk0 L P){x r:AV}{xt t:TypeId}{ok:Bool}(h:ztd L x t ok=some r):(Instr.typeAssert (conc E x) xt t ok).run P w= .ok (conc E r) w:=by
 have fails:∀(e:RuntimeError),zpl L t ok=some r->((if ok=true then (do pure (Value.tuple #[← zeroValue t,.bool false]):Sem Value) else runtimePanic e)).run P w= .ok (conc E r) w:=by
  intro e hf;unfold zpl at hf;cases ok with
  |false=>cases hf
  |true =>
   simp only at hf;split at hf
   ·next z hz =>
    cases hf
    simp only [qc5,qk,zbd (E:=E) hL hz,qd,qt];rfl
   ·cases hf
 have holds:∀v,ztw ok v=some r->(pure (if ok=true then Value.tuple #[conc E v,.bool true] else conc E v):Sem Value).run P w= .ok (conc E r) w:=by
  intro v hv;cases ok<;>(cases hv;rfl)
 unfold ztd at h;unfold Instr.typeAssert;split at h
 ·cases h
 ·next want hu =>
  split at h
  ·simp only [conc,qk,zca hL hu,qd]
   exact fails _ h
  ·next t' v =>
   split at h
   ·next i hi =>
    simp only [conc,qk,zca hL hu,qd,zef hL hi];split at h
    ·next hm=>rw [missingMethod_none ((zsl _ _).2 hm)];exact holds (.ifc t' v) h
    ·next hm =>
     obtain ⟨s,hs⟩:=missingMethod_some (want:=want) (got:=i.methods) (fun hl=>by rw [(zsl _ _).1 hl] at hm;cases hm)
     rw [hs];exact fails _ h
   ·cases h
  ·cases h
 ·next d hd hu =>
  have key:∀(a:Value->Sem Value) (X Y:Sem Value),True:=fun _ _ _=>trivial
  split at h
  ·simp only [conc,qk,zca hL hu,qd]
   cases d<;>first
    |exact (hd _ rfl).elim
    |exact fails _ h
  ·next t' v =>
   simp only [conc,qk,zca hL hu,qd];split at h
   ·next ht =>
    have ht':=qi ht;subst ht';cases d<;>first
     |exact (hd _ rfl).elim
     |(simp only [qc5];exact holds v h)
   ·next ht =>
    have ht':=qw4 ht;cases d<;>first
     |exact (hd _ rfl).elim
     |(simp only [qg ht'];exact fails _ h)
  ·cases h
theorem zlc1 {x y r:AV}(h:zvw x y=some r):(Builtin.min2 (conc E x) (conc E y)).run P w= .ok (conc E r) w:=by
 unfold zvw at h;split at h
 ·cases h;rfl
 ·cases h
theorem zmc1 {x y r:AV}(h:zww x y=some r):(Builtin.max2 (conc E x) (conc E y)).run P w= .ok (conc E r) w:=by
 unfold zww at h;split at h
 ·cases h;rfl
 ·cases h
theorem zqx {f:AV->AV->Option AV}{g:Value->Value->Sem Value}(hfg:∀x y r,f x y=some r->(g (conc E x) (conc E y)).run P w= .ok (conc E r) w) (l:List AV) :
  ∀x r,fold2 f l x=some r->((concL E l).foldlM g (conc E x)).run P w= .ok (conc E r) w:=by
 induction l with
 |nil=>intro x r h;cases h;simp [concL]
 |cons y l ih =>
  intro x r h;unfold fold2 at h;rw [zta] at h;split at h
  ·next s hs =>
   simp only [concL,List.foldlM_cons,qk,hfg _ _ _ hs,qd];exact ih s r h
  ·cases h
end
section
variable {L:Lk}{P:Program}{w:World}{E:Env}{B:Nat}{H:AH}
theorem zqc {r:Nat}{o:Obj}(h:w.heap[r]? =some o) (hc:∀c e f,o≠ .cells c e f):(getObj r).run P w= .ok o w:=by
 cases o<;>first
  |exact absurd rfl (hc _ _ _)
  |(unfold getObj;simp only [Sem.run,h])
theorem zxe {r:Nat}{o o':Obj}(h:w.heap[r]? =some o) (hc:∀c e f,o≠ .cells c e f):(setObj r o').run P w= .ok () (zvc w r o'):=by
 unfold setObj;simp only [Sem.run,h];cases o<;>first|rfl|exact absurd rfl (hc _ _ _)
theorem HRel.map (hR:HRel B E H w){i:Nat}{es:List (AV×AV×Nat)}{c:Nat}(h:H.get i=some (.map es c)):w.heap[(E i).blk]? =some (.map (es.map (entryOf E)).toArray c):=hR.blk i _ h
theorem ziq (hL:LOk0 L P) (hR:HRel B E H w){t:TypeId}{ts:Array TypeId}{ty:TypeId}{x r:AV}{us:List Value}(ht:ts[0]? =some t) (h:evLen L t x H=some r) :
  (Builtin.len_ ts ty (conc E x::us).toArray).run P w= .ok (conc E r) w:=by
 unfold Builtin.len_;simp only [ht,qo1,qq1];unfold evLen at h;split at h
 ·next hu =>
  split at h
  ·cases h;simp only [qk,zca hL hu,qd,conc];rfl
  ·cases h
 ·next n e hu=>cases h;simp only [qk,zca hL hu,qd];rfl
 ·next a hu =>
  split at h
  ·next n e hu'=>cases h;simp only [qk,zca hL hu,zca hL hu',qd];rfl
  ·cases h
 ·next e hu =>
  split at h
  ·cases h;simp only [qk,zca hL hu,qd,conc];rfl
  ·cases h;simp only [qk,zca hL hu,qd,conc];rfl
  ·next k i o =>
   split at h
   ·next hk =>
    obtain ⟨n,rfl⟩:∃n,k=n+3:=⟨k - 3,by have:=qf1 hk;omega⟩
    cases h;simp only [qk,zca hL hu,qd,conc];rfl
   ·split at h
    ·next hk =>
     obtain ⟨d,rfl,rfl⟩:=zko hk;cases h;simp only [qk,zca hL hu,qd,conc];rfl
    ·cases h
  ·cases h
 ·next k e hu =>
  split at h
  ·cases h;simp only [qk,zca hL hu,qd,conc];rfl
  ·next i =>
   split at h
   ·next es c hg =>
    cases h
    simp only [qk,zca hL hu,qd,conc];rw [zqc (hR.map hg) (fun _ _ _=>by simp)]
    simp [zse,goInt]
   ·cases h
  ·cases h
 ·next dir e hu =>
  split at h
  ·next k i o =>
   split at h
   ·next hk =>
    rw [qm] at hk;have ho:=qi hk.2;have hk:=qi hk.1;subst hk ho;split at h
    ·next c buf hg =>
     cases h
     obtain ⟨s,rr,hb⟩:=hR.blk i _ hg;simp only [qk,zca hL hu,qd,conc];rw [zqc hb (fun _ _ _=>by simp)]
     simp [zse,goInt,zpa,qt]
    ·cases h
   ·cases h
  ·cases h
 ·cases h
theorem zjq (hL:LOk0 L P){t:TypeId}{ts:Array TypeId}{ty:TypeId}{x r:AV}{us:List Value}(ht:ts[0]? =some t) (h:evCap L t x=some r) :
  (Builtin.cap_ ts ty (conc E x::us).toArray).run P w= .ok (conc E r) w:=by
 unfold Builtin.cap_;simp only [ht,qo1,qq1];unfold evCap at h;split at h
 ·next n e hu=>cases h;simp only [qk,zca hL hu,qd];rfl
 ·next e hu =>
  split at h
  ·cases h;simp only [qk,zca hL hu,qd,conc];rfl
  ·split at h
   ·cases h;simp only [qk,zca hL hu,qd,conc];rfl
   ·cases h
  ·cases h
 ·cases h
theorem zvo {d:TypeDesc}{a b:AV}{r:Bool}(h:zqf d a b=some r):Instr.sameNow d (conc E a) (conc E b)=some r:=by
 unfold zqf at h;split at h
 ·split at h
  ·next hk=>have:=qe hk;subst this;cases h;simp [conc,Instr.sameNow]
  ·cases h
 ·cases h;rfl
 ·cases h;rfl
 ·cases h
theorem zrx {d:TypeDesc}{k:AV}(es:List (AV×AV×Nat)):∀i r,findKey d k es i=some r->Instr.findNow d (conc E k) (es.map (entryOf E)) i=some (r.map fun p=>(p.1,conc E p.2)):=by
 induction es with
 |nil=>intro i r h;cases h;rfl
 |cons e es ih =>
  intro i r h;unfold findKey at h;rw [zta] at h;show Instr.findNow d (conc E k) (entryOf E e::es.map (entryOf E)) i=_
  unfold Instr.findNow;split at h
  ·next hs=>cases h;rw [show (entryOf E e).key=conc E e.1 from rfl,zvo hs];rfl
  ·next hs=>rw [show (entryOf E e).key=conc E e.1 from rfl,zvo hs];exact ih _ _ h
  ·cases h
theorem zsx {d:TypeDesc}{k:AV}(es:List (AV×AV×Nat)):∀i j v,findKey d k es i=some (some (j,v))->i<=j/\j<i+es.length/\ ∃e,es[j - i]? =some e/\zqf d k e.1=some true:=by
 induction es with
 |nil=>intro i j v h;cases h
 |cons e es ih =>
  intro i j v h;unfold findKey at h;rw [zta] at h;split at h
  ·next hs=>cases h;exact ⟨qn _,by simp,e,by simp,hs⟩
  ·obtain ⟨h1,h2,x,h3,h4⟩:=ih _ _ _ h
   refine ⟨oM,by simp;omega,x,?_,h4⟩
   obtain ⟨m,hm⟩:∃m,j - i=m+1:=⟨j - i - 1,oM⟩
   rw [hm,show m=j - (i+1) from oM];simpa using h3
  ·cases h
theorem zev (hL:LOk0 L P){kt:TypeId}{d:TypeDesc}{k:AV}{es:List (AV×AV×Nat)}{r:Option (Nat×AV)}(hd:L.under kt=some d) (h:findKey d k es 0=some r) :
  (Instr.findKey kt (conc E k) (es.map (entryOf E))).run P w= .ok (r.map fun p=>(p.1,conc E p.2)) w:=by
 unfold Instr.findKey;simp only [qk,zca hL hd,qd,zrx es 0 r h,qt]
theorem zkq (hL:LOk0 L P){kt:TypeId}{d:TypeDesc}{k:AV}{e c:Bool}(hd:L.under kt=some d) (h:zqf d k k=some c):(Instr.checkKey e 10000 kt (conc E k)).run P w= .ok () w:=by
 unfold Instr.checkKey;simp only [qk,zca hL hd,qd];unfold zqf at h;split at h<;>first
  |rfl
  |(cases h;done)
theorem zlq {d:TypeDesc}{a b:AV}{E:Env}(h:zqf d a b=some true) (n:Nat):Instr.sameBits n (conc E b) (conc E a)=true:=by
 unfold zqf at h;split at h
 ·split at h
  ·next hk =>
   have:=qe hk;subst this;simp only [qz1,qc7] at h;subst h;cases n<;>simp [conc,Instr.sameBits]
  ·cases h
 ·simp only [qz1] at h
  rw [beq_toListBytes] at h;simp only [qc7] at h;cases n<;>simp [conc,Instr.sameBits,beq_toListBytes,h]
 ·simp only [qz1,qc7] at h
  subst h;cases n<;>simp [conc,Instr.sameBits]
 ·cases h
theorem zfv {a b:AV}(h:zaq a b=true) (n:Nat):Instr.sameBits n (conc E a) (conc E b)=true:=by
 unfold zaq at h;split at h
 ·split at h
  ·next hk =>
   have:=qe hk;subst this;simp only [qc7] at h;subst h;cases n<;>simp [conc,Instr.sameBits]
  ·cases h
 ·rw [beq_toListBytes] at h
  simp only [qc7] at h;cases n<;>simp [conc,Instr.sameBits,beq_toListBytes,h]
 ·simp only [qc7] at h
  subst h;cases n<;>simp [conc,Instr.sameBits]
 ·cases h
theorem zmq (xs:List AV) (n:Nat):∀ys,znm xs ys=true->(concL E xs).length=(concL E ys).length/\((concL E xs).zip (concL E ys)).all (fun (x,y)=>Instr.sameBits n x y)=true:=by
 induction xs with
 |nil =>
  intro ys h;cases ys with
  |nil=>exact ⟨rfl,rfl⟩
  |cons y ys=>cases h
 |cons x xs ih =>
  intro ys h;unfold znm at h;rw [zta] at h;cases ys with
  |nil=>cases h
  |cons y ys =>
   simp only at h;split at h
   ·next hxy =>
    obtain ⟨h1,h2⟩:=ih ys h;refine ⟨by show (concL E xs).length+1=(concL E ys).length+1;rw [h1],?_⟩
    show (Instr.sameBits n (conc E x) (conc E y) && ((concL E xs).zip (concL E ys)).all _)=true
    rw [zfv hxy,h2];rfl
   ·cases h
theorem zzm (n:Nat) (l:List AV) (hl:∀x∈l,∃k a,x= .int k a):((concL E l).zip (concL E l)).all (fun (x,y)=>Instr.sameBits n x y)=true:=by
 induction l with
 |nil=>rfl
 |cons x l ih =>
  obtain ⟨k,a,rfl⟩:=hl x (by simp)
  show (Instr.sameBits n (.int k a) (.int k a) && ((concL E l).zip (concL E l)).all _)=true
  rw [ih fun x hx=>hl x (by simp [hx])]
  cases n<;>simp [Instr.sameBits]
theorem zyg1 {n N:Nat}{ys:List AV}(h:(match Ce.pack ys with|some M=>(match Nat.beq n (len ys) with|true=>Nat.beq N M|false=>false)|none=>false)=true) :
  (∀x∈ys,∃k a,x= .int k a)/\ys=(Ce.byt n N).l:=by
 split at h
 ·next M hM =>
  split at h
  ·next hn =>
   have hn:=qi hn;have hN:=qi h;subst hN;rw [zse] at hn;subst hn;have e:ys=(Ce.byt ys.length N).l:=by rw [Ce.l_byt];exact (Ce.pack_some ys N hM).symm
   refine ⟨fun x hx=> ?_,e⟩
   rw [e,Ce.l_byt,qz] at hx;obtain ⟨i,hx⟩:=hx;rw [Ce.bytesL_get] at hx;split at hx
   ·cases hx;exact ⟨_,_,rfl⟩
   ·cases hx
  ·cases h
 ·cases h
theorem zgv {a b:AV}(h:zom a b=true) (n:Nat):Instr.sameBits (n+1) (conc E a) (conc E b)=true:=by
 unfold zom at h;split at h
 ·next m N m' M =>
  split at h
  ·next h1 =>
   have h1:=qi h1;have h2:=qi h;subst h1 h2;have hc:conc E (.bag m N)= .agg (concL E (Ce.byt m N).l).toArray:=znd rfl;rw [hc];unfold Instr.sameBits;simp only [BEq.rfl,qo2];refine zzm n _ fun x hx=> ?_
   rw [Ce.l_byt] at hx;rw [qz] at hx;obtain ⟨i,hx⟩:=hx;rw [Ce.bytesL_get] at hx;split at hx
   ·cases hx;exact ⟨_,_,rfl⟩
   ·cases hx
  ·cases h
 ·next xs ys =>
  obtain ⟨h1,h2⟩:=zmq (E:=E) xs n ys h;show Instr.sameBits (n+1) (.agg (concL E xs).toArray) (.agg (concL E ys).toArray)=true
  unfold Instr.sameBits;simp only [List.size_toArray,h1,BEq.rfl,qo2];exact h2
 ·next m N ys =>
  obtain ⟨e1,e2⟩:=zyg1 h;have hc:conc E (.bag m N)= .agg (concL E ys).toArray:=by rw [e2];exact znd rfl
  rw [hc];show Instr.sameBits (n+1) (.agg (concL E ys).toArray) (.agg (concL E ys).toArray)=true
  unfold Instr.sameBits;simp only [BEq.rfl,qo2];exact zzm n _ e1
 ·next ys m N =>
  obtain ⟨e1,e2⟩:=zyg1 h;have hc:conc E (.bag m N)= .agg (concL E ys).toArray:=by rw [e2];exact znd rfl
  rw [hc];show Instr.sameBits (n+1) (.agg (concL E ys).toArray) (.agg (concL E ys).toArray)=true
  unfold Instr.sameBits;simp only [BEq.rfl,qo2];exact zzm n _ e1
 ·cases h
theorem ztl (hL:LOk0 L P){t:TypeId}{d:TypeDesc}{v:Value}{e:Bool}{n:Nat}(hu:L.under t=some d) (hd:keyD d=true):(Instr.checkKey e (n+1) t v).run P w= .ok () w:=by
 unfold Instr.checkKey;simp only [qk,zca hL hu,qd];unfold keyD at hd;split at hd<;>first
  |rfl
  |(cases hd;done)
  |(cases v<;>rfl)
theorem zok1 (hL:LOk0 L P){kt:TypeId}{d:TypeDesc}{k:AV}{e:Bool}{n:Nat}(hd:L.under kt=some d) (h:keyOk L d k=true):(Instr.checkKey e (n+2) kt (conc E k)).run P w= .ok () w:=by
 unfold keyOk at h;split at h
 ·cases h
 ·next cs hcs =>
  rw [znd hcs];unfold Instr.checkKey;simp only [qk,zca hL hd,qd];split at h
  ·next fs =>
   simp only;rw [← Array.forIn_toList]
   revert h
   generalize fs.toList=l;intro h
   induction l with
   |nil=>simp
   |cons f l ih =>
    rw [zta] at h;split at h
    ·next fd hfd =>
     split at h
     ·next hkd =>
      split at h
      ·next a ha =>
       have ih:=ih h;rw [qk] at ih;simp only [List.forIn_cons,qk];by_cases hn : f.name ≠ "_"
       ·rw [qj hn]
        simp only [qk,zle hL ha,qd,ztl hL hfd hkd,qt];exact ih
       ·rw [qg hn]
        simp only [qt,qd];exact ih
      ·cases h
     ·cases h
    ·cases h
  ·next m et =>
   split at h
   ·next ed s hed hag hs =>
    split at h
    ·next hkd hs1 =>
     have hs1:=qi hs1;subst hs1;have hm:m<=cs.l.length:=by
      have:=qf1 h;cases cs with
      |lst l=>exact qx2 this (Nat.le_of_eq (zse l))
      |byt a N=>rw [Ce.l_byt,Ce.bytesL_length];exact this
     simp only [Std.Legacy.Range.forIn_eq_forIn_range',Std.Legacy.Range.size,Nat.sub_zero,Nat.add_one_sub_one,Nat.div_one];have each:∀i∈List.range' 0 m,i<m:=fun i hi=>by
      have:=List.mem_range'_1.mp hi;omega
     generalize List.range' 0 m=is at each
     induction is with
     |nil=>simp
     |cons j is ih =>
      have hj:=each j (by simp)
      obtain ⟨a,ha⟩:∃a,ztc L et cs (j*1)=some a:=by
       unfold ztc;rw [hag];simp only [qx4];rw [Ce.get_l];exact ⟨cs.l[j],qr oM⟩
      simp only [List.forIn_cons,qk,zlb hL hs,qd,zle hL ha,ztl hL hed hkd,qt];have ih:=ih fun y hy=>each y (by simp [hy])
      rw [qk] at ih;exact ih
    ·cases h
   ·cases h
  ·cases h
theorem znc1 (hL:LOk0 L P){t:TypeId}{k:AV}(es:List (AV×AV×Nat)):∀i r,zuw L t k es i=some r->(Instr.findAsking t (conc E k) (es.map (entryOf E)) i).run P w= .ok (r.map fun p=>(p.1,conc E p.2)) w:=by
 induction es with
 |nil=>intro i r h;cases h;rfl
 |cons e es ih =>
  intro i r h;unfold zuw at h;rw [zta] at h;show (Instr.findAsking t (conc E k) (entryOf E e::es.map (entryOf E)) i).run P w=_
  unfold Instr.findAsking;rw [show (entryOf E e).key=conc E e.1 from rfl]
  simp only [qk];have hq:∀b,evEq L 40 t k e.1=some b->(Op.equal t (conc E k) (conc E e.1)).run P w= .ok b w:=fun b hb=>zox hL 40 Op.maxDepth t k e.1 b dC hb
  split at h
  ·next hs =>
   rw [hq _ hs];split at h
   ·cases h;rfl
   ·cases h
  ·next hs=>rw [hq _ hs];exact ih _ _ h
  ·cases h
theorem zoc1 {t:TypeId}{k:AV}(es:List (AV×AV×Nat)):∀i j v,zuw L t k es i=some (some (j,v))->i<=j/\j<i+es.length/\ ∃e,es[j - i]? =some e/\zom e.1 k=true:=by
 induction es with
 |nil=>intro i j v h;cases h
 |cons e es ih =>
  intro i j v h;unfold zuw at h;rw [zta] at h;split at h
  ·split at h
   ·next hs=>cases h;exact ⟨qn _,by simp,e,by simp,hs⟩
   ·cases h
  ·obtain ⟨h1,h2,x,h3,h4⟩:=ih _ _ _ h
   refine ⟨oM,by simp;omega,x,?_,h4⟩
   obtain ⟨m,hm⟩:∃m,j - i=m+1:=⟨j - i - 1,oM⟩
   rw [hm,show m=j - (i+1) from oM];simpa using h3
  ·cases h
theorem zpk1 {d:TypeDesc}(hd:aggD d=true) (v:Value) (es:List MapEntry):es= []\/Instr.findNow d v es 0=none:=by
 cases es with
 |nil=>exact Or.inl rfl
 |cons e es =>
  right
  unfold Instr.findNow;unfold aggD at hd;split at hd<;>first
   |(cases hd;done)
   |rfl
theorem zee (hL:LOk0 L P){kt:TypeId}{k:AV}{es:List (AV×AV×Nat)}{r:Option (Nat×AV)}{e:Bool}(h:zrf L kt k es=some r):(Instr.checkKey e 10000 kt (conc E k)).run P w= .ok () w:=by
 unfold zrf at h;split at h
 ·cases h
 ·next d hd =>
  split at h
  ·split at h
   ·next hk=>exact zok1 hL hd hk
   ·cases h
  ·split at h
   ·next hs=>exact zkq hL hd hs
   ·cases h
theorem zmi (hL:LOk0 L P){kt:TypeId}{k:AV}{es:List (AV×AV×Nat)}{r:Option (Nat×AV)}(h:zrf L kt k es=some r) :
  (Instr.findKey kt (conc E k) (es.map (entryOf E))).run P w= .ok (r.map fun p=>(p.1,conc E p.2)) w:=by
 unfold zrf at h;split at h
 ·cases h
 ·next d hd =>
  split at h
  ·next hag =>
   split at h
   ·unfold Instr.findKey
    simp only [qk,zca hL hd,qd];rcases zpk1 hag (conc E k) (es.map (entryOf E)) with hn|hn
    ·have:es= []:=by simpa using hn
     subst this;cases h;rfl
    ·rw [hn]
     exact znc1 hL es 0 r h
   ·cases h
  ·split at h
   ·exact zev hL hd h
   ·cases h
theorem ztx {kt:TypeId}{k:AV}{es:List (AV×AV×Nat)}{j:Nat}{v:AV}(h:zrf L kt k es=some (some (j,v))):j<es.length/\ ∃e,es[j]? =some e/\ ∀E:Env,Instr.sameBits 10000 (conc E e.1) (conc E k)=true:=by
 unfold zrf at h;split at h
 ·cases h
 ·split at h
  ·split at h
   ·obtain ⟨_,h2,e,h3,h4⟩:=zoc1 es 0 j v h
    exact ⟨oM,e,h3,fun E=>zgv h4 9999⟩
   ·cases h
  ·split at h
   ·obtain ⟨_,h2,e,h3,h4⟩:=zsx es 0 j v h
    exact ⟨oM,e,h3,fun E=>zlq h4 10000⟩
   ·cases h
theorem zhv (hL:LOk0 L P) (hR:HRel B E H w){t:TypeId}{x k r:AV}{ok:Bool}(h:zjb L t x k ok H=some r):(Instr.lookup t (conc E x) (conc E k) ok).run P w= .ok (conc E r) w:=by
 unfold zjb at h;split at h
 ·next key elem hu =>
  split at h
  ·next z hz =>
   split at h
   ·cases h
   ·next es hes =>
     split at h
     ·cases h
     ·next rr hf =>
      cases h
      unfold Instr.lookup;simp only [qk,zca hL hu,qd];split at hes
      ·cases hes
       have hfk:=zmi (P:=P) (w:=w) (E:=E) hL hf;simp only [conc,qk,qt,qd,zee hL hf];simp only [qy5] at hfk;rw [hfk];cases rr with
       |none=>simp only [qp4,qd,qk,zbd (E:=E) hL hz,qt];cases ok<;>rfl
       |some p=>exact absurd (ztx hf).1 (qb4 _)
      ·next i =>
       split at hes
       ·next es' c' hg =>
        cases hes
        have hfk:=zmi (P:=P) (w:=w) (E:=E) hL hf;simp only [conc,qk];rw [zqc (hR.map hg) (fun _ _ _=>by simp)]
        simp only [qk,qt,qd,zee hL hf];rw [hfk];cases rr with
        |none=>simp only [qp4,qd,qk,zbd (E:=E) hL hz,qt];cases ok<;>rfl
        |some p=>simp only [qd4,qd,qk,qt];cases ok<;>rfl
       ·cases hes
      ·cases hes
  ·cases h
 ·cases h
theorem zoj (hw:H.Wf) (hS:St B E H w){i:Nat}{es:List (AV×AV×Nat)}{c:Nat}(hg:H.get i=some (.map es c)) (hlo:H.lo<=i) (es':List (AV×AV×Nat)) (c':Nat)
  (hx:∀E',Agree H.next E E'->es'.map (entryOf E')=es'.map (entryOf E)) :
  St B E (H.put i (.map es' c')) (zvc w (E i).blk (.map (es'.map (entryOf E)).toArray c'))/\Post E H w E (H.put i (.map es' c')) (zvc w (E i).blk (.map (es'.map (entryOf E)).toArray c'))/\(H.put i (.map es' c')).Wf :=
 zsm hw hS hg rfl hlo _ _ (fun r hr=>by rw [hS.self.map hg] at hr;cases hr) (fun x off hx=>by rw [hS.self.map hg] at hx;cases hx;rfl) fun E' hE=>by
  show (zvc w (E i).blk _).heap[(E' i).blk]? =_
  rw [hE i (hw.get_lt hg),hx E' hE];exact zld (hS.self.map hg)
theorem map_E (hw:H.Wf) (hS:St B E H w){i:Nat}{es:List (AV×AV×Nat)}{c:Nat}(hg:H.get i=some (.map es c)){E':Env}(hE:Agree H.next E E'):es.map (entryOf E')=es.map (entryOf E):=by
 have h1:=(hS E' hE).map hg;rw [hE i (hw.get_lt hg),hS.self.map hg] at h1
 simpa using h1.symm
theorem zmh (hL:LOk0 L P) (hw:H.Wf) (hS:St B E H w){t:TypeId}{m k x:AV}{H1:AH}{vm vk vx:Value}(hm:StV E H.next m vm) (hk:StV E H.next k vk) (hx:StV E H.next x vx) (h:zoa L t m k x H=some H1) :
  ∃w1,(Instr.mapUpdate t vm vk vx).run P w= .ok () w1/\St B E H1 w1/\Post E H w E H1 w1/\H1.Wf:=by
 rw [hm.self,hk.self,hx.self];unfold zoa at h;split at h
 ·next key elem i hu =>
  ·split at h
   ·next es clock hlo hg =>
    have hlo':=ble_t hlo
    ·have hent:∀E',Agree H.next E E'-> ∀b,entryOf E' (k,x,b)=entryOf E (k,x,b):=fun E' hE b=>by
      unfold entryOf;simp only;rw [← hk E' hE,← hk.self,← hx E' hE,← hx.self]
     split at h
     ·cases h
     ·next hf =>
      cases h
      have hfk:=zmi (P:=P) (w:=w) (E:=E) hL hf;refine ⟨_,?_,zoj hw hS hg hlo' (es ++ [(k,x,clock)]) (clock+1) (fun E' hE=>by simp only [qe3,map_E hw hS hg hE,qp1,qy5,hent E' hE])⟩
      unfold Instr.mapUpdate;simp only [qk,zca hL hu,qd,conc];rw [zqc (hS.self.map hg) (fun _ _ _=>by simp)]
      simp only [qk,qd,zee hL hf];rw [hfk];simp only [qp4,qd];rw [zxe (hS.self.map hg) (fun _ _ _=>by simp)]
      simp [entryOf]
     ·next j v hf =>
      obtain ⟨hj2,e,he,hse⟩:=ztx hf;split at h
      ·next e' he' =>
       rw [zcg,he] at he';cases he';split at h
       ·next es' hov =>
        cases h
        obtain ⟨ho1,ho2⟩:=(zyb _ _ _ _).1 hov;have hfk:=zmi (P:=P) (w:=w) (E:=E) hL hf;refine ⟨_,?_,zoj hw hS hg hlo' es' clock (fun E' hE=>by
         have h0:=map_E hw hS hg hE;subst ho2;simp only [qe3,qm5,qn5,h0,qp1,qy5,hent E' hE])⟩
        unfold Instr.mapUpdate;simp only [qk,zca hL hu,qd,conc];rw [zqc (hS.self.map hg) (fun _ _ _=>by simp)]
        simp only [qk,qd,zee hL hf];rw [hfk];simp only [qd4,qd,qk];have hold:(((es.map (entryOf E)).toArray[j]?).map (·.key)).getD (conc E k)=conc E e.1:=by simp [he,entryOf]
        rw [hold];unfold Instr.keyThatStays;rw [qj (hse E)];simp only [qt,qd];rw [zxe (hS.self.map hg) (fun _ _ _=>by simp)]
        congr 3
        refine qw6 fun q=> ?_
        rw [Array.getElem?_modify];subst ho2;simp only [qo1,qe3,qm5,qn5,qp1,qy5];have hlt:(List.take j (es.map (entryOf E))).length=j:=by simp;omega
        by_cases hq:q=j
        ·subst hq
         rw [qg1,qw1 oM]
         simp [he,entryOf,hlt]
        ·rw [qg (qz5 hq)]
         by_cases hq2:q<j
         ·rw [qg1,qr1 oM,qa2 hq2]
         ·rw [qw1 (by simp;omega),qj2]
          congr 1
          simp;omega
       ·cases h
      ·cases h
   ·cases h
 ·cases h
end
section
variable {L:Lk}{P:Program}{w:World}{E:Env}{B:Nat}{H:AH}
theorem zux (hL:LOk0 L P) (hw:H.Wf) (hS:St B E H w){t:TypeId}{a v:AV}{H1:AH}{ua uv:Value}(ha:StV E H.next a ua) (hv:StV E H.next v uv) (h:zyc L t a v H=some H1) :
  ∃w1,(Instr.storeAt t ua uv).run P w= .ok () w1/\St B E H1 w1/\Post E H w E H1 w1/\H1.Wf:=by
 rw [ha.self,hv.self];unfold zyc at h;split at h
 ·next i o =>
  split at h
  ·next s hs =>
   split at h
   ·next hl =>
    have hl':=qi hl;rw [Ce.len_l,toC_l] at hl';obtain ⟨w1,hr,h1,h2,h3,_⟩:=znj (P:=P) hw hS (X:=v.toC) (by rw [toC_l];exact fun E' hE=>zzr ((hv E' hE).symm.trans hv.self)) h
    rw [toC_l] at hr;refine ⟨w1,?_,h1,h2,h3⟩;unfold Instr.storeAt;simp only [conc,Instr.sureAddr,qk,qt,qd,storeVar,zlb hL hs,qo4,zab];rw [qg (by simp [zpa,hl'])]
    exact hr
   ·cases h
  ·cases h
 ·cases h
theorem znq {x:AV}{n:Nat}(h:lenOf x=some n):(Builtin.lenOf (conc E x)).run P w= .ok n w:=by
 unfold lenOf at h;split at h<;>first
  |(cases h;rfl)
  |(split at h<;>first
   |(next hk=>obtain ⟨d,rfl,rfl⟩:=zko hk;cases h;rfl)
   |cases h)
  |cases h
theorem zpg (hR:HRel B E H w){z n:Nat}{x:AV}{l:Ce}(h:zhb z x n H=some l):(Builtin.firstCells z n (conc E x)).run P w= .ok (concL E l.l).toArray w:=by
 unfold zhb at h;split at h
 ·split at h
  ·cases h;rfl
  ·cases h
 ·exact hR.read (P:=P) (zmj h)
 ·next s =>
  split at h
  case h_2=>cases h
  split at h
  case h_2=>cases h
  next xs hxs =>
  cases h
  rw [Ce.of_l];obtain ⟨h1,h2⟩:=(zdk _ _ _).1 hxs;subst h2;simp only [conc,Builtin.firstCells,qt];congr 1;rw [zno,zkd];apply qd7;simp [ByteArray.data_extract,qm5,Function.comp_def,conc,List.extract_eq_take_drop]
 ·split at h
  ·next hk =>
   simp only [qm] at hk;obtain ⟨d,rfl,rfl⟩:=zko (Bool.and_eq_true_iff.2 ⟨hk.1,hk.2.1⟩);have hn:=qi hk.2.2;subst hn;cases h;simp only [conc,Builtin.firstCells,ql4];rfl
  ·cases h
 ·cases h
theorem zoq {z n:Nat}{x:AV}{l:Ce}(h:zhb z x n H=some l):l.l.length=n*z:=by
 unfold zhb at h;split at h
 ·split at h
  ·next hn=>cases h;rw [qi hn];simp [Ce.l]
  ·cases h
 ·have h:=zmj h
  unfold AH.read at h;split at h
  ·exact (zcf h).1
  ·cases h
 ·split at h
  ·next hz =>
   have:=qi hz;subst this;split at h
   ·next xs hxs =>
    cases h
    rw [Ce.of_l];obtain ⟨h1,h2⟩:=(zdk _ _ _).1 hxs;subst h2;rw [qd1];omega
   ·cases h
  ·cases h
 ·split at h
  ·next hk =>
   simp only [qm] at hk;cases h;rw [qi hk.2.2];simp [Ce.l]
  ·cases h
 ·cases h
theorem zwo (hw:H.Wf) (hS:St B E H w){z n:Nat}{x:AV}{l:Ce}{P:Program}(hx:∀E',Agree H.next E E'->conc E' x=conc E x) (h:zhb z x n H=some l){E':Env}(hE:Agree H.next E E'):concL E' l.l=concL E l.l:=by
 have h1:=zpg (P:=P) (w:=w) hS.self h;have h2:=zpg (P:=P) (w:=w) (hS E' hE) h;rw [hx E' hE,h1] at h2
 simpa using h2.symm
theorem read_E (hS:St B E H w) (P:Program){i o n:Nat}{l:List AV}(hi:i<H.next) (h:H.read i o n=some l){E':Env}(hE:Agree H.next E E'):concL E' l=concL E l:=by
 have h1:=hS.self.read (P:=P) h;have h2:=(hS E' hE).read (P:=P) h;rw [show cA E' i o=cA E i o from by unfold cA;rw [hE i hi],h1] at h2
 simpa using h2.symm
theorem zzg1 (hw:H.Wf) (hS:St B E H w){i:Nat}{b0:ABlk}(hg0:H.get i=some b0) (hown:b0.own=true) (hlo:H.lo<=i) (b:ABlk) (o:Obj) (x:EB) (hxb:x.blk=(E i).blk) (hk:∀r,w.heap[(E i).blk]? =some (.loop r)-> ∃r',o= .loop r') (hz:∀x off,w.heap[(E i).blk]? =some x->objFz o off=objFz x off)
  (hb:∀E',Agree H.next E E'->E' H.next=x->BRel E' H.next b (zvc w (E i).blk o)) :
  St B (E.add H.next x) ((H.drop i).new b) (zvc w (E i).blk o)/\Post E H w (E.add H.next x) ((H.drop i).new b) (zvc w (E i).blk o)/\((H.drop i).new b).Wf:=by
 have hvis:=(AH.get_some.1 hg0).1;have hlt:=hw.get_lt hg0;have hwd:(H.drop i).Wf:=AH.put_wf hw hlt _;have hnx:(H.drop i).next=H.next:=rfl;have hget:∀j,((H.drop i).new b).get j=if j=H.next then some b else if j=i then some .defd else H.get j:=fun j=>by
  rw [AH.new_get hwd,hnx];split
  ·rfl
  ·exact AH.put_get hvis _ j
 have hl0:b0.live=true:=by cases b0<;>first|rfl|(simp [ABlk.own] at hown)
 refine ⟨fun E' hE=> ?_,?_,AH.new_wf hwd b⟩
 ·have hA:Agree H.next E E':=(Env.add_agree E H.next _).trans hE (qv3 _)
  have hn:E' H.next=x:=(hE H.next (qc1 _)).trans (Env.add_self _ _ _);have hei:E' i=E i:=hA i hlt;have r:=hS E' hA;refine ⟨fun j c hg=> ?_,fun j k c d hj hk hne hc hd=> ?_,fun j c hg hc=> ?_,by rw [zwe];exact r.size⟩
  ·rw [hget] at hg
   split at hg
   ·next h=>subst h;cases hg;exact hb E' hA hn
   ·split at hg
    ·cases hg;trivial
    ·next h1 h2 =>
     refine (r.blk j c hg).congr fun hl=>zmg ?_
     rw [← hei];exact r.inj i j b0 c hg0 hg (qz5 h2) hown hl
  ·rw [hget] at hj hk
   have hlc:c.live=true:=by cases c<;>first|rfl|(simp [ABlk.own] at hc)
   split at hj
   ·next h1 =>
    subst h1;rw [qg (qz5 hne)] at hk;split at hk
    ·cases hk;cases hd
    ·next h2=>rw [hn,hxb,← hei];exact r.inj i k b0 d hg0 hk (qz5 h2) hown hd
   ·split at hj
    ·cases hj;cases hc
    ·next h1 h2 =>
     split at hk
     ·next h3 =>
      subst h3;rw [hn,hxb,← hei];exact (r.inj i j b0 c hg0 hj (qz5 h2) hown hlc).symm
     ·split at hk
      ·cases hk;cases hd
      ·exact r.inj j k c d hj hk hne hc hd
  ·rw [hget] at hg
   split at hg
   ·next h=>subst h;rw [hn,hxb,← hei];exact r.base i b0 hg0 hown
   ·split at hg
    ·cases hg;cases hc
    ·exact r.base j c hg hc
 ·refine ⟨Env.add_agree _ _ _,qv3 _,rfl,rfl,rfl,rfl,rfl,by rw [zwe];exact qn _,fun c hc hn=> ?_,fun c ho=> ?_,fun j hj=> ?_,zgk hk,fun h=>⟨h,zji hz⟩,fun c ho=> ?_,qn _⟩
  ·refine zmg ?_
   rintro rfl;exact hn ⟨i,b0,hg0,hown,hlo,rfl⟩
  ·obtain ⟨j,d,hg,hd,hl,he⟩:=ho
   left
   rw [hget] at hg;split at hg
   ·next h=>subst h;rw [Env.add_self,hxb] at he;exact ⟨i,b0,hg0,hown,hlo,he⟩
   ·split at hg
    ·cases hg;cases hd
    ·exact ⟨j,d,hg,hd,hl,by rw [← he,Env.add_agree E H.next x j (hw.get_lt hg)]⟩
  ·show ((H.tree.set i .defd).set H.next b).get j=_
   rw [Tr.get_set,qg,Tr.get_set,qg]
   ·rintro rfl
    rcases hj with hj|hj
    ·omega
    ·rw [hvis] at hj;cases hj
   ·rintro rfl
    rcases hj with hj|hj
    ·exact absurd hw.lo oM
    ·rw [hw.vis_ge (qn _)] at hj;cases hj
  ·obtain ⟨j,d,hg,hd,he⟩:=ho
   left
   rw [hget] at hg;split at hg
   ·next h=>subst h;rw [Env.add_self,hxb] at he;exact ⟨i,b0,hg0,hl0,he⟩
   ·split at hg
    ·cases hg;cases hd
    ·exact ⟨j,d,hg,hd,by rw [← he,Env.add_agree E H.next x j (hw.get_lt hg)]⟩
theorem zpc1 (z:Array Value) (n:Nat):(Builtin.zeroCells z n).size=n*z.size:=by
 unfold Builtin.zeroCells;simp
theorem zqg (n:Nat):(askRoom n).run P w= .ok () w:=by
 unfold askRoom;simp only [qo4];split
 ·rfl
 ·rfl
theorem zqd {zs:List AV}(n:Nat):Builtin.zeroCells (concL E zs).toArray n=(concL E (rep zs n)).toArray:=by
 have h:=zxm (E:=E) (zs:=zs) rfl n;unfold Builtin.zeroCells;by_cases hn:n*zs.length=0
 ·simp only [qj hn] at h
  rw [← h,hn];simp [zpa,hn]
 ·simp only [qg hn] at h
  rw [← h];simp [zpa]
def zqk1 (P:Program) (w:World) (d':TypeDesc) (b z n:Nat) (zc:Array Value) (x:Value) (new:Array Value):Prop :=
 ((d'= .string\/ ∃e',d'= .slice e')/\(Builtin.lenOf x).run P w= .ok n w/\ ∀w',w'.heap=w.heap->(Builtin.firstCells z n x).run P w'= .ok new w')
 \/((∃k,d'= .int k)/\x= .int .i64 (.ofNat n)/\n*b<=140737488355328/\n<=9223372036854775807/\zc.size=z/\new=Builtin.zeroCells zc n)
theorem wrap_i64 {n:Nat}(h:n<=9223372036854775807):IntKind.i64.wrap (n:Int)=(n:Int):=by rw [IntKind.wrap_i64];omega
theorem znh (zc:Array Value){n:Nat}(h:n*zc.size=0):Builtin.zeroCells zc n= #[]:=by
 unfold Builtin.zeroCells;rw [h];simp
theorem ziv (hL:LOk0 L P){e:TypeId}{zv:AV}(hzv:L.zero e=some zv):∀u∈concL (fun _=>⟨0,0,0⟩) zv.cells,FlatV u:=by
 intro u hu;obtain ⟨j,hj⟩:=qz.1 hu;rw [zma?] at hj;cases hz:zv.cells[j]? with
 |none=>rw [hz] at hj;cases hj
 |some v =>
  rw [hz] at hj;refine ⟨v,fun E=> ?_⟩
  have h1:=zjk hL hzv E (fun _=>⟨0,0,0⟩)
  have h2:(concL E zv.cells)[j]? =(concL (fun _=>⟨0,0,0⟩) zv.cells)[j]? :=by rw [h1]
  rw [zma?,zma?,hz] at h2;exact (qr3 h2).trans (qr3 hj)
theorem zan (hL:LOk0 L P){e:TypeId}{zv:AV}(hzv:L.zero e=some zv) (n:Nat):∀u∈(Builtin.zeroCells (concL (fun _=>⟨0,0,0⟩) zv.cells).toArray n).toList,FlatV u:=by
 intro u hu;rw [zqd] at hu;simp only [List.mem_toArray,Array.toList] at hu;have hmem:∀n,u∈concL (fun _=>⟨0,0,0⟩) (rep zv.cells n)->u∈concL (fun _=>⟨0,0,0⟩) zv.cells:=by
  intro n
  induction n with
  |zero=>intro h;cases h
  |succ n ih =>
   intro h;rw [zgi,zkc,qs2] at h;exact h.elim id ih
 exact ziv hL hzv u (hmem n hu)
theorem zvx (hL:LOk0 L P){e:TypeId}{z b:Nat}{zv:AV}(hz:L.size e=some z) (hb:L.bytes e=some b) (hzv:L.zero e=some zv) (hzl:zv.cells.length=z)
  {ts:Array TypeId}{ty t t':TypeId}(ht:ts[0]? =some t) (ht':ts[1]? =some t') (hu:L.under t=some (.slice e)){d':TypeDesc}(hu':L.under t'=some d')
  {x:Value}{base:Option Addr}{l c n:Nat}{old new:Array Value}{rest':List Value}(hsrc:zqk1 P w d' b z n (concL (fun _=>⟨0,0,0⟩) zv.cells).toArray x new) (hg:c<l+n)
  (h63:l+n<=9223372036854775807) (hby:(l+n)*b<=140737488355328)
  (hold:∀w',w'.heap=w.heap->(Builtin.firstCells z l (.slice base l c)).run P w'= .ok old w') :
  ∃ex,∃rest:List Value,rest.length=ex*z/\(∀u∈rest,FlatV u) /\
   (Builtin.append_ ts ty (.slice base l c::x::rest').toArray).run P w= .ok (.slice (some ⟨w.heap.size,0,none⟩) (l+n) (l+n+ex)) (wNew w.drew (.cells ((old ++ new).toList ++ rest).toArray e)):=by
 obtain ⟨i,hi,hib⟩:∃i,L.info e=some i/\i.bytes=b:=by
  unfold Lk.bytes at hb;split at hb
  ·next i hi=>cases hb;exact ⟨i,hi,rfl⟩
  ·cases hb
 refine ⟨w.tape w.drawn (.appendCap (l+n) c e)%(2 ^ 63 - (l+n)),(Builtin.zeroCells (concL (fun _=>⟨0,0,0⟩) zv.cells).toArray (w.tape w.drawn (.appendCap (l+n) c e)%(2 ^ 63 - (l+n)))).toList,?_,zan hL hzv _,?_⟩
 ·simp [zpc1,zpa,hzl]
 ·have hn':¬(l+n<=c):=oM
  have h63':¬(9223372036854775807<((l:Int)+(n:Int))):=oM
  have hfit:=growslice_fits hg hby;have h48':¬(281474976710656<Builtin.nextslicecap (l+n) c*b):=oM
  have ho:=hold w.drew rfl;have hty:∀w,(typeInfo e).run P w= .ok i w:=fun w=>zef hL hi w
  have hsz:∀w,(sizeOf e).run P w= .ok z w:=fun w=>zlb hL hz w
  have hzr:∀w,(zeroValue e).run P w= .ok (conc (fun _=>⟨0,0,0⟩) zv) w:=fun w=>zbd hL hzv w
  have hu1:∀w,(underlying t).run P w= .ok (.slice e) w:=fun w=>zca hL hu w
  have hu2:∀w,(underlying t').run P w= .ok d' w:=fun w=>zca hL hu' w
  have hcut:(Question.appendCap (l+n) c e).cut (w.tape w.drawn (Question.appendCap (l+n) c e)) - (l+n)=w.tape w.drawn (Question.appendCap (l+n) c e)%(9223372036854775808 - (l+n)):=Nat.add_sub_cancel_left ..
  have fin:∀zs:Array Value,w.drew.alloc (Obj.cells (old ++ (new ++ zs)) e)=wNew w.drew (Obj.cells (old.toList ++ (new.toList ++ zs.toList)).toArray e):=by
   intro zs;show wNew w.drew _=_
   congr 2
   apply qd7
   simp
  rcases hsrc with ⟨hd',hn,hnew⟩|⟨⟨k,rfl⟩,rfl,hnb,hn63,hzc,hnw⟩
  ·have hw':=hnew w.drew rfl
   rcases hd' with rfl|⟨e',rfl⟩
   ·simp only [Builtin.append_,ht,ht',qo1,qq1,qg3]
    simp [hu1,hu2,hsz,hty,hzr,hn,hn',h63',hib,h48',Question.forced,ho,hw',newRow,zqg,zab];refine ⟨rfl,?_⟩;rw [hcut];exact fin _
   ·simp only [Builtin.append_,ht,ht',qo1,qq1,qg3]
    simp [hu1,hu2,hsz,hty,hzr,hn,hn',h63',hib,h48',Question.forced,ho,hw',newRow,zqg,zab];refine ⟨rfl,?_⟩;rw [hcut];exact fin _
  ·have hwrap:IntKind.i64.wrap (n:Int)=(n:Int):=wrap_i64 hn63
   have hneg:¬((n:Int)<0):=oM
   have hbn:¬((n:Int)*(b:Int)>281474976710656):=by
    have:((n*b:Nat):Int)<=140737488355328:=Int.ofNat_le.mpr hnb
    push_cast at this
    omega
   simp only [Builtin.append_,ht,ht',qo1,qq1,qg3];by_cases h0:n*z=0
   ·have hne:new= #[]:=by rw [hnw];exact znh _ (by rw [hzc];exact h0)
    subst hne;simp [hu1,hu2,hsz,hty,hzr,hn',h63',hib,h48',Question.forced,ho,newRow,zqg,zab,asInt,asIntOf,hwrap,hneg,hbn,h0];refine ⟨rfl,?_⟩;rw [hcut];have:=fin (Builtin.zeroCells (concL (fun x=>⟨0,0,0⟩) zv.cells).toArray (w.tape w.drawn (Question.appendCap (l+n) c e)%(9223372036854775808 - (l+n))))
    simpa using this
   ·subst hnw
    simp [hu1,hu2,hsz,hty,hzr,hn',h63',hib,h48',Question.forced,ho,newRow,zqg,zab,asInt,asIntOf,hwrap,hneg,hbn,h0];refine ⟨rfl,?_⟩;rw [hcut];exact fin _
theorem zpq (hL:LOk0 L P){e:TypeId}{z b:Nat}{zv:AV}(hz:L.size e=some z) (hb:L.bytes e=some b) (hzv:L.zero e=some zv)
  {ts:Array TypeId}{ty t t':TypeId}(ht:ts[0]? =some t) (ht':ts[1]? =some t') (hu:L.under t=some (.slice e)){d':TypeDesc}(hu':L.under t'=some d')
  {x:Value}{base:Option Addr}{l c n:Nat}{new:Array Value}{rest':List Value}(hsrc:zqk1 P w d' b z n (concL (fun _=>⟨0,0,0⟩) zv.cells).toArray x new) (hg:l+n<=c) :
  (Builtin.append_ ts ty (.slice base l c::x::rest').toArray).run P w =
   ((match base with|none=>(pure ():Sem Unit)|some a=>storeCells (a.add (l*z)) new.toList).run P w).andThen (fun _ w'=>Result.ok (Value.slice base (l+n) c) w'):=by
 have hsz:∀w,(sizeOf e).run P w= .ok z w:=fun w=>zlb hL hz w
 have hu1:∀w,(underlying t).run P w= .ok (.slice e) w:=fun w=>zca hL hu w
 have hu2:∀w,(underlying t').run P w= .ok d' w:=fun w=>zca hL hu' w
 obtain ⟨i,hi,hib⟩:∃i,L.info e=some i/\i.bytes=b:=by
  unfold Lk.bytes at hb;split at hb
  ·next i hi=>cases hb;exact ⟨i,hi,rfl⟩
  ·cases hb
 have hty:∀w,(typeInfo e).run P w= .ok i w:=fun w=>zef hL hi w
 have hzr:∀w,(zeroValue e).run P w= .ok (conc (fun _=>⟨0,0,0⟩) zv) w:=fun w=>zbd hL hzv w
 rcases hsrc with ⟨hd',hn,hnew⟩|⟨⟨k,rfl⟩,rfl,hnb,hn63,hzc,hnw⟩
 ·have hnew:=hnew w rfl
  rcases hd' with rfl|⟨e',rfl⟩ <;>
  ·simp only [Builtin.append_,ht,ht',qo1,qq1,qg3]
   cases base<;>simp [hu1,hu2,hsz,hn,hg,hnew]
 ·have hwrap:IntKind.i64.wrap (n:Int)=(n:Int):=wrap_i64 hn63
  have hneg:¬((n:Int)<0):=oM
  have hbn:¬((n:Int)*(b:Int)>281474976710656):=by
   have:((n*b:Nat):Int)<=140737488355328:=Int.ofNat_le.mpr hnb
   push_cast at this
   omega
  simp only [Builtin.append_,ht,ht',qo1,qq1,qg3];by_cases h0:n*z=0
  ·have hne:new= #[]:=by rw [hnw];exact znh _ (by rw [hzc];exact h0)
   subst hne;cases base<;>simp [hu1,hu2,hsz,hty,hzr,hg,hib,zab,asInt,asIntOf,hwrap,hneg,hbn,h0]
  ·subst hnw
   cases base<;>simp [hu1,hu2,hsz,hty,hzr,hg,hib,zab,asInt,asIntOf,hwrap,hneg,hbn,h0]
theorem zxo (hL:LOk0 L P) (hw:H.Wf) (hS:St B E H w){ts:Array TypeId}{ty t t':TypeId}(ht:ts[0]? =some t) (ht':ts[1]? =some t'){d':TypeDesc}(hu':L.under t'=some d')
  {e:TypeId}(hu:L.under t=some (.slice e)){z b:Nat}{zv:AV}(hz:L.size e=some z) (hb:L.bytes e=some b) (hzv:L.zero e=some zv) (hzl:zv.cells.length=z)
  {s:AV}{ux:Value}(hsE:∀E',Agree H.next E E'->conc E' s=conc E s){n:Nat}{new:Ce}(hsrc:zqk1 P w d' b z n (concL (fun _=>⟨0,0,0⟩) zv.cells).toArray ux (concL E new.l).toArray)
  (hnE:∀E',Agree H.next E E'->concL E' new.l=concL E new.l) (hone:new.l.all AV.oneCell=true) (hlen:new.l.length=n*z)
  {rest':List Value}{v:AV}{H1:AH}(h:zql e z b n new s H=some (v,H1)) :
  ∃u w1,(Builtin.append_ ts ty (conc E s::ux::rest').toArray).run P w= .ok u w1/\Done B E H w v H1 u w1:=by
 have hsame:∀w',w'.heap=w.heap->HRel B E H w':=fun w' he=>by
  have r:=hS.self;exact ⟨fun i b hg=>(r.blk i b hg).congr (fun _=>by rw [he]),r.inj,r.base,by rw [he];exact r.size⟩
 unfold zql at h;split at h
 ·-- a nil slice
  split at h
  ·next hn0 =>
   have hn0':=qi hn0;subst hn0';cases h;refine ⟨_,_,?_,Done.same hw hS (v:=.nilSl) (fun _ _=>rfl)⟩
   have:=zpq (P:=P) (w:=w) hL hz hb hzv (ty:=ty) ht ht' hu hu' (base:=none) (l:=0) (c:=0) (rest':=rest') hsrc (qn _);exact this
  ·split at h
   ·cases h
   ·next hbd =>
    cases h
    obtain ⟨hb1,hb2⟩:=zik hbd;have hpos:0<n:=by
     rcases qp3 n with h0|h0
     ·subst h0;next hn0=>exact absurd hn0 (by simp)
     ·exact h0
    obtain ⟨ex,rest,hrl,hrf,hrun⟩:=zvx (P:=P) (w:=w) hL hz hb hzv hzl (ty:=ty) ht ht' hu hu' (base:=none) (l:=0) (c:=0) (old:= #[]) (rest':=rest') hsrc oM oM (by simpa using hb1)
     (fun w' _=>by simp [Builtin.firstCells])
    simp only [qu1] at hrun;refine ⟨_,_,hrun,?_⟩;have key:=zki (hw) (hS.drawn (w.drawn+1)) (vs:=new) e z true ex rest hnE (by simpa using hrl) (fun _=>hrf)
    have hcells:((#[] ++ (concL E new.l).toArray).toList ++ rest).toArray=(concL E new.l ++ rest).toArray:=by simp
    rw [hcells];refine ⟨_,fun E' hE=> ?_,key.1,(Post.drawn (w.drawn+1)).trans key.2.1,key.2.2⟩
    have:E' H.next=⟨w.heap.size,0,ex⟩:=(hE H.next (qc1 _)).trans (Env.add_self _ _ _);simp [conc,this]
 ·-- another slice
  next i o l c op =>
  split at h
  ·next hle =>
   have hle':=ble_t hle;split at h
   ·next H' hwr =>
    cases h
    obtain ⟨w1,hst,h1,h2,h3,h4⟩:=znj (P:=P) hw hS hnE hwr;have hr:=zpq (P:=P) (w:=w) hL hz hb hzv (ty:=ty) ht ht' hu hu' (base:=some (cA E i o)) (l:=l) (c:=c+(if op then (E i).extra else 0)) (rest':=rest') hsrc oM
    refine ⟨Value.slice (some (cA E i o)) (l+n) (c+(if op then (E i).extra else 0)),w1,?_,E,?_,h1,h2,h3⟩
    ·show (Builtin.append_ ts ty (Value.slice (some (cA E i o)) l (c+(if op then (E i).extra else 0))::ux::rest').toArray).run P w=_
     rw [hr];simp only [zhl];rw [hst];rfl
    ·rw [h4]
     intro E' hE;have:=hsE E' hE;simp only [conc,Value.slice.injEq] at this ⊢
     obtain ⟨e1,_,e3⟩:=this;exact ⟨e1.symm,trivial,e3.symm⟩
   ·cases h
  ·next hle =>
   split at h
   ·next old hbd hrd' =>
    have hrd:=zmj hrd';obtain ⟨hb1,hb2⟩:=zik hbd;have hgt:c<l+n:=by
     rcases qf2 c (l+n) with hh|hh
     ·exact hh
     ·rw [qh hh] at hle;cases hle
    have hi:i<H.next:=by
     unfold AH.read AH.row at hrd;split at hrd
     ·next vs hvs =>
      split at hvs
      ·next hg=>exact hw.get_lt hg
      ·cases hvs
     ·cases hrd
    have holdr:∀c',∀w',w'.heap=w.heap->(Builtin.firstCells z l (Value.slice (some (cA E i o)) l c')).run P w'= .ok (concL E old.l).toArray w':=fun c' w' he=>(hsame w' he).read (P:=P) hrd
    have holdE:∀E',Agree H.next E E'->concL E' old.l=concL E old.l:=fun E' hE=>read_E hS P hi hrd hE
    have honE:∀E',Agree H.next E E'->concL E' (Ce.app old new).l=concL E (Ce.app old new).l:=fun E' hE=>by rw [Ce.app_l,zkc,zkc,holdE E' hE,hnE E' hE]
    have grow:∀c',c'<l+n-> ∀H2:AH,H2.next=H.next->H2.Wf->St B E H2 w-> ∃u w1,(Builtin.append_ ts ty (Value.slice (some (cA E i o)) l c'::ux::rest').toArray).run P w= .ok u w1 /\
      Done B E H2 w (.sl H.next 0 (l+n) (l+n) true) (H2.new (.cells (Ce.app old new) e z true false)) u w1:=by
     intro c' hc' H2 hnx hw2 hS2;obtain ⟨ex,rest,hrl,hrf,hrun⟩:=zvx (P:=P) (w:=w) hL hz hb hzv hzl (ty:=ty) ht ht' hu hu' (base:=some (cA E i o)) (l:=l) (c:=c') (rest':=rest') hsrc hc' hb2 hb1 (holdr c');refine ⟨_,_,hrun,?_⟩;have key:=zki (hw2) (hS2.drawn (w.drawn+1)) (vs:=Ce.app old new) e z true ex rest (by rw [hnx];exact honE) (by simpa using hrl) (fun _=>hrf)
     have hcells:(((concL E old.l).toArray ++ (concL E new.l).toArray).toList ++ rest).toArray=((concL E (Ce.app old new).l) ++ rest).toArray:=by rw [Ce.app_l,zkc];simp
     rw [hcells];refine ⟨_,fun E' hE=> ?_,key.1,(Post.drawn (w.drawn+1)).trans key.2.1,key.2.2⟩
     have:E' H2.next=⟨w.heap.size,0,ex⟩:=(hE H2.next (qc1 _)).trans (Env.add_self _ _ _);rw [hnx] at this;simp [conc,this]
    split at h
    ·cases h
     have:=grow c hgt H rfl hw hS
     simpa [conc] using this
    ·split at h
     ·next vs e' z' op' ro hlo hg =>
      split at h
      ·next hcond =>
       cases h
       simp only [qm,qh4] at hcond;obtain ⟨⟨⟨⟨q1,q2⟩,q3⟩,q4⟩,q5⟩:=hcond;have q1:=qi q1;have q2:=qi q2;have q5:=qi q5;rw [Ce.len_l] at q5;subst q1 q2 q3 q4;have hlo':=ble_t hlo;show ∃u w1,(Builtin.append_ ts ty (Value.slice (some (cA E i o)) l (c+(if true=true then (E i).extra else 0))::ux::rest').toArray).run P w= .ok u w1/\_
       rw [qj rfl];by_cases hroom:l+n<=c+(E i).extra
       ·-- there is room: the old row goes on
        obtain ⟨cs,e'',fz,h1,h2,h3⟩:=hS.self.blk i _ hg;obtain ⟨hfz,hsz,hfl,hmk⟩:=h3 rfl;simp only [qc5] at hsz;have hnl:=hlen;have hmul:(l+n)*z<=(c+(E i).extra)*z:=qd2 z hroom;have hmul2:(l+n)*z=l*z+n*z:=qy4 ..
        have hmul3:(c+(E i).extra)*z=c*z+(E i).extra*z:=qy4 ..
        obtain ⟨cs',hst,hs',hj'⟩:=zjh (P:=P) (E:=E) (i:=i) (o:=o+l*z) new.l 0 w cs h1 hfz.2 (by rw [hsz];omega) hone
        have hr:=zpq (P:=P) (w:=w) hL hz hb hzv (ty:=ty) ht ht' hu hu' (base:=some (cA E i o)) (l:=l) (c:=c+(E i).extra) (rest':=rest') hsrc hroom;have hold:old.l.length=l*z/\ ∀j,j<l*z->old.l[j]? =vs.l[o+j]? /\o+j<vs.l.length:=by
         unfold AH.read AH.row at hrd;rw [hg] at hrd;exact zcf hrd
        have key:=zzg1 hw hS hg rfl hlo' (.cells (Ce.app old new) e z true false) (.cells cs' e'' fz) ⟨(E i).blk,(E i).off+o,c+(E i).extra - (l+n)⟩ rfl (fun r hr=>by rw [h1] at hr;cases hr) (fun x off hx=>by rw [h1] at hx;cases hx;rfl) (fun E' hE hn=>by
         refine ⟨cs',e'',fz,by rw [hn];exact zld h1,fun j v hv=> ?_,fun _=>⟨by rw [hs'];exact hfz,?_,fun _ j u hj hu=> ?_,by rw [hs'];exact hmk⟩⟩
         ·rw [hn]
          have hcv:(concL E (Ce.app old new).l)[j]? =some (conc E' v):=by rw [← honE E' hE,zma?,hv];rfl
          rw [Ce.app_l] at hcv hv;show cs'[(E i).off+o+j]? =_
          rw [hj'];by_cases hlt:j<l*z
          ·rw [qg oM]
           rw [zma?,qr1 (by rw [hold.1];exact hlt),(hold.2 j hlt).1] at hcv
           obtain ⟨vv,hvv⟩:∃vv,vs.l[o+j]? =some vv:=⟨_,qr (hold.2 j hlt).2⟩
           rw [hvv] at hcv;rw [show (E i).off+o+j=(E i).off+(o+j) from oM,h2 _ _ hvv]
           exact hcv
          ·have hlt2:j<l*z+new.l.length:=by
            rcases qf2 j (l*z+new.l.length) with hh|hh
            ·exact hh
            ·rw [qx1 (by rw [qy,hold.1];exact hh)] at hv;cases hv
           rw [qj oM]
           rw [zma?,qw1 (by rw [hold.1];omega),hold.1] at hcv
           rw [show (E i).off+o+j - ((E i).off+(o+l*z)+0)=j - l*z from oM]
           exact hcv
         ·rw [hn,hs',hsz,Ce.app_l,qy,hold.1,hnl]
          simp only [qc5];rw [Nat.sub_mul];omega
         ·rw [hn,Ce.app_l,qy,hold.1] at hj
          have hj:(E i).off+o+(l*z+new.l.length)<=j:=hj;rw [hj' j,qg oM] at hu
          have hcz:c*z<=(l+n)*z:=qd2 z (Nat.le_of_lt hgt);rw [hnl] at hj;exact hfl rfl j u (by rw [q5];omega) hu)
        refine ⟨Value.slice (some (cA E i o)) (l+n) (c+(E i).extra),_,?_,E.add H.next ⟨(E i).blk,(E i).off+o,c+(E i).extra - (l+n)⟩,?_,key.1,key.2.1,key.2.2⟩
        ·rw [hr]
         simp only [zhl];rw [hst];rfl
        ·intro E' hE
         have hn:E' H.next=⟨(E i).blk,(E i).off+o,c+(E i).extra - (l+n)⟩:=(hE H.next (qc1 _)).trans (Env.add_self _ _ _);simp only [conc,hn,qc5,qk4,cA];congr 1;omega
       ·-- a new row
        have dr:=zvg1 hw hS hg hlo';obtain ⟨u,w1,hr,E1,d1,d2,d3,d4⟩:=grow (c+(E i).extra) oM (H.drop i) rfl dr.2.2 dr.1
        exact ⟨u,w1,hr,E1,d1,d2,dr.2.1.trans d3,d4⟩
      ·cases h
     ·cases h
   ·cases h
 ·cases h
theorem zul (hL:LOk0 L P) (hw:H.Wf) (hS:St B E H w){ts:Array TypeId}{ty t t':TypeId}(ht:ts[0]? =some t) (ht':ts[1]? =some t'){d':TypeDesc}(hu':L.under t'=some d') (hd':d'= .string\/ ∃e',d'= .slice e')
  {s x:AV}{us ux:Value}(hs:StV E H.next s us) (hx:StV E H.next x ux){rest':List Value}{v:AV}{H1:AH}(h:zzc L t s x H=some (v,H1)) :
  ∃u w1,(Builtin.append_ ts ty (us::ux::rest').toArray).run P w= .ok u w1/\Done B E H w v H1 u w1:=by
 have hxE:∀E',Agree H.next E E'->conc E' x=conc E x:=fun E' hE=>(hx E' hE).symm.trans hx.self
 have hsE:∀E',Agree H.next E E'->conc E' s=conc E s:=fun E' hE=>(hs E' hE).symm.trans hs.self
 rw [hs.self,hx.self];unfold zzc at h;split at h
 ·next e hu =>
  split at h
  ·next z b zv n hz hb hzv hln =>
   split at h
   ·cases h
   ·next new hnew =>
    have hsame:∀w',w'.heap=w.heap->HRel B E H w':=fun w' he=>by
     have r:=hS.self;exact ⟨fun i b hg=>(r.blk i b hg).congr (fun _=>by rw [he]),r.inj,r.base,by rw [he];exact r.size⟩
    have hnewr:∀w',w'.heap=w.heap->(Builtin.firstCells z n (conc E x)).run P w'= .ok (concL E new.l).toArray w':=fun w' he=>zpg (hsame w' he) hnew
    have hnE:∀E',Agree H.next E E'->concL E' new.l=concL E new.l:=fun E' hE=>zwo (P:=P) hw hS hxE hnew hE
    split at h
    ·cases h
    ·next hone' =>
     have hone:=Ce.one_l hone';split at h
     ·cases h
     ·next hzz =>
      simp only [qt4,qr5] at hzz;have hzl:=qi hzz.2;rw [zse] at hzl;obtain ⟨u,w1,h1,h2⟩:=zxo (ty:=ty) (rest':=rest') hL hw hS ht ht' hu' hu hz hb hzv hzl hsE (.inl ⟨hd',znq (E:=E) hln,hnewr⟩) hnE hone (zoq hnew) h;exact ⟨u,w1,h1,h2⟩
  ·cases h
 ·cases h
theorem zqq (hL:LOk0 L P) (hw:H.Wf) (hS:St B E H w){ts:Array TypeId}{ty t t':TypeId}(ht:ts[0]? =some t) (ht':ts[1]? =some t'){k:IntKind}(hu':L.under t'=some (.int k))
  {s x:AV}{us ux:Value}(hs:StV E H.next s us) (hx:StV E H.next x ux){rest':List Value}{v:AV}{H1:AH}(h:zje L t s x H=some (v,H1)) :
  ∃u w1,(Builtin.append_ ts ty (us::ux::rest').toArray).run P w= .ok u w1/\Done B E H w v H1 u w1:=by
 have hsE:∀E',Agree H.next E E'->conc E' s=conc E s:=fun E' hE=>(hs E' hE).symm.trans hs.self
 rw [hs.self,hx.self];unfold zje at h;split at h
 ·next e n hu =>
  split at h
  ·next z b zv hz hb hzv =>
   split at h
   ·next hzz hbd =>
    simp only [qt4,qr5] at hzz;have hzl:=qi hzz.2;rw [zse] at hzl;obtain ⟨hb1,hb2⟩:=zik hbd;split at h
    ·cases h
    ·next hone' =>
     have hone:=Ce.one_l hone';have hz0:∀E':Env,concL E' zv.cells=concL (fun _=>⟨0,0,0⟩) zv.cells:=fun E'=>by
      have h1:=zbd (P:=P) (w:=w) (E:=E') hL hzv;have h2:=zbd (P:=P) (w:=w) (E:=fun _=>⟨0,0,0⟩) hL hzv
      rw [h1] at h2;have h3:=qj4 Value.cells (qt5 h2).1;rw [zab,zab] at h3;exact qj4 Array.toList h3
     have hzE:∀E':Env,concL E' (Ce.repC zv.cells n).l=concL (fun _=>⟨0,0,0⟩) (Ce.repC zv.cells n).l:=fun E'=>by
      rw [Ce.repC_l];have h1:=zqd (E:=E') (zs:=zv.cells) n;have h2:=zqd (E:=fun _=>⟨0,0,0⟩) (zs:=zv.cells) n
      rw [hz0 E',h2] at h1;exact (qj4 Array.toList h1).symm
     exact zxo (ty:=ty) (rest':=rest') hL hw hS ht ht' hu' hu hz hb hzv hzl hsE (.inr ⟨⟨k,rfl⟩,rfl,hb1,hb2,by simp [zpa,hzl],by rw [hzE,Ce.repC_l];exact (zqd n).symm⟩) (fun E' _=>by rw [hzE,hzE E]) hone (by rw [Ce.repC_l,zuc,hzl]) h
   ·cases h
  ·cases h
 ·cases h
end
section
variable {L:Lk}{P:Program}{w:World}{E:Env}{B:Nat}{H:AH}
theorem minN_eq (n l:Nat):minN n l=n.min l:=by
 unfold minN;cases hb:Nat.ble n l with
 |true=>have:=ble_t hb;exact (qs3 this).symm
 |false =>
  have h:¬n<=l:=fun hle=>by rw [qh hle] at hb;cases hb
  exact (Nat.min_eq_right (Nat.le_of_lt (Nat.lt_of_not_le h))).symm
theorem zqc1 (hL:LOk0 L P) (hw:H.Wf) (hS:St B E H w){ts:Array TypeId}{ty t:TypeId}(ht:ts[0]? =some t)
  {d x:AV}{ud ux:Value}(hd:StV E H.next d ud) (hx:StV E H.next x ux){rest':List Value}{v:AV}{H1:AH}(h:zho L t d x H=some (v,H1)) :
  ∃u w1,(Builtin.copy_ ts ty (ud::ux::rest').toArray).run P w= .ok u w1/\Done B E H w v H1 u w1:=by
 rw [hd.self,hx.self];have hxE:∀E',Agree H.next E E'->conc E' x=conc E x:=fun E' hE=>(hx E' hE).symm.trans hx.self
 unfold zho at h;split at h
 ·next e hu =>
  split at h
  ·next z n hz hln =>
   split at h
   ·cases h
    refine ⟨_,_,?_,Done.same hw hS (v:=.int .i64 0) (u:=.int .i64 0) (fun _ _=>rfl)⟩
    unfold Builtin.copy_;simp only [ht,qo1,qq1,qg3];have hf0:(Builtin.firstCells z 0 (conc E x)).run P w= .ok #[] w:=by
     unfold lenOf at hln;split at hln<;>first
      |(cases hln;done)
      |(cases hln;simp [Builtin.firstCells,conc,loadCells,loadCellsFrom];done)
      |(cases hln;simp [Builtin.firstCells,conc];done)
      |(split at hln<;>first
       |(cases hln;done)
       |(next hk=>obtain ⟨d,rfl,rfl⟩:=zko hk;cases hln;simp [Builtin.firstCells,conc,loadCells,loadCellsFrom];done))
    simp only [qk,zca hL hu,qd,conc,znq (E:=E) hln,zlb hL hz];rw [show n.min 0=0 from Nat.min_zero n,hf0]
    rfl
   ·next i o l c op =>
    split at h
    ·next new hnew =>
     split at h
     ·next H' hwr =>
      cases h
      have hnE:∀E',Agree H.next E E'->concL E' new.l=concL E new.l:=fun E' hE=>zwo (P:=P) hw hS hxE hnew hE
      obtain ⟨w1,hst,h1,h2,h3,h4⟩:=znj (P:=P) hw hS hnE hwr;refine ⟨.int .i64 ((minN n l:Nat):Int),w1,?_,E,fun _ _=>rfl,h1,h2,h3⟩
      rw [minN_eq] at hnew ⊢
      unfold Builtin.copy_;simp only [ht,qo1,qq1,qg3];simp only [qk,zca hL hu,qd,conc,znq (E:=E) hln,zlb hL hz,zpg (P:=P) hS.self hnew];rw [show (⟨(E i).blk,(E i).off+o,none⟩:Addr)=cA E i o from rfl,hst]
      rfl
     ·cases h
    ·cases h
   ·cases h
  ·cases h
 ·cases h
theorem zwx (hL:LOk0 L P) (hw:H.Wf) (hS:St B E H w){ts:Array TypeId}{ty t:TypeId}(ht:ts[0]? =some t)
  {x:AV}{rest':List Value}{H1:AH}(h:zyj L t x H=some H1) :
  ∃w1,(Builtin.clear_ ts ty (conc E x::rest').toArray).run P w= .ok undef w1/\St B E H1 w1/\Post E H w E H1 w1/\H1.Wf:=by
 unfold zyj at h;split at h
 ·next d hu =>
  split at h
  ·cases h
   refine ⟨w,?_,hS,Post.refl _ _ _,hw⟩;unfold Builtin.clear_;simp only [ht,qo1,qq1,qk,zca hL hu,qd,conc];rfl
  ·cases h
   refine ⟨w,?_,hS,Post.refl _ _ _,hw⟩;unfold Builtin.clear_;simp only [ht,qo1,qq1,qk,zca hL hu,qd,conc];rfl
  ·next i =>
   split at h
   ·split at h
    ·next es clock hlo hg =>
     cases h
     have hlo':=ble_t hlo;have key:=zoj hw hS hg hlo' [] clock (fun _ _=>rfl)
     refine ⟨_,?_,key⟩;unfold Builtin.clear_;simp only [ht,qo1,qq1,qk,zca hL hu,qd,conc];rw [zqc (hS.self.map hg) (fun _ _ _=>by simp)]
     simp only [qd,qk];rw [zxe (hS.self.map hg) (fun _ _ _=>by simp)]
     rfl
    ·cases h
   ·cases h
  ·next i o n c op =>
   split at h
   ·next e =>
    split at h
    ·next z hz =>
     split at h
     ·next hn =>
      cases h
      have hn':=qi hn;subst hn';refine ⟨w,?_,hS,Post.refl _ _ _,hw⟩;unfold Builtin.clear_;simp only [ht,qo1,qq1,qk,zca hL hu,qd,conc];rfl
     ·next hn =>
      have hn':n≠0:=qw4 hn;obtain ⟨w1,hst,h1,h2,h3,h4⟩:=zhk1 (P:=P) hw hS (fun E' _=>rep_E (fun A B=>zjk hL hz A B) n E' E) h
      refine ⟨w1,?_,h1,h2,h3⟩;unfold Builtin.clear_;simp only [ht,qo1,qq1,qk,zca hL hu,qd,conc];obtain ⟨m,rfl⟩:∃m,n=m+1:=⟨n - 1,oM⟩
      simp only [qk,zbd (E:=E) hL hz,qd,zab,zqd];rw [show (⟨(E i).blk,(E i).off+o,none⟩:Addr)=cA E i o from rfl,hst]
      rfl
    ·cases h
   ·cases h
  ·cases h
 ·cases h
theorem zbn {α β:Type}(f:α->β) (l:List α):∀j,(zdi l j).map f=(l.map f).eraseIdx j:=by
 induction l with
 |nil=>intro j;cases j<;>rfl
 |cons a l ih=>intro j;cases j with|zero=>rfl|succ j=>show f a::(zdi l j).map f=_;rw [ih];rfl
theorem zjv (hL:LOk0 L P) (hw:H.Wf) (hS:St B E H w){ts:Array TypeId}{ty t:TypeId}(ht:ts[0]? =some t)
  {m k:AV}{rest':List Value}{H1:AH}(h:zyf L t m k H=some H1) :
  ∃w1,(Builtin.delete_ ts ty (conc E m::conc E k::rest').toArray).run P w= .ok undef w1/\St B E H1 w1/\Post E H w E H1 w1/\H1.Wf:=by
 unfold zyf at h;split at h
 ·next key elem hu =>
  split at h
  ·split at h
   ·next r hf =>
    cases h
    refine ⟨w,?_,hS,Post.refl _ _ _,hw⟩;unfold Builtin.delete_;simp only [ht,qo1,qq1,qg3,qk,zca hL hu,qd,conc];simp only [zee hL hf,qd];rfl
   ·cases h
  ·next i =>
   split at h
   ·next es clock hlo hg =>
    have hlo':=ble_t hlo;split at h
    ·cases h
    ·next hf =>
     cases h
     have hfk:=zmi (P:=P) (w:=w) (E:=E) hL hf;have hself:zvc w (E i).blk (.map (es.map (entryOf E)).toArray clock)=w:=by
      have h0:=hS.self.map hg;have hlt:(E i).blk<w.heap.size:=(hS.self.blk i _ hg).obj rfl;unfold zvc;have he:w.heap[(E i).blk]= .map (es.map (entryOf E)).toArray clock:=by rw [qs1 hlt] at h0;exact qr3 h0
      have:w.heap.setIfInBounds (E i).blk (.map (es.map (entryOf E)).toArray clock)=w.heap:=by
       refine Array.ext (by simp) fun q hq1 hq2=> ?_
       rw [qh6 (by simpa using hq2)]
       split
       ·next hh=>subst hh;exact he.symm
       ·rfl
      rw [this]
     refine ⟨w,?_,hS,Post.refl _ _ _,hw⟩
     ·unfold Builtin.delete_
      simp only [ht,qo1,qq1,qg3,qk,zca hL hu,qd,conc];rw [zqc (hS.self.map hg) (fun _ _ _=>by simp)]
      simp only [qd,qk,zee hL hf];rw [hfk];simp only [qp4,qd,qk];rw [zxe (hS.self.map hg) (fun _ _ _=>by simp),hself]
      rfl
    ·next j v hf =>
     cases h
     obtain ⟨hj2,e,he,hse⟩:=ztx hf;have hfk:=zmi (P:=P) (w:=w) (E:=E) hL hf;have key:=zoj hw hS hg hlo' (zdi es j) clock (fun E' hE=>by
      rw [zbn,zbn,map_E hw hS hg hE])
     refine ⟨_,?_,key⟩;unfold Builtin.delete_;simp only [ht,qo1,qq1,qg3,qk,zca hL hu,qd,conc];rw [zqc (hS.self.map hg) (fun _ _ _=>by simp)]
     simp only [qd,qk,zee hL hf];rw [hfk];simp only [qd4,qd,qk];rw [zxe (hS.self.map hg) (fun _ _ _=>by simp)]
     simp only [qd];rw [zbn];have hlt:j<(es.map (entryOf E)).toArray.size:=by simp;omega
     have:(es.map (entryOf E)).toArray.eraseIdxIfInBounds j=((es.map (entryOf E)).eraseIdx j).toArray:=by
      unfold Array.eraseIdxIfInBounds;rw [dif_pos hlt];simp
     rw [this];rfl
   ·cases h
  ·cases h
 ·cases h
end
section
variable {L:Lk}{P:Program}{w:World}{E:Env}{B:Nat}{H:AH}
theorem zqb {n:Nat}{T:Tr AV}{a:Act}(hT:StT E n T a.tmps){x:Operand}{v:AV}(h:opnd T x=some v):StV E n v (a.eval x):=fun E' hE=>zlc (hT E' hE) h
theorem zrk1 {n:Nat}{T:Tr AV}{a:Act}(hT:StT E n T a.tmps){l:List Operand}{vs:List AV}(h:opnds T l=some vs):StL E n vs (l.map a.eval):=fun E' hE=>zeq (hT E' hE) h
theorem zrc1 {l:List AV}{ns:List Int}(h:numsOf l=some ns):concL E l=ns.map (Value.int .u8):=by
 rw [zkd];refine zek numOf (Value.int .u8) (conc E) (fun a b hab=> ?_) h
 unfold numOf at hab;split at hab
 ·cases hab;rfl
 ·cases hab
theorem zrq (hL:LOk0 L P) (hw:H.Wf) (hS:St B E H w){src dst:TypeId}{x v:AV}{H1:AH}{ux:Value}(hx:StV E H.next x ux) (h:zxb L src dst x H=some (v,H1)) :
  ∃u w1,(convert src dst ux).run P w= .ok u w1/\Done B E H w v H1 u w1:=by
 unfold zxb at h;split at h
 ·next s d hs hd =>
  rw [hx.self];split at h
  ·next k k' n =>
   simp only [zii] at h;cases h;refine ⟨_,_,?_,Done.same hw hS (v:=.int k (k.wrap n)) (u:=.int k (k.wrap n)) (fun _ _=>rfl)⟩
   unfold convert;simp only [qk,zca hL hs,zca hL hd,qd,conc];cases s<;>rfl
  ·split at h
   ·next e =>
    split at h
    ·next he =>
     cases h
     refine ⟨_,_,?_,Done.same hw hS (v:=.str ByteArray.empty) (u:=.string ByteArray.empty) (fun _ _=>rfl)⟩
     unfold convert;simp only [qk,zca hL hs,zca hL hd,qd,conc,zca hL he];rfl
    ·cases h
   ·cases h
  ·next i o n c op =>
   split at h
   ·next e =>
    split at h
    ·next he =>
     split at h
     ·next l hl =>
      split at h
      ·next ns hns =>
       cases h
       refine ⟨_,_,?_,Done.same hw hS (v:=.str ⟨(ns.map fun n=>UInt8.ofNat n.toNat).toArray⟩) (u:=.string ⟨(ns.map fun n=>UInt8.ofNat n.toNat).toArray⟩) (fun _ _=>rfl)⟩
       have hrd:=hS.self.read (P:=P) hl;rw [zrc1 (E:=E) hns] at hrd;show (convert src dst (Value.slice (some (cA E i o)) n _)).run P w=_
       rw [run_convert_bytes_string w src dst e _ n _ (zdf hL hs) (zdf hL he) (zdf hL hd),run_bytesToString w _ n _ ns hrd,foldl_push_bytes];simp [ByteArray.empty,ByteArray.emptyWithCapacity];rfl
      ·cases h
     ·cases h
    ·cases h
   ·cases h
  ·cases h
 ·cases h
end
def Owes (P:Program) (B:Nat) (E:Env) (H:AH) (w:World):Next1->Result Next->Prop
 | .val v H1,r=> ∃u w1,(r= .ok (.value u) w1\/(r= .ok .skip w1/\u=undef))/\Done B E H w v H1 u w1
 | .enter f args,r=> ∃us:List Value,StL E H.next args us/\r=(callFunc f us.toArray).run P w
 | .round l args,r=> ∃us:List Value,StL E H.next args us/\r=(Instr.yield (E l).blk us.toArray).run P w/\l<H.next
section
variable {L:Lk}{P:Program}{w:World}{E:Env}{B:Nat}{H:AH}
theorem zrc (hw:H.Wf) (hS:St B E H w){x:Option AV}{nx:Next1}(h:val1 x H=some nx){s:Sem Value}(hs:∀v,x=some v-> ∃u,s.run P w= .ok u w/\StV E H.next v u) :
  Owes P B E H w nx ((do pure (.value (← s)):Sem Next).run P w):=by
 unfold val1 at h;split at h
 ·next v =>
  cases h
  obtain ⟨u,hr,hu⟩:=hs v rfl;refine ⟨u,w,.inl ?_,Done.same hw hS hu⟩;simp only [qk,hr,qd,qt]
 ·cases h
theorem zcn {x:Option (AV×AH)}{nx:Next1}(h:val2 x=some nx){s:Sem Value}(hs:∀v H1,x=some (v,H1)-> ∃u w1,s.run P w= .ok u w1/\Done B E H w v H1 u w1) :
  Owes P B E H w nx ((do pure (.value (← s)):Sem Next).run P w):=by
 unfold val2 at h;split at h
 ·next p =>
  cases h
  obtain ⟨u,w1,hr,hd⟩:=hs p.1 p.2 rfl;refine ⟨u,w1,.inl ?_,hd⟩;simp only [qk,hr,qd,qt]
 ·cases h
theorem zdn {x:Option AH}{nx:Next1}(h:unit1 x=some nx){s:Sem Unit}(hs:∀H1,x=some H1-> ∃w1,s.run P w= .ok () w1/\St B E H1 w1/\Post E H w E H1 w1/\H1.Wf) :
  Owes P B E H w nx ((do s;pure .skip:Sem Next).run P w):=by
 unfold unit1 at h;split at h
 ·next H1 =>
  cases h
  obtain ⟨w1,hr,h1,h2,h3⟩:=hs H1 rfl;refine ⟨undef,w1,.inr ⟨?_,rfl⟩,E,fun _ _=>rfl,h1,h2,h3⟩
  simp only [qk,hr,qd,qt]
 ·cases h
theorem zkv (t:TypeId) (a:Addr) (s1 s2:String):(Builtin.ssaWrapNilChk_ #[t] t #[.pointer (some a),strVal s1,strVal s2]).run P w= .ok (.pointer (some a)) w:=rfl
theorem zlv (hL:LOk0 L P) (hR:HRel B E H w){t:TypeId}{v r:AV}{name:String}{f:FuncId}(h:zbq L t v name H=some (f,r)) (n:Nat) :
  (method (n+1) t (conc E v) name).run P w= .ok (f,conc E r) w:=by
 unfold zbq at h;split at h
 ·cases h
 ·next i hi =>
  split at h
  ·cases h
  ·next m hm =>
   split at h
   ·cases h
   ·next hp =>
    split at h
    ·cases h
    ·next f' pr hf =>
     split at h
     ·cases h
     ·next d hd =>
      have hm':i.methods.find? (·.name == name)=some m:=by rw [← hm];simp
      have hpe:m.path.isEmpty=true:=by
       have:m.path= #[]:=by
        apply qd7
        simpa using hp
       rw [this];rfl
      unfold method;simp only [qk,zef hL hi,qd,hm',hp,hf];unfold follow;simp only [qt,qd,qk,hpe,qc5];unfold receiverAt;simp only [qk,zca hL hd,qd];split at h
      ·cases h
       simp only [Place.get,qt,qd]
      ·split at h
       ·next x hx =>
        cases h
        simp only [Place.get,qt,qd,qk];have hl:=zum (P:=P) hL hR hx;unfold zvb at hx;split at hx
        ·simp only [conc] at hl ⊢
         simp only [zkv,qt,qd,asAddr,qk];unfold Instr.loadAt at hl;simp only [Instr.sureAddr,qk,qt,qd] at hl;rw [hl];rfl
        ·cases hx
       ·cases h
      ·cases h
      ·next h1 h2 h3 =>
       cases h
       cases d<;>first
        |exact (h3 _ rfl).elim
        |(simp only [Place.get,qt,qd])
end
end Go.Ev
