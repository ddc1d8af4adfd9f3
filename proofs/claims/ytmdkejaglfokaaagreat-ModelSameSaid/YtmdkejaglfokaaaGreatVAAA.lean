import Derived.KernelRfl
import Derived.CallsIn
import Derived.IntWalk
import Derived.Laws.World
theorem oM{p:Prop}(h:p:=by omega):p:=h
theorem dC{p:Prop}(h:p:=by decide):p:=h
theorem kR{p:Prop}(h:p:=by kernel_rfl):p:=h
abbrev qa:=@And.intro
abbrev qd:=@Go.Result.andThen_ok
abbrev qe:=@of_decide_eq_true
abbrev qf:=@of_decide_eq_false
abbrev qg:=@if_neg
abbrev qh:=@Nat.ble_eq_true_of_le
abbrev qi:=@Nat.eq_of_beq_eq_true
abbrev qj:=@if_pos
abbrev qk:=@Go.Sem.run_bind
abbrev qm:=@Bool.and_eq_true
abbrev qn:=@Nat.le_refl
abbrev qo:=@decide_eq_true
abbrev qp:=@decide_eq_false
abbrev qq:=@List.getElem?_eq_some_iff
abbrev qr:=@List.getElem?_eq_getElem
abbrev qs:=@decide_eq_true_eq
abbrev qt:=@Go.Sem.run_pure
abbrev qx:=@List.take_of_length_le
abbrev qy:=@List.length_append
abbrev qz:=@List.mem_iff_getElem?
abbrev qa1:=@Nat.lt_of_lt_of_le
abbrev qb1:=@List.all_eq_true
abbrev qc1:=@Nat.lt_succ_self
abbrev qd1:=@List.length_take
abbrev qe1:=@List.mem_cons
abbrev qf1:=@Nat.le_of_ble_eq_true
abbrev qg1:=@List.append_assoc
abbrev qh1:=@List.mem_cons_of_mem
abbrev qi1:=@List.getElem?_map
abbrev qj1:=@Bool.false_eq_true
abbrev qk1:=@List.nil_append
abbrev ql1:=@List.eq_nil_of_length_eq_zero
abbrev qm1:=@Array.getD_eq_getD_getElem?
abbrev qn1:=@List.mem_singleton
abbrev qo1:=@List.getElem?_toArray
abbrev qp1:=@List.map_cons
abbrev qq1:=@List.getElem?_cons_zero
abbrev qr1:=@List.getElem?_append_left
abbrev qs1:=@Array.getElem?_eq_getElem
abbrev qt1:=@List.mem_cons_self
abbrev qu1:=@Nat.zero_add
abbrev qw1:=@List.getElem?_append_right
abbrev qx1:=@List.getElem?_eq_none
abbrev qy1:=@List.append_nil
abbrev qz1:=@Option.some.injEq
abbrev qa2:=@List.getElem?_take_of_lt
abbrev qb2:=@List.length_drop
abbrev qc2:=@Int.ofNat_eq_natCast
abbrev qd2:=@Nat.mul_le_mul_right
abbrev qe2:=@Int.negSucc_eq
abbrev qf2:=@Nat.lt_or_ge
abbrev qg2:=@Int.toNat_natCast
abbrev qh2:=@Nat.zero_le
abbrev qi2:=@List.length_cons
abbrev qj2:=@List.getElem?_drop
abbrev qk2:=@List.cons_append
abbrev ql2:=@Bool.eq_iff_iff
abbrev qm2:=@List.length_set
abbrev qn2:=@Array.getElem?_eq_some_iff
abbrev qo2:=@Bool.true_and
abbrev qp2:=@Bool.and_self
abbrev qq2:=@Bool.false_and
abbrev qr2:=@Nat.beq_refl
abbrev qs2:=@List.mem_append
abbrev qt2:=@List.drop_zero
abbrev qu2:=@not_true_eq_false
abbrev qx2:=@Nat.le_trans
abbrev qy2:=@Array.getElem?_eq_none
abbrev qz2:=@List.cons.injEq
abbrev qa3:=@Array.getElem?_setIfInBounds
abbrev qb3:=@not_false_eq_true
abbrev qc3:=@List.mem_range
abbrev qd3:=@List.mem_map
abbrev qe3:=@List.map_append
abbrev qf3:=@Bool.eq_false_iff
abbrev qg3:=@List.getElem?_cons_succ
abbrev qh3:=@List.length_replicate
abbrev qi3:=@Option.toList_some
abbrev qj3:=@List.take_append_of_le_length
abbrev qk3:=@List.drop_drop
abbrev ql3:=@Bool.and_false
abbrev qm3:=@List.ext_getElem?
abbrev qn3:=@List.mem_of_mem_drop
abbrev qo3:=@Nat.mul_comm
abbrev qp3:=@Nat.eq_zero_or_pos
abbrev qq3:=@if_false
abbrev qr3:=@Option.some.inj
abbrev qs3:=@Nat.min_eq_left
abbrev qt3:=@List.length_map
abbrev qu3:=@decide_false
abbrev qv3:=@Nat.le_succ
abbrev qw3:=@List.drop_eq_nil_of_le
abbrev qx3:=@Bool.and_true
abbrev qy3:=@Array.getElem?_toList
abbrev qz3:=@decide_true
abbrev qa4:=@decide_eq_false_iff_not
abbrev qb4:=@Nat.not_lt_zero
abbrev qc4:=@Option.isSome_none
abbrev qd4:=@Option.map_some
abbrev qe4:=@List.nodup_cons
abbrev qf4:=@List.any_eq_true
abbrev qg4:=@List.getElem?_set_self
abbrev qh4:=@Bool.not_eq_true'
abbrev qi4:=@List.take_add_one
abbrev qj4:=@congrArg
abbrev qk4:=@Nat.add_zero
abbrev ql4:=@Nat.zero_mul
abbrev qm4:=@ByteArray.size_append
abbrev qn4:=@List.take_append_drop
abbrev qo4:=@Go.Sem.run_ite
abbrev qp4:=@Option.map_none
abbrev qq4:=@List.set_eq_take_append_cons_drop
abbrev qr4:=@List.append_of_mem
abbrev qs4:=@Nat.mod_eq_of_lt
abbrev qt4:=@Bool.or_eq_false_iff
abbrev qu4:=@Option.getD_some
abbrev qv4:=@List.not_mem_nil
abbrev qw4:=@Nat.ne_of_beq_eq_false
abbrev qx4:=@Nat.mul_one
abbrev qy4:=@Nat.add_mul
abbrev qz4:=@List.getElem?_range
abbrev qa5:=@Nat.blt_eq
abbrev qb5:=@true_and
abbrev qc5:=@if_true
abbrev qd5:=@List.mem_of_mem_take
abbrev qe5:=@List.getElem?_set_ne
abbrev qf5:=@Nat.le_succ_of_le
abbrev qg5:=@Bool.or_eq_true
abbrev qh5:=@and_true
abbrev qi5:=@List.singleton_append
abbrev qj5:=@List.take_take
abbrev qk5:=@List.eraseIdx_eq_take_drop_succ
abbrev ql5:=@Bool.not_true
abbrev qm5:=@List.map_take
abbrev qn5:=@List.map_drop
abbrev qo5:=@Bool.not_false
abbrev qp5:=@List.take_zero
abbrev qq5:=@List.drop_of_length_le
abbrev qr5:=@Bool.not_eq_false'
abbrev qs5:=@Go.step_lone_go
abbrev qt5:=@Go.Result.ok.inj
abbrev qu5:=@Nat.lt_irrefl
abbrev qv5:=@Nat.add_mul_mod_self_left
abbrev qw5:=@List.pairwise_append
abbrev qx5:=@Nat.div_eq_of_lt
abbrev qy5:=@List.map_nil
abbrev qz5:=@Ne.symm
abbrev qa6:=@Nat.add_assoc
abbrev qb6:=@Nat.mod_lt
abbrev qc6:=@List.length_nil
abbrev qd6:=@List.all_append
abbrev qe6:=@List.drop_left'
abbrev qf6:=@List.drop_append_of_le_length
abbrev qg6:=@Decidable.not_not
abbrev qh6:=@Array.getElem_setIfInBounds
abbrev qi6:=@Nat.add_mul_div_left
abbrev qj6:=@List.mem_of_getElem?
abbrev qk6:=@or_false
abbrev ql6:=@List.mem_reverse
abbrev qm6:=@List.take_length
abbrev qn6:=@List.getD_eq_getElem?_getD
abbrev qo6:=@Nat.one_mul
abbrev qp6:=@List.reverse_append
abbrev qq6:=@Array.length_toList
abbrev qr6:=@Nat.shiftRight_eq_div_pow
abbrev qs6:=@List.foldl_cons
abbrev qt6:=@List.append_eq_append_iff
abbrev qu6:=@List.drop_eq_getElem_cons
abbrev qv6:=@List.mem_or_eq_of_mem_set
abbrev qw6:=@Array.ext_getElem?
abbrev qx6:=@List.pairwise_cons
abbrev qy6:=@Nat.add_sub_cancel
abbrev qz6:=@Option.toList_none
abbrev qa7:=@Option.isSome_some
abbrev qb7:=@List.find?_range_eq_some
abbrev qc7:=@beq_iff_eq
abbrev qd7:=@Array.ext'
abbrev qe7:=@Nat.testBit_or
abbrev qf7:=@List.drop_take
abbrev qg7:=@Iff.rfl
abbrev qh7:=@Int.eq_ofNat_of_zero_le
abbrev qi7:=@List.reverse_cons
abbrev qj7:=@List.any_eq_false
abbrev qk7:=@Option.map_eq_none_iff
abbrev ql7:=@List.all_cons
abbrev qm7:=@Nat.zero_lt_succ
abbrev qn7:=@Nat.add_comm
abbrev qo7:=@Nat.sub_self
abbrev qp7:=@List.take_left'
abbrev qq7:=@Nat.pow_mul
abbrev qr7:=@Nat.mul_add
abbrev qs7:=@Prod.mk.injEq
abbrev qt7:=@List.take_add
set_option maxHeartbeats 8000000
set_option linter.unusedSimpArgs false
set_option linter.unusedVariables false
namespace Go.Ev
noncomputable section
structure Oct (α:Type) where
 a:α
 b:α
 c:α
 d:α
 e:α
 f:α
 g:α
 h:α
inductive Dg where
 |d0|d1|d2|d3|d4|d5|d6|d7
namespace Oct
def get {α:Type}(d:Dg):Oct α->α :=
 Dg.rec (motive:=fun _=>Oct α->α)
  (fun r=>r.a)
  (fun r=>r.b)
  (fun r=>r.c)
  (fun r=>r.d)
  (fun r=>r.e)
  (fun r=>r.f)
  (fun r=>r.g)
  (fun r=>r.h) d
def put {α:Type}(d:Dg):α->Oct α->Oct α :=
 Dg.rec (motive:=fun _=>α->Oct α->Oct α)
  (fun x r=>Oct.rec (motive:=fun _=>Oct α) (fun a b c d e f g h=>⟨x,b,c,d,e,f,g,h⟩) r)
  (fun x r=>Oct.rec (motive:=fun _=>Oct α) (fun a b c d e f g h=>⟨a,x,c,d,e,f,g,h⟩) r)
  (fun x r=>Oct.rec (motive:=fun _=>Oct α) (fun a b c d e f g h=>⟨a,b,x,d,e,f,g,h⟩) r)
  (fun x r=>Oct.rec (motive:=fun _=>Oct α) (fun a b c d e f g h=>⟨a,b,c,x,e,f,g,h⟩) r)
  (fun x r=>Oct.rec (motive:=fun _=>Oct α) (fun a b c d e f g h=>⟨a,b,c,d,x,f,g,h⟩) r)
  (fun x r=>Oct.rec (motive:=fun _=>Oct α) (fun a b c d e f g h=>⟨a,b,c,d,e,x,g,h⟩) r)
  (fun x r=>Oct.rec (motive:=fun _=>Oct α) (fun a b c d e f g h=>⟨a,b,c,d,e,f,x,h⟩) r)
  (fun x r=>Oct.rec (motive:=fun _=>Oct α) (fun a b c d e f g h=>⟨a,b,c,d,e,f,g,x⟩) r) d
def putF {α:Type}(d:Dg):Oct α->Oct (Oct α)->Oct (Oct α) :=
 Dg.rec (motive:=fun _=>Oct α->Oct (Oct α)->Oct (Oct α))
  (fun x r=>Oct.rec (motive:=fun _=>Oct (Oct α)) (fun p q s t u v w y=>Oct.rec (motive:=fun _=>Oct (Oct α)) (fun a b c d e f g h=>⟨⟨p,q,s,t,u,v,w,y⟩,b,c,d,e,f,g,h⟩) r) x)
  (fun x r=>Oct.rec (motive:=fun _=>Oct (Oct α)) (fun p q s t u v w y=>Oct.rec (motive:=fun _=>Oct (Oct α)) (fun a b c d e f g h=>⟨a,⟨p,q,s,t,u,v,w,y⟩,c,d,e,f,g,h⟩) r) x)
  (fun x r=>Oct.rec (motive:=fun _=>Oct (Oct α)) (fun p q s t u v w y=>Oct.rec (motive:=fun _=>Oct (Oct α)) (fun a b c d e f g h=>⟨a,b,⟨p,q,s,t,u,v,w,y⟩,d,e,f,g,h⟩) r) x)
  (fun x r=>Oct.rec (motive:=fun _=>Oct (Oct α)) (fun p q s t u v w y=>Oct.rec (motive:=fun _=>Oct (Oct α)) (fun a b c d e f g h=>⟨a,b,c,⟨p,q,s,t,u,v,w,y⟩,e,f,g,h⟩) r) x)
  (fun x r=>Oct.rec (motive:=fun _=>Oct (Oct α)) (fun p q s t u v w y=>Oct.rec (motive:=fun _=>Oct (Oct α)) (fun a b c d e f g h=>⟨a,b,c,d,⟨p,q,s,t,u,v,w,y⟩,f,g,h⟩) r) x)
  (fun x r=>Oct.rec (motive:=fun _=>Oct (Oct α)) (fun p q s t u v w y=>Oct.rec (motive:=fun _=>Oct (Oct α)) (fun a b c d e f g h=>⟨a,b,c,d,e,⟨p,q,s,t,u,v,w,y⟩,g,h⟩) r) x)
  (fun x r=>Oct.rec (motive:=fun _=>Oct (Oct α)) (fun p q s t u v w y=>Oct.rec (motive:=fun _=>Oct (Oct α)) (fun a b c d e f g h=>⟨a,b,c,d,e,f,⟨p,q,s,t,u,v,w,y⟩,h⟩) r) x)
  (fun x r=>Oct.rec (motive:=fun _=>Oct (Oct α)) (fun p q s t u v w y=>Oct.rec (motive:=fun _=>Oct (Oct α)) (fun a b c d e f g h=>⟨a,b,c,d,e,f,g,⟨p,q,s,t,u,v,w,y⟩⟩) r) x) d
def all {α:Type}(x:α):Oct α:=⟨x,x,x,x,x,x,x,x⟩
end Oct
def dg (n:Nat):Dg :=
 Nat.rec (motive:=fun _=>Dg) .d0 (fun n _=>Nat.rec (motive:=fun _=>Dg) .d1 (fun n _=>Nat.rec (motive:=fun _=>Dg) .d2 (fun n _=>Nat.rec (motive:=fun _=>Dg) .d3
  (fun n _=>Nat.rec (motive:=fun _=>Dg) .d4 (fun n _=>Nat.rec (motive:=fun _=>Dg) .d5 (fun n _=>Nat.rec (motive:=fun _=>Dg) .d6 (fun _ _=>.d7) n) n) n) n) n) n) n
structure Tr (α:Type) where
 lo:Oct (Oct (Option α))
 mid:Oct (Oct (Oct (Oct (Oct (Oct (Option α))))))
 big:List (Nat×α)
def lrec {α β:Type}(z:β) (f:α->List α->β->β) (l:List α):β:=List.rec (motive:=fun _=>β) z f l
def nrecF {α β:Type}(z:α->β) (f:Nat->(α->β)->α->β) (n:Nat):α->β:=Nat.rec (motive:=fun _=>α->β) z f n
def brec {β:Type}(f t:β) (b:Bool):β:=Bool.rec (motive:=fun _=>β) f t b
namespace Tr
variable {α:Type}
def nil:Tr α:=⟨.all (.all none),.all (.all (.all (.all (.all (.all none))))), []⟩
def getLo (x y:Dg) (t:Tr α):Option α:=Oct.get y (Oct.get x t.lo)
def zwb1 (u v w x y z:Dg) (t:Tr α):Option α:=Oct.get z (Oct.get y (Oct.get x (Oct.get w (Oct.get v (Oct.get u t.mid)))))
def getBig (k:Nat) (l:List (Nat×α)):Option α:=lrec (β:=Option α) none (fun p _ ih=>brec ih (some p.2) (Nat.beq p.1 k)) l
def get (t:Tr α) (k:Nat):Option α :=
 brec (brec (getBig k t.big)
  (zwb1 (dg (Nat.div k 32768)) (dg (Nat.mod (Nat.div k 4096) 8)) (dg (Nat.mod (Nat.div k 512) 8)) (dg (Nat.mod (Nat.div k 64) 8)) (dg (Nat.mod (Nat.div k 8) 8)) (dg (Nat.mod k 8)) t) (Nat.blt k 262144))
  (getLo (dg (Nat.div k 8)) (dg (Nat.mod k 8)) t) (Nat.blt k 64)
def ofLo (mid:Oct (Oct (Oct (Oct (Oct (Oct (Option α))))))) (big:List (Nat×α)) (lo:Oct (Oct (Option α))):Tr α :=
 Oct.rec (motive:=fun _=>Tr α) (fun a b c d e f g h=>⟨⟨a,b,c,d,e,f,g,h⟩,mid,big⟩) lo
def ofMid (lo:Oct (Oct (Option α))) (big:List (Nat×α)) (mid:Oct (Oct (Oct (Oct (Oct (Oct (Option α))))))):Tr α :=
 Oct.rec (motive:=fun _=>Tr α) (fun a b c d e f g h=>⟨lo,⟨a,b,c,d,e,f,g,h⟩,big⟩) mid
def setLo (x y:Dg) (v:α) (t:Tr α):Tr α :=
 Tr.rec (motive:=fun _=>Tr α) (fun lo mid big=>ofLo mid big (Oct.putF x (Oct.put y (some v) (Oct.get x lo)) lo)) t
def upd {β:Type}(d:Dg) (f:Oct β->Oct β) (t:Oct (Oct β)):Oct (Oct β):=Oct.putF d (f (Oct.get d t)) t
def zwj1 (u v w x y z:Dg) (a:α) (t:Tr α):Tr α :=
 Tr.rec (motive:=fun _=>Tr α) (fun lo mid big=>ofMid lo big (upd u (upd v (upd w (upd x (upd y (Oct.put z (some a)))))) mid)) t
def setBig (k:Nat) (a:α) (t:Tr α):Tr α :=
 Tr.rec (motive:=fun _=>Tr α) (fun lo mid big=>⟨lo,mid,(k,a)::big⟩) t
def set (t:Tr α) (k:Nat) (x:α):Tr α :=
 brec (brec (setBig k x t)
  (zwj1 (dg (Nat.div k 32768)) (dg (Nat.mod (Nat.div k 4096) 8)) (dg (Nat.mod (Nat.div k 512) 8)) (dg (Nat.mod (Nat.div k 64) 8)) (dg (Nat.mod (Nat.div k 8) 8)) (dg (Nat.mod k 8)) x t) (Nat.blt k 262144))
  (setLo (dg (Nat.div k 8)) (dg (Nat.mod k 8)) x t) (Nat.blt k 64)
def ofList (l:List α):Tr α :=
 lrec (β:=Nat->Tr α->Tr α) (fun _ t=>t) (fun x _ ih k t=>ih (Nat.succ k) (t.set k x)) l 0 .nil
end Tr
inductive AV where
 |bool (b:Bool)
 |int (k:IntKind) (n:Int)
 |str (s:ByteArray)
 |nilPtr
 |ptr (i o:Nat)
 |nilSl
 |sl (i o len n:Nat) (op:Bool)
 |nilMap
 |map (i:Nat)
 |fn (f:Fn) (first captured:List AV)
 |yld (i:Nat)
 |nilFn
 |ifc (t:TypeId) (v:AV)
 |nilIfc
 |agg (cs:List AV)
 |tup (vs:List AV)
 |bag (n N:Nat)
 |ext (k i o:Nat)
def AV.undef:AV:=.tup []
def bytesL (n N:Nat):List AV:=nrecF (α:=Nat) (β:=List AV) (fun _=> []) (fun _ ih N=>AV.int .u8 (.ofNat (Nat.mod N 256))::ih (Nat.div N 256)) n N
def AV.cells:AV->List AV
 | .agg cs=>cs
 | .bag n N=>Ev.bytesL n N
 |v=> [v]
def AV.oneCell:AV->Bool
 | .agg _=>false
 | .tup _=>false
 | .bag _ _=>false
 |_=>true
inductive Ce where
 |lst (l:List AV)
 |byt (n N:Nat)
inductive ABlk where
 |cells (vs:Ce) (elem:TypeId) (esz:Nat) (op ro:Bool)
 |map (es:List (AV×AV×Nat)) (clock:Nat)
 |loop (st:LoopState) (pend:Option Code) (T:Tr AV) (n:Nat) (params:List Tmp) (assign body:Code)
 |defd
 |miter (m since:Nat) (seen:List Nat) (last:Nat)
 |chan (cap:Nat) (buf:List AV)
 |glob (g:Nat) (v:AV)
structure AH where
 tree:Tr ABlk
 next:Nat
 lo:Nat
 hide:List (Nat×Nat)
 fz:Bool:=false
namespace AH
def vis (H:AH) (i:Nat):Bool:=H.hide.all fun r=>Nat.blt i r.1 || Nat.ble r.2 i
def get (H:AH) (i:Nat):Option ABlk:=match H.vis i with|true=>H.tree.get i|false=>none
def put (H:AH) (i:Nat) (b:ABlk):AH:= {H with tree:=H.tree.set i b}
def new (H:AH) (b:ABlk):AH:= {H with tree:=H.tree.set H.next b,next:=H.next+1}
def drop (H:AH) (i:Nat):AH:=H.put i .defd
end AH
structure Lk where
 func:FuncId->Option Func
 info:TypeId->Option TypeInfo
 plainEq:TypeId->Bool
 ext:FuncId->Option (List AV->AH->Option (AV×AH))
 dfn:FuncId->Bool:=fun _=>false
 zt:TypeId->Option AV:=fun _=>none
def obind {α β:Type}(x:Option α) (f:α->Option β):Option β:=match x with|some a=>f a|none=>none
namespace Lk
def under (L:Lk) (t:TypeId):Option TypeDesc :=
 match L.info t with
 |some i=>match i.desc with
  | .named _ u=>(match L.info u with|some j=>some j.desc|none=>none)
  |d=>some d
 |none=>none
end Lk
def mapO {α β:Type}(f:α->Option β) (l:List α):Option (List β) :=
 lrec (β:=Option (List β)) (some []) (fun a _ ih=>obind (f a) fun b=>obind ih fun bs=>some (b::bs)) l
def zyp:Value->Option AV
 | .bool b=>some (.bool b)
 | .int k n=>some (.int k n)
 | .string s=>some (.str s)
 | .pointer none=>some .nilPtr
 | .slice none 0 0=>some .nilSl
 | .map none=>some .nilMap
 | .nilFunc=>some .nilFn
 | .nilIface=>some .nilIfc
 | .chan none=>some (.ext 0 0 0)
 |_=>none
def ofValue:Value->Option AV
 | .agg cs=>obind (mapO zyp cs.toList) fun l=>some (.agg l)
 | .tuple cs=>obind (mapO zyp cs.toList) fun l=>some (.tup l)
 |v=>zyp v
namespace Lk
def size (L:Lk) (t:TypeId):Option Nat:=match L.info t with|some i=>some i.size|none=>none
def bytes (L:Lk) (t:TypeId):Option Nat:=match L.info t with|some i=>some i.bytes|none=>none
def zero0 (L:Lk) (t:TypeId):Option AV:=match L.info t with|some i=>(match i.zero with|some v=>ofValue v|none=>none)|none=>none
def zero (L:Lk) (t:TypeId):Option AV:=match L.zt t with|some z=>some z|none=>L.zero0 t
def isAgg (L:Lk) (t:TypeId):Option Bool :=
 match L.under t with
 |some (.struct _)=>some true
 |some (.array _ _)=>some true
 |some _=>some false
 |none=>none
end Lk
def opnd (T:Tr AV):Operand->Option AV
 | .tmp t=>(match T.get t with|some v=>some v|none=>some AV.undef)
 | .const v=>ofValue v
 | .global g=>some (.ext 2 g 0)
 | .func f=>some (.fn (.func f) [] [])
def opnds (T:Tr AV) (l:List Operand):Option (List AV):=mapO (opnd T) l
def nth {α:Type}(l:List α):Nat->Option α :=
 lrec (β:=Nat->Option α) (fun _=>none) (fun a _ ih i=>match i with|0=>some a|j+1=>ih j) l
def dropN {α:Type}(l:List α):Nat->List α :=
 lrec (β:=Nat->List α) (fun _=> []) (fun a l ih i=>match i with|0=>a::l|j+1=>ih j) l
def takeN {α:Type}(l:List α):Nat->Option (List α) :=
 lrec (β:=Nat->Option (List α)) (fun i=>match i with|0=>some []|_+1=>none)
  (fun a _ ih i=>match i with|0=>some []|j+1=>(match ih j with|some l=>some (a::l)|none=>none)) l
def over {α:Type}(xs:List α):List α->Option (List α) :=
 lrec (β:=List α->Option (List α)) (fun l=>some l)
  (fun x _ ih l=>match l with| []=>none|_::l=>(match ih l with|some l'=>some (x::l')|none=>none)) xs
def zgd {α:Type}(xs:List α) (l:List α):Nat->Option (List α) :=
 lrec (β:=Nat->Option (List α)) (fun i=>match i with|0=>over xs []|_+1=>none)
  (fun a l ih i=>match i with|0=>over xs (a::l)|j+1=>(match ih j with|some l'=>some (a::l')|none=>none)) l
def len {α:Type}(l:List α):Nat:=lrec (β:=Nat) 0 (fun _ _ n=>Nat.succ n) l
def zij {α:Type}(l:List α) (i n:Nat):Option (List α):=takeN (dropN l i) n
def rep {α:Type}(x:List α) (n:Nat):List α:=nrecF (α:=Unit) (β:=List α) (fun _=> []) (fun _ ih u=>x ++ ih u) n ()
namespace Ce
def byteAt (N i:Nat):Nat:=Nat.mod (Nat.shiftRight N (Nat.mul 8 i)) 256
def l (c:Ce):List AV:=match c with| .lst l=>l| .byt n N=>Ev.bytesL n N
def len (c:Ce):Nat:=match c with| .lst l=>Ev.len l| .byt n _=>n
def get (c:Ce) (i:Nat):Option AV:=match c with| .lst l=>nth l i| .byt n N=>brec none (some (.int .u8 (.ofNat (byteAt N i)))) (Nat.blt i n)
def byteOf (v:AV):Option Nat:=match v with| .int .u8 (.ofNat m)=>brec none (some m) (Nat.blt m 256)|_=>none
def pack (xs:List AV):Option Nat:=lrec (β:=Option Nat) (some 0) (fun a _ ih=>obind (byteOf a) fun m=>obind ih fun N=>some (Nat.add m (Nat.mul 256 N))) xs
def of (xs:List AV):Ce:=match pack xs with|some N=>.byt (Ev.len xs) N|none=>.lst xs
def pw (n:Nat):Nat:=Nat.pow 2 (Nat.mul 8 n)
def sub (c:Ce) (o n:Nat):Option Ce :=
 match c with
 | .lst l=>(match zij l o n with|some l'=>some (.lst l')|none=>none)
 | .byt m N=>brec none (some (.byt n (Nat.mod (Nat.shiftRight N (Nat.mul 8 o)) (pw n)))) (Nat.ble n (Nat.sub m o))
def overL (xs:List AV) (l:List AV) (o:Nat):Option Ce:=match zgd xs l o with|some l'=>some (.lst l')|none=>none
def over (x c:Ce) (o:Nat):Option Ce :=
 match c with
 | .lst l=>overL x.l l o
 | .byt m N=>(match x with
  | .lst xs=>overL xs (Ev.bytesL m N) o
  | .byt k X=>brec none (some (.byt m (Nat.add (Nat.add (Nat.mod N (pw o)) (Nat.mul (Nat.mod X (pw k)) (pw o))) (Nat.mul (Nat.div N (pw (Nat.add o k))) (pw (Nat.add o k)))))) (Nat.ble (Nat.add o k) m))
def join (n N m M:Nat):Ce:=.byt (Nat.add n m) (Nat.add (Nat.mod N (pw n)) (Nat.mul M (pw n)))
def app (a b:Ce):Ce :=
 match a with
 | .lst xs=>(match b with
  | .lst ys=>.lst (xs ++ ys)
  | .byt m M=>(match pack xs with|some N=>join (Ev.len xs) N m M|none=>.lst (xs ++ Ev.bytesL m M)))
 | .byt n N=>(match b with
  | .lst ys=>(match pack ys with|some M=>join n N (Ev.len ys) M|none=>.lst (Ev.bytesL n N ++ ys))
  | .byt m M=>join n N m M)
def one (c:Ce):Bool:=match c with| .lst l=>l.all AV.oneCell| .byt _ _=>true
def repC (zs:List AV) (n:Nat):Ce:=match pack zs with|some 0=>.byt (Nat.mul n (Ev.len zs)) 0|_=>.lst (rep zs n)
end Ce
def AV.toC (v:AV):Ce:=match v with| .bag n N=>.byt n N|v=>Ce.of v.cells
def Ce.toV (c:Ce):AV:=match c with| .lst l=>.agg l| .byt n N=>.bag n N
def AV.aggC (v:AV):Option Ce:=match v with| .agg cs=>some (.lst cs)| .bag n N=>some (.byt n N)|_=>none
namespace AH
def row (H:AH) (i:Nat):Option (List AV):=match H.get i with|some (.cells vs _ _ _ _)=>some vs.l|_=>none
def read (H:AH) (i o n:Nat):Option (List AV):=match H.row i with|some vs=>zij vs o n|none=>none
def read1 (H:AH) (i o:Nat):Option AV:=match H.row i with|some vs=>nth vs o|none=>none
def subC (H:AH) (i o n:Nat):Option Ce:=match H.get i with|some (.cells vs _ _ _ _)=>vs.sub o n|_=>none
def writeC (H:AH) (i o:Nat) (xs:Ce):Option AH :=
 match Nat.ble H.lo i with
 |false=>none
 |true=>match H.get i with
  |some (.cells vs e z op ro)=>(match ro with
   |true=>none
   |false=>match xs.one with
    |false=>none
    |true=>match Ce.over xs vs o with
     |some vs'=>some (H.put i (.cells vs' e z op ro))
     |none=>none)
  |_=>none
def write (H:AH) (i o:Nat) (xs:List AV):Option AH:=H.writeC i o (Ce.of xs)
end AH
def fwrap (k:IntKind) (n:Int):Int :=
 match k with
 | .i64=>(match n with
  | .ofNat m=>(match Nat.ble m 9223372036854775807 with|true=>.ofNat m|false=>IntKind.wrap .i64 n)
  | .negSucc m=>(match Nat.ble m 9223372036854775807 with|true=>.negSucc m|false=>IntKind.wrap .i64 n))
 | .u8=>(match n with
  | .ofNat m=>.ofNat (m%256)
  |_=>IntKind.wrap .u8 n)
 | .u64=>(match n with
  | .ofNat m=>.ofNat (m%18446744073709551616)
  |_=>IntKind.wrap .u64 n)
 |k=>IntKind.wrap k n
def evInt (op:BinOp) (k:IntKind) (x y:Int):Option AV :=
 match op with
 | .add=>some (.int k (fwrap k (x+y)))
 | .sub=>some (.int k (fwrap k (x - y)))
 | .mul=>some (.int k (fwrap k (x*y)))
 | .quo=>(match y == 0 with|true=>none|false=>some (.int k (fwrap k (x.tdiv y))))
 | .rem=>(match y == 0 with|true=>none|false=>some (.int k (x.tmod y)))
 | .and=>some (.int k (fwrap k (BitVec.ofInt k.bits x &&& BitVec.ofInt k.bits y).toNat))
 | .or=>some (.int k (fwrap k (BitVec.ofInt k.bits x ||| BitVec.ofInt k.bits y).toNat))
 | .xor=>some (.int k (fwrap k (BitVec.ofInt k.bits x ^^^ BitVec.ofInt k.bits y).toNat))
 | .andNot=>some (.int k (fwrap k (BitVec.ofInt k.bits x &&& ~~~BitVec.ofInt k.bits y).toNat))
 | .eql=>some (.bool (x == y))
 | .neq=>some (.bool (x != y))
 | .lss=>some (.bool (x<y))
 | .leq=>some (.bool (x<=y))
 | .gtr=>some (.bool (x>y))
 | .geq=>some (.bool (x>=y))
 |_=>none
def zyg (op:BinOp) (k:IntKind) (x y:Int):Option AV :=
 match decide (y<0) with
 |true=>none
 |false=>match op with
  | .shl=>some (.int k (fwrap k (x*2 ^ min y.toNat k.bits)))
  | .shr=>some (.int k (x.fdiv (2 ^ min y.toNat k.bits)))
  |_=>none
def lstEq (l:List UInt8):List UInt8->Bool :=
 lrec (β:=List UInt8->Bool) (fun m=>match m with| []=>true|_::_=>false)
  (fun a _ ih m=>match m with| []=>false|b::m=>brec false (ih m) (Nat.beq a.toNat b.toNat)) l
def strEq (a b:ByteArray):Bool:=lstEq a.data.toList b.data.toList
def evStr (op:BinOp) (x y:ByteArray):Option AV :=
 match op with
 | .add=>(match Nat.ble (x.size+y.size) 9223372036854775807 with|true=>some (.str (x ++ y))|false=>none)
 | .eql=>some (.bool (strEq x y))
 | .neq=>some (.bool (!(strEq x y)))
 | .lss=>some (.bool (Op.bytesLess x.toList y.toList))
 | .leq=>some (.bool (Op.bytesLess x.toList y.toList || x.toList == y.toList))
 | .gtr=>some (.bool (!(Op.bytesLess x.toList y.toList || x.toList == y.toList)))
 | .geq=>some (.bool (!(Op.bytesLess x.toList y.toList)))
 |_=>none
def ztc (L:Lk) (t:TypeId) (cs:Ce) (off:Nat):Option AV :=
 match L.isAgg t with
 |some true=>(match L.size t with|some s=>(match cs.sub off s with|some l=>some l.toV|none=>none)|none=>none)
 |some false=>cs.get off
 |none=>none
def zxf (eq:AV->AV->Option Bool) (px py:Nat->Option AV) (s n:Nat):Nat->Option Bool :=
 nrecF (α:=Nat) (β:=Option Bool) (fun _=>some true) (fun _ go i =>
  match px (i*s),py (i*s) with
  |some a,some b=>(match eq a b with
   |some true=>go (i+1)
   |r=>r)
  |_,_=>none) n
def zsw (agg:Option Bool) (s:Nat) (t0:Option Bool) (n:Nat) (xs ys:Ce):Option Bool :=
 match agg,t0,xs,ys with
 |some false,some true,.byt a N,.byt b M=>(match Nat.beq s 1 && (Nat.beq a n && Nat.beq b n) with
  |true=>some (Nat.beq (Nat.mod N (Ce.pw n)) (Nat.mod M (Ce.pw n)))
  |false=>none)
 |_,_,_,_=>none
def evEq (L:Lk) (depth:Nat):TypeId->AV->AV->Option Bool :=
 nrecF (α:=TypeId) (β:=AV->AV->Option Bool) (fun _ _ _=>none)
  (fun _ ih t x y =>
   match L.under t with
   |none=>none
   |some d=>match d with
    | .bool=>(match x,y with| .bool a,.bool b=>some (a == b)|_,_=>none)
    | .int _=>(match x,y with| .int k a,.int k' b=>(match decide (k=k') with|true=>some (a == b)|false=>none)|_,_=>none)
    | .string=>(match x,y with| .str a,.str b=>some (strEq a b)|_,_=>none)
    | .pointer e=>(match x,y with
     | .nilPtr,.nilPtr=>some true
     | .nilPtr,.ptr _ _=>some false
     | .ptr _ _,.nilPtr=>some false
     | .ptr i o,.ptr j p=>(match Nat.beq i j,L.size e with
      |true,some s=>(match Nat.beq s 0 with|true=>none|false=>some (Nat.beq o p))
      |_,_=>none)
     |_,_=>none)
    | .interface _=>(match x,y with
     | .nilIfc,.nilIfc=>some true
     | .nilIfc,.ifc _ _=>some false
     | .ifc _ _,.nilIfc=>some false
     | .ifc tx vx,.ifc ty vy=>(match Nat.beq tx ty with
      |false=>some false
      |true=>match L.info tx with
       |some i=>(match i.comparable with|true=>ih tx vx vy|false=>none)
       |none=>none)
     |_,_=>none)
    | .struct fs=>(match L.plainEq t with
     |false=>none
     |true=>match x.aggC,y.aggC with
      |some xs,some ys =>
       lrec (β:=Option Bool) (some true) (fun f _ go =>
        match f.name == "_" with
        |true=>go
        |false=>match ztc L f.type xs f.offset,ztc L f.type ys f.offset with
         |some a,some b=>(match ih f.type a b with
          |some true=>go
          |r=>r)
         |_,_=>none) fs.toList
      |_,_=>none)
    | .array n e=>(match x.aggC,y.aggC with
     |some xs,some ys=>(match L.size e with
      |some s=>(match zsw (L.isAgg e) s (ih e (.int .u8 0) (.int .u8 0)) n xs ys with
       |some r=>some r
       |none=>zxf (ih e) (ztc L e xs) (ztc L e ys) s n 0)
      |none=>none)
     |_,_=>none)
    | .slice _=>(match x,y with
     | .nilSl,.nilSl=>some true
     | .nilSl,.sl _ _ _ _ _=>some false
     | .sl _ _ _ _ _,.nilSl=>some false
     | .nilSl,.ext k _ o=>(match Nat.beq k 1 && Nat.ble 1 o with|true=>some false|false=>none)
     | .ext k _ o,.nilSl=>(match Nat.beq k 1 && Nat.ble 1 o with|true=>some false|false=>none)
     |_,_=>none)
    | .map _ _=>(match x,y with
     | .nilMap,.nilMap=>some true
     | .nilMap,.map _=>some false
     | .map _,.nilMap=>some false
     |_,_=>none)
    | .func _ _ _=>(match x,y with
     | .nilFn,.nilFn=>some true
     | .nilFn,.fn _ _ _=>some false
     | .fn _ _ _,.nilFn=>some false
     | .nilFn,.yld _=>some false
     | .yld _,.nilFn=>some false
     |_,_=>none)
    |_=>none) depth
def zol:Operand->Bool| .const _=>true|_=>false
def evBin (L:Lk) (op:BinOp) (t:TypeId) (xo yo:Operand) (x y:AV):Option AV :=
 match op with
 | .shl=>(match x,y with| .int k a,.int _ b=>zyg .shl k a b|_,_=>none)
 | .shr=>(match x,y with| .int k a,.int _ b=>zyg .shr k a b|_,_=>none)
 |op=>match x,y with
  | .int k a,.int k' b=>(match decide (k=k') with|true=>evInt op k a b|false=>none)
  | .str a,.str b=>evStr op a b
  |x,y=>match op with
   | .eql| .neq =>
    (match (match x,y with
     | .nilIfc,.nilIfc=>zol xo || zol yo
     | .agg _,.agg _=>L.plainEq t
     | .agg _,.bag _ _=>L.plainEq t
     | .bag _ _,.agg _=>L.plainEq t
     | .bag _ _,.bag _ _=>L.plainEq t
     |_,_=>true) with
    |false=>none
    |true=>match evEq L 40 t x y with
     |some r=>some (.bool (match op with| .eql=>r|_=> !r))
     |none=>none)
   |_=>none
def evUn (op:UnOp) (x:AV):Option AV :=
 match op with
 | .neg=>(match x with| .int k n=>some (.int k (fwrap k (0 - n)))|_=>none)
 | .xor=>(match x with| .int k n=>evInt .xor k (if k.signed then -1 else k.max) n|_=>none)
 | .not=>(match x with| .bool b=>some (.bool (!b))|_=>none)
 |_=>none
def natOf:AV->Option Nat
 | .int _ n=>(match n with| .ofNat m=>some m| .negSucc _=>none)
 |_=>none
def fillL (place:Nat->Option (Nat×Nat)) (parts:List (Nat×AV)):List AV->Option (List AV) :=
 lrec (β:=List AV->Option (List AV)) (fun cs=>some cs)
  (fun p _ ih cs=>match place p.1 with
   |none=>none
   |some os=>match Nat.beq (len p.2.cells) os.2 with
    |false=>none
    |true=>match zgd p.2.cells cs os.1 with
     |none=>none
     |some cs'=>ih cs') parts
def bagC (v:AV):Option Ce:=match v with| .bag n N=>some (.byt n N)|_=>none
def fillC (s:Nat) (parts:List (Nat×AV)):Ce->Option Ce :=
 lrec (β:=Ce->Option Ce) (fun c=>some c)
  (fun p _ ih c=>match Nat.beq p.2.toC.len s with
    |false=>none
    |true=>match Ce.over p.2.toC c (p.1*s) with
     |none=>none
     |some c'=>ih c') parts
def zzp (s:Nat) (parts:List (Nat×AV)) (z:AV):Option AV :=
 match bagC z with
 |none=>(match fillL (fun i=>some (i*s,s)) parts z.cells with|some cs=>some (.agg cs)|none=>none)
 |some c=>(match fillC s parts c with|some c'=>some c'.toV|none=>none)
def zua (L:Lk) (t:TypeId) (parts:List (Nat×AV)):Option AV :=
 match L.zero t with
 |none=>none
 |some z=>match L.under t with
  |some (.struct fields)=>(match mapO (fun f=>match L.size f.type with|some s=>some (f.offset,s)|none=>none) fields.toList with
   |some pls=>(match fillL (nth pls) parts z.cells with
    |some cs=>some (.agg cs)
    |none=>none)
   |none=>none)
  |some (.array _ e)=>(match L.size e with
   |some s=>zzp s parts z
   |none=>none)
  |_=>none
def zsb (L:Lk) (t:TypeId) (n:Nat) (parts:List (Nat×AV)) (H:AH):Option (AV×AH) :=
 match L.under t with
 |some (.slice e)=>(match L.size e,L.zero e with
  |some s,some z=>(match Nat.ble (n*s) 16777216 && Nat.beq (len z.cells) s with
   |false=>none
   |true=>match fillL (fun i=>some (i*s,s)) parts (rep z.cells n) with
    |some cs=>some (.sl H.next 0 n n false,H.new (.cells (Ce.of cs) e s false false))
    |none=>none)
  |_,_=>none)
 |_=>none
def zvb (L:Lk) (t:TypeId) (a:AV) (H:AH):Option AV :=
 match a with
 | .ptr i o=>(match L.isAgg t with
  |some true=>(match L.size t with|some s=>(match H.subC i o s with|some c=>some c.toV|none=>none)|none=>none)
  |some false=>H.read1 i o
  |none=>none)
 |_=>none
def ldG (k g o:Nat) (H:AH):Option AV :=
 match Nat.beq k 2 && Nat.beq o 0 with
 |true=>(match H.get g with|some (.glob g' v)=>(match Nat.beq g' g with|true=>some v|false=>none)|_=>none)
 |false=>none
def zue (L:Lk) (t:TypeId) (a:AV) (H:AH):Option AV :=
 match a with
 | .ext k g o=>(match L.isAgg t with|some false=>ldG k g o H|_=>none)
 |a=>zvb L t a H
def zyc (L:Lk) (t:TypeId) (a v:AV) (H:AH):Option AH :=
 match a with
 | .ptr i o=>(match L.size t with
  |some s=>(match Nat.beq v.toC.len s with|true=>H.writeC i o v.toC|false=>none)
  |none=>none)
 |_=>none
def zpc (L:Lk) (t:TypeId) (l c:AV) (H:AH):Option (AV×AH) :=
 match L.under t with
 |some (.slice e)=>(match natOf l,natOf c,L.bytes e,L.zero e,L.size e with
  |some l,some c,some b,some z,some s =>
   (match Nat.ble l c && Nat.ble (b*c) 140737488355328 && Nat.ble c 9223372036854775807 && Nat.beq (len z.cells) s with
   |true=>some (.sl H.next 0 l c false,H.new (.cells (Ce.repC z.cells c) e s false false))
   |false=>none)
  |_,_,_,_,_=>none)
 |_=>none
def bndOf (v:Option AV) (d:Nat):Option Nat:=match v with|none=>some d|some v=>natOf v
def maxOk (mx hi:Option AV):Bool:=match mx with|none=>true|some _=>(match hi with|none=>false|some _=>true)
def offOf (m l o z:Nat):Nat:=match Nat.beq m l with|true=>o|false=>o+l*z
def zfb (L:Lk) (t:TypeId) (x:AV) (lo hi mx:Option AV):Option AV :=
 match maxOk mx hi with
 |false=>none
 |true=>match bndOf lo 0 with
 |none=>none
 |some l=>match L.under t,x with
  |some .string,.str s=>(match mx with
   |some _=>none
   |none=>match bndOf hi s.size with
    |none=>none
    |some h=>match Nat.ble l h && Nat.ble h s.size with
     |true=>some (.str (s.extract l h))
     |false=>none)
  |some (.slice e),.nilSl=>(match bndOf hi 0,bndOf mx 0,L.size e with
   |some h,some m,some _=>(match Nat.beq l 0 && Nat.beq h 0 && Nat.beq m 0 with|true=>some .nilSl|false=>none)
   |_,_,_=>none)
  |some (.slice e),.sl i o n c op=>(match L.size e with
   |none=>none
   |some z=>match bndOf hi n with
    |none=>none
    |some h=>match mx with
     |some v=>(match natOf v with
      |none=>none
      |some m=>match Nat.ble l h && Nat.ble h m && Nat.ble m c with
       |true=>some (.sl i (offOf m l o z) (h - l) (m - l) false)
       |false=>none)
     |none=>match Nat.ble l h && Nat.ble h c with
      |true=>(match op with
       |false=>some (.sl i (offOf c l o z) (h - l) (c - l) false)
       |true=>match Nat.beq c l with
        |true=>(match Nat.beq o 0 with|true=>some (.ext 1 i (c*z+1))|false=>none)
        |false=>some (.sl i (o+l*z) (h - l) (c - l) true))
      |false=>none)
  |some (.array n e),.ptr i o=>(match L.size e with
   |none=>none
   |some z=>match bndOf hi n,bndOf mx n with
    |some h,some m=>(match Nat.ble l h && Nat.ble h m && Nat.ble m n with
     |true=>some (.sl i (offOf m l o z) (h - l) (m - l) false)
     |false=>none)
    |_,_=>none)
  |_,_=>none
def zob (L:Lk) (s:TypeId) (x:AV) (f:Nat):Option AV :=
 match x with
 | .ptr i o=>(match L.under s with
  |some (.struct fields)=>(match nth fields.toList f with
   |some fd=>(match L.size fd.type with
    |some z=>(match Nat.beq z 0 with|true=>none|false=>some (.ptr i (o+fd.offset)))
    |none=>none)
   |none=>none)
  |_=>none)
 |_=>none
def zcj (L:Lk) (t:TypeId) (x:AV) (f:Nat):Option AV :=
 match x.aggC with
 |some cs=>(match L.under t with
  |some (.struct fields)=>(match nth fields.toList f with|some fd=>ztc L fd.type cs fd.offset|none=>none)
  |_=>none)
 |_=>none
def zib (L:Lk) (t:TypeId) (x ix:AV):Option AV :=
 match natOf ix with
 |none=>none
 |some j=>match L.under t,x with
  |some (.slice e),.sl i o n _ _=>(match L.size e with
   |some z=>(match Nat.blt j n with|true=>some (.ptr i (o+j*z))|false=>none)
   |none=>none)
  |some (.array n e),.ptr i o=>(match L.size e with
   |some z=>(match Nat.blt j n with|true=>some (.ptr i (o+j*z))|false=>none)
   |none=>none)
  |_,_=>none
def zvd (L:Lk) (t:TypeId) (x ix:AV):Option AV :=
 match natOf ix with
 |none=>none
 |some j=>match L.under t with
  |some (.array n e)=>(match x.aggC with
   |some cs=>(match L.size e with
    |some z=>(match Nat.blt j n with|true=>ztc L e cs (j*z)|false=>none)
    |none=>none)
   |none=>none)
  |some .string=>(match x with
   | .str s=>(match s[j]? with|some b=>some (.int .u8 b.toNat)|none=>none)
   |_=>none)
  |_=>none
def numOf:AV->Option Int
 | .int .u8 n=>some n
 |_=>none
def numsOf (l:List AV):Option (List Int):=mapO numOf l
def zxb (L:Lk) (src dst:TypeId) (x:AV) (H:AH):Option (AV×AH) :=
 match L.under src,L.under dst with
 |some s,some d=>match d,x with
  | .int k,.int _ n=>some (.int k (fwrap k n),H)
  | .string,.nilSl=>(match s with
   | .slice e=>(match L.under e with|some (.int .u8)=>some (.str ByteArray.empty,H)|_=>none)
   |_=>none)
  | .string,.sl i o n _ _=>(match s with
   | .slice e=>(match L.under e with
    |some (.int .u8)=>(match H.read i o n with
     |some l=>(match numsOf l with|some ns=>some (.str ⟨(ns.map fun n=>UInt8.ofNat n.toNat).toArray⟩,H)|none=>none)
     |none=>none)
    |_=>none)
   |_=>none)
  |_,_=>none
 |_,_=>none
def zsa (L:Lk) (t:TypeId) (x:AV):Option AV :=
 match L.under t with
 |some (.interface _)=>none
 |some _=>some (.ifc t x)
 |none=>none
def ztw (ok:Bool) (v:AV):Option AV:=some (match ok with|true=>.tup [v,.bool true]|false=>v)
def zpl (L:Lk) (t:TypeId) (ok:Bool):Option AV:=match ok with
 |true=>(match L.zero t with|some z=>some (.tup [z,.bool false])|none=>none)
 |false=>none
def zxj1 (want:Array (String×TypeId)) (got:Array Method):Bool:=want.toList.all fun p=>got.toList.any fun m=>m.name == p.1 && m.sig == p.2
def ztd (L:Lk) (x:AV) (asserted:TypeId) (ok:Bool):Option AV :=
 match L.under asserted with
 |none=>none
 |some (.interface want)=>(match x with
  | .nilIfc=>zpl L asserted ok
  | .ifc t v=>(match L.info t with
   |some i=>(match zxj1 want i.methods with|true=>ztw ok (.ifc t v)|false=>zpl L asserted ok)
   |none=>none)
  |_=>none)
 |some _=>(match x with
  | .nilIfc=>zpl L asserted ok
  | .ifc t v=>(match Nat.beq t asserted with|true=>ztw ok v|false=>zpl L asserted ok)
  |_=>none)
def zqf:TypeDesc->AV->AV->Option Bool
 | .int _,.int k a,.int k' b=>(match decide (k=k') with|true=>some (a == b)|false=>none)
 | .string,.str a,.str b=>some (a == b)
 | .bool,.bool a,.bool b=>some (a == b)
 |_,_,_=>none
def findKey (d:TypeDesc) (k:AV) (es:List (AV×AV×Nat)):Nat->Option (Option (Nat×AV)) :=
 lrec (β:=Nat->Option (Option (Nat×AV))) (fun _=>some none)
  (fun e _ ih i=>match zqf d k e.1 with
   |some true=>some (some (i,e.2.1))
   |some false=>ih (i+1)
   |none=>none) es
def zaq:AV->AV->Bool
 | .int k a,.int j b=>(match decide (k=j) with|true=>a == b|false=>false)
 | .str a,.str b=>a == b
 | .bool a,.bool b=>a == b
 |_,_=>false
def znm (xs:List AV):List AV->Bool :=
 lrec (β:=List AV->Bool) (fun ys=>match ys with| []=>true|_=>false) (fun x _ ih ys=>match ys with| []=>false|y::ys=>(match zaq x y with|true=>ih ys|false=>false)) xs
def zom (x y:AV):Bool :=
 match x,y with
 | .bag n N,.bag m M=>(match Nat.beq n m with|true=>Nat.beq N M|false=>false)
 | .agg xs,.agg ys=>znm xs ys
 | .bag n N,.agg ys=>(match Ce.pack ys with|some M=>(match Nat.beq n (len ys) with|true=>Nat.beq N M|false=>false)|none=>false)
 | .agg ys,.bag n N=>(match Ce.pack ys with|some M=>(match Nat.beq n (len ys) with|true=>Nat.beq N M|false=>false)|none=>false)
 |_,_=>false
def keyD (d:TypeDesc):Bool:=match d with| .int _=>true| .string=>true| .bool=>true|_=>false
def aggD (d:TypeDesc):Bool:=match d with| .struct _=>true| .array _ _=>true|_=>false
def keyOk (L:Lk) (d:TypeDesc) (k:AV):Bool :=
 match k.aggC with
 |none=>false
 |some cs=>match d with
  | .struct fs=>lrec (β:=Bool) true (fun f _ ih=>match L.under f.type with
   |some d=>(match keyD d with|true=>(match ztc L f.type cs f.offset with|some _=>ih|none=>false)|false=>false)
   |none=>false) fs.toList
  | .array n e=>(match L.under e,L.isAgg e,L.size e with
   |some d,some false,some s=>(match keyD d,Nat.beq s 1 with|true,true=>Nat.ble n (match cs with| .lst l=>len l| .byt m _=>m)|_,_=>false)
   |_,_,_=>false)
  |_=>false
def zuw (L:Lk) (t:TypeId) (k:AV) (es:List (AV×AV×Nat)):Nat->Option (Option (Nat×AV)) :=
 lrec (β:=Nat->Option (Option (Nat×AV))) (fun _=>some none)
  (fun e _ ih i=>match evEq L 40 t k e.1 with
   |some true=>(match zom e.1 k with|true=>some (some (i,e.2.1))|false=>none)
   |some false=>ih (i+1)
   |none=>none) es
def zrf (L:Lk) (t:TypeId) (k:AV) (es:List (AV×AV×Nat)):Option (Option (Nat×AV)) :=
 match L.under t with
 |none=>none
 |some d=>match aggD d with
  |true=>(match keyOk L d k with|true=>zuw L t k es 0|false=>none)
  |false=>(match zqf d k k with|some _=>findKey d k es 0|none=>none)
def zjb (L:Lk) (t:TypeId) (x k:AV) (ok:Bool) (H:AH):Option AV :=
 match L.under t with
 |some (.map key elem)=>(match L.zero elem with
  |some z =>
   (match (match x with
    | .nilMap=>some []
    | .map i=>(match H.get i with|some (.map es _)=>some es|_=>none)
    |_=>none) with
   |none=>none
   |some es=>match zrf L key k es with
     |none=>none
     |some r =>
      let v:=(match r with|some (_,v)=>v|none=>z)
      let b:=(match r with|some _=>true|none=>false)
      some (match ok with|true=>.tup [v,.bool b]|false=>v))
  |_=>none)
 |_=>none
def zoa (L:Lk) (t:TypeId) (m k x:AV) (H:AH):Option AH :=
 match L.under t,m with
 |some (.map key _),.map i=>(match Nat.ble H.lo i,H.get i with
   |true,some (.map es clock)=>(match zrf L key k es with
     |none=>none
     |some none=>some (H.put i (.map (es ++ [(k,x,clock)]) (clock+1)))
     |some (some (j,_))=>(match nth es j with
      |some e=>(match zgd [(k,x,e.2.2)] es j with
       |some es'=>some (H.put i (.map es' clock))
       |none=>none)
      |none=>none))
   |_,_=>none)
 |_,_=>none
def zhb (z:Nat) (x:AV) (n:Nat) (H:AH):Option Ce :=
 match x with
 | .nilSl=>(match Nat.beq n 0 with|true=>some (.lst [])|false=>none)
 | .sl i o _ _ _=>H.subC i o (n*z)
 | .str s=>(match Nat.beq z 1 with|true=>(match takeN (s.data.toList.map fun b=>AV.int .u8 b.toNat) n with|some l=>some (Ce.of l)|none=>none)|false=>none)
 | .ext k _ o=>(match Nat.beq k 1 && (Nat.ble 1 o && Nat.beq n 0) with|true=>some (.lst [])|false=>none)
 |_=>none
def lenOf:AV->Option Nat
 | .nilSl=>some 0
 | .sl _ _ n _ _=>some n
 | .str s=>some s.size
 | .ext k _ o=>(match Nat.beq k 1 && Nat.ble 1 o with|true=>some 0|false=>none)
 |_=>none
def zql (e z b n:Nat) (new:Ce) (s:AV) (H:AH):Option (AV×AH) :=
     match s with
      | .nilSl=>(match Nat.beq n 0 with
       |true=>some (.nilSl,H)
       |false=>match Nat.ble (n*b) 140737488355328 && Nat.ble n 9223372036854775807 with
        |false=>none
        |true=>some (.sl H.next 0 n n true,H.new (.cells new e z true false)))
      | .sl i o l c op=>(match Nat.ble (l+n) c with
       |true=>(match H.writeC i (o+l*z) new with
        |some H'=>some (.sl i o (l+n) c op,H')
        |none=>none)
       |false=>match Nat.ble ((l+n)*b) 140737488355328 && Nat.ble (l+n) 9223372036854775807,H.subC i o (l*z) with
        |true,some old=>(match op with
         |false=>some (.sl H.next 0 (l+n) (l+n) true,H.new (.cells (Ce.app old new) e z true false))
         |true=>match Nat.ble H.lo i,H.get i with
          |true,some (.cells vs e' z' op' ro) =>
           (match Nat.beq e e' && Nat.beq z z' && op' && !ro && Nat.beq vs.len (o+c*z) with
           |true=>some (.sl H.next 0 (l+n) (l+n) true,(H.drop i).new (.cells (Ce.app old new) e z true false))
           |false=>none)
          |_,_=>none)
        |_,_=>none)
      |_=>none
def zzc (L:Lk) (t:TypeId) (s x:AV) (H:AH):Option (AV×AH) :=
 match L.under t with
 |some (.slice e)=>(match L.size e,L.bytes e,L.zero e,lenOf x with
  |some z,some b,some zv,some n=>(match zhb z x n H with
   |none=>none
   |some new=>match new.one with
    |false=>none
    |true=>match Nat.beq z 0 || !Nat.beq (len zv.cells) z with
     |true=>none
     |false=>zql e z b n new s H)
  |_,_,_,_=>none)
 |_=>none
def zje (L:Lk) (t:TypeId) (s x:AV) (H:AH):Option (AV×AH) :=
 match L.under t,x with
 |some (.slice e),.int .i64 (.ofNat n)=>(match L.size e,L.bytes e,L.zero e with
  |some z,some b,some zv=>(match Nat.beq z 0 || !Nat.beq (len zv.cells) z,Nat.ble (n*b) 140737488355328 && Nat.ble n 9223372036854775807 with
   |false,true=>(match (Ce.repC zv.cells n).one with
     |false=>none
     |true=>zql e z b n (Ce.repC zv.cells n) s H)
   |_,_=>none)
  |_,_,_=>none)
 |_,_=>none
def minN (n l:Nat):Nat:=match Nat.ble n l with|true=>n|false=>l
def zho (L:Lk) (t:TypeId) (d x:AV) (H:AH):Option (AV×AH) :=
 match L.under t with
 |some (.slice e)=>(match L.size e,lenOf x with
  |some z,some n=>(match d with
   | .nilSl=>some (.int .i64 0,H)
   | .sl i o l _ _ =>
    (match zhb z x (minN n l) H with
    |some new=>(match H.writeC i o new with|some H'=>some (.int .i64 (minN n l),H')|none=>none)
    |none=>none)
   |_=>none)
  |_,_=>none)
 |_=>none
def xLenG (M n:Nat):Nat:=match Nat.beq (Nat.mod n 2) 0 with|true=>Nat.div n 2|false=>Nat.mod (Nat.div n 2) M
def xLen (n:Nat):Nat:=xLenG 18446744073709551616 n
def evLen (L:Lk) (t:TypeId) (x:AV) (H:AH):Option AV :=
 match L.under t with
 |some .string=>(match x with| .str s=>some (.int .i64 s.size)|_=>none)
 |some (.array n _)=>some (.int .i64 n)
 |some (.pointer a)=>(match L.under a with|some (.array n _)=>some (.int .i64 n)|_=>none)
 |some (.slice _)=>(match x with| .nilSl=>some (.int .i64 0)| .sl _ _ n _ _=>some (.int .i64 n)| .ext k _ o=>(match Nat.ble 3 k with|true=>some (.int .i64 (xLen (Nat.sub k 3)))|false=>(match Nat.beq k 1 && Nat.ble 1 o with|true=>some (.int .i64 0)|false=>none))|_=>none)
 |some (.map _ _)=>(match x with
  | .nilMap=>some (.int .i64 0)
  | .map i=>(match H.get i with|some (.map es _)=>some (.int .i64 (len es))|_=>none)
  |_=>none)
 |some (.chan _ _)=>(match x with
  | .ext k i o=>(match Nat.beq k 1 && Nat.beq o 0 with
   |true=>(match H.get i with|some (.chan _ buf)=>some (.int .i64 (len buf))|_=>none)
   |false=>none)
  |_=>none)
 |_=>none
def evCap (L:Lk) (t:TypeId) (x:AV):Option AV :=
 match L.under t with
 |some (.array n _)=>some (.int .i64 n)
 |some (.slice _)=>(match x with
  | .nilSl=>some (.int .i64 0)
  | .sl _ _ _ c op=>(match op with|false=>some (.int .i64 c)|true=>none)
  |_=>none)
 |_=>none
def zvw (x y:AV):Option AV :=
 match x,y with
 | .int k a,.int _ b=>some (.int k (if b<a then b else a))
 |_,_=>none
def zww (x y:AV):Option AV :=
 match x,y with
 | .int k a,.int _ b=>some (.int k (if a<b then b else a))
 |_,_=>none
def fold2 (f:AV->AV->Option AV) (l:List AV):AV->Option AV :=
 lrec (β:=AV->Option AV) (fun a=>some a) (fun y _ ih a=>match f a y with|some r=>ih r|none=>none) l
def zyj (L:Lk) (t:TypeId) (x:AV) (H:AH):Option AH :=
 match L.under t with
 |some d=>(match x with
  | .nilMap=>some H
  | .nilSl=>some H
  | .map i=>(match d with
   | .map _ _=>(match Nat.ble H.lo i,H.get i with
    |true,some (.map _ clock)=>some (H.put i (.map [] clock))
    |_,_=>none)
   |_=>none)
  | .sl i o n _ _=>(match d with
   | .slice e=>(match L.zero e with
    |some z=>(match Nat.beq n 0 with|true=>some H|false=>H.write i o (rep z.cells n))
    |none=>none)
   |_=>none)
  |_=>none)
 |none=>none
def zdi {α:Type}(l:List α):Nat->List α :=
 lrec (β:=Nat->List α) (fun _=> []) (fun a l ih i=>match i with|0=>l|j+1=>a::ih j) l
def zyf (L:Lk) (t:TypeId) (m k:AV) (H:AH):Option AH :=
 match L.under t with
 |some (.map key _)=>(match m with
    | .nilMap=>(match zrf L key k [] with|some _=>some H|none=>none)
    | .map i=>(match Nat.ble H.lo i,H.get i with
     |true,some (.map es clock)=>(match zrf L key k es with
      |none=>none
      |some none=>some H
      |some (some (j,_))=>some (H.put i (.map (zdi es j) clock)))
     |_,_=>none)
    |_=>none)
 |_=>none
def zpb (L:Lk) (b:Builtin) (ts:List TypeId) (args:List AV) (H:AH):Option (AV×AH) :=
 match b with
 | .len=>(match ts,args with|t::_,x::_=>(match evLen L t x H with|some v=>some (v,H)|none=>none)|_,_=>none)
 | .cap=>(match ts,args with|t::_,x::_=>(match evCap L t x with|some v=>some (v,H)|none=>none)|_,_=>none)
 | .append=>(match ts,args with
  |t::t'::_,s::x::_=>(match L.under t' with
   |some (.slice _)=>zzc L t s x H
   |some .string=>zzc L t s x H
   |some (.int _)=>zje L t s x H
   |_=>none)
  |_,_=>none)
 | .copy=>(match ts,args with|t::_,d::x::_=>zho L t d x H|_,_=>none)
 | .min=>(match args with|x::l=>(match fold2 zvw l x with|some v=>some (v,H)|none=>none)| []=>none)
 | .max=>(match args with|x::l=>(match fold2 zww l x with|some v=>some (v,H)|none=>none)| []=>none)
 | .clear=>(match ts,args with|t::_,x::_=>(match zyj L t x H with|some H'=>some (.undef,H')|none=>none)|_,_=>none)
 | .delete=>(match ts,args with|t::_,m::k::_=>(match zyf L t m k H with|some H'=>some (.undef,H')|none=>none)|_,_=>none)
 |_=>none
inductive Next1 where
 |val (v:AV) (H:AH)
 |enter (f:FuncId) (args:List AV)
 |round (l:Nat) (args:List AV)
def val1 (x:Option AV) (H:AH):Option Next1:=match x with|some v=>some (.val v H)|none=>none
def val2 (x:Option (AV×AH)):Option Next1:=match x with|some p=>some (.val p.1 p.2)|none=>none
def unit1 (x:Option AH):Option Next1:=match x with|some H=>some (.val .undef H)|none=>none
def zbq (L:Lk) (t:TypeId) (v:AV) (name:String) (H:AH):Option (FuncId×AV) :=
 match L.info t with
 |none=>none
 |some i=>match i.methods.toList.find? (·.name == name) with
  |none=>none
  |some m=>match m.path.toList with
   |_::_=>none
   | []=>match m.func with
    |none=>none
    |some (f,pr)=>match L.under t with
     |none=>none
     |some d=>match d,pr with
      | .pointer _,true=>some (f,v)
      | .pointer e,false=>(match zvb L e v H with|some x=>some (f,x)|none=>none)
      |_,true=>none
      |_,false=>some (f,v)
def zdc (g:AV) (args:List AV):Option Next1 :=
 match g with
 | .fn (.func f) first captured=>some (.enter f (first ++ args ++ captured))
 | .yld l=>some (.round l args)
 |_=>none
def zjd (L:Lk) (recv:AV) (name:String) (args:List AV) (H:AH):Option Next1 :=
 match recv with
 | .ifc t v=>(match zbq L t v name H with|some (f,r)=>some (.enter f (r::args))|none=>none)
 |_=>none
def evOp (L:Lk) (T:Tr AV) (o:Oper) (H:AH):Option Next1 :=
 match o.op with
 | .move x=>val1 (opnd T x) H
 | .assign x=>val1 (opnd T x) H
 | .pick c a b=>(match opnd T c with
  |some (.bool true)=>val1 (opnd T a) H
  |some (.bool false)=>val1 (opnd T b) H
  |_=>none)
 | .alloc e=>(match L.zero e,L.size e with
  |some z,some s=>some (.val (.ptr H.next 0) (H.new (.cells z.toC e s false false)))
  |_,_=>none)
 | .box e x=>(match opnd T x,L.size e with
  |some v,some s=>some (.val (.ptr H.next 0) (H.new (.cells v.toC e s false false)))
  |_,_=>none)
 | .build t parts=>(match mapO (fun p=>match opnd T p.2 with|some v=>some (p.1,v)|none=>none) parts.toList with
  |some ps=>val1 (zua L t ps) H
  |none=>none)
 | .buildSlice t n parts=>(match mapO (fun p=>match opnd T p.2 with|some v=>some (p.1,v)|none=>none) parts.toList with
  |some ps=>val2 (zsb L t n ps H)
  |none=>none)
 | .load t a=>(match opnd T a with|some v=>val1 (zue L t v H) H|none=>none)
 | .store t a x=>(match opnd T a,opnd T x with|some v,some u=>unit1 (zyc L t v u H)|_,_=>none)
 | .nilCheck x=>(match opnd T x with
  |some (.ptr i o)=>some (.val (.ptr i o) H)
  |some (.ifc t v)=>some (.val (.ifc t v) H)
  |some (.fn (.func f) a b)=>some (.val (.fn (.func f) a b) H)
  |some (.yld l)=>some (.val (.yld l) H)
  |_=>none)
 | .binOp op t x y _=>(match opnd T x,opnd T y with|some v,some u=>val1 (evBin L op t x y v u) H|_,_=>none)
 | .unOp op _ x=>(match opnd T x with|some v=>val1 (evUn op v) H|none=>none)
 | .convert s d x=>(match opnd T x with|some v=>val2 (zxb L s d v H)|none=>none)
 | .makeInterface t x=>(match opnd T x with|some v=>val1 (zsa L t v) H|none=>none)
 | .makeFunc fn first captured=>(match fn,opnds T first.toList,opnds T captured.toList with
  | .func f,some a,some b=>some (.val (.fn (.func f) a b) H)
  |_,_,_=>none)
 | .makeMap _ r=>(match r with
  |none=>some (.val (.map H.next) (H.new (.map [] 0)))
  |some _=>none)
 | .makeSlice t l c=>(match opnd T l,opnd T c with|some v,some u=>val2 (zpc L t v u H)|_,_=>none)
 | .slice t x lo hi mx=>(match opnd T x,mapO (opnd T) lo.toList,mapO (opnd T) hi.toList,mapO (opnd T) mx.toList with
  |some v,some a,some b,some c=>val1 (zfb L t v a.head? b.head? c.head?) H
  |_,_,_,_=>none)
 | .fieldAddr s x f=>(match opnd T x with|some v=>val1 (zob L s v f) H|none=>none)
 | .field t x f=>(match opnd T x with|some v=>val1 (zcj L t v f) H|none=>none)
 | .indexAddr t x ix=>(match opnd T x,opnd T ix with|some v,some u=>val1 (zib L t v u) H|_,_=>none)
 | .index t x ix=>(match opnd T x,opnd T ix with|some v,some u=>val1 (zvd L t v u) H|_,_=>none)
 | .lookup t x k ok=>(match opnd T x,opnd T k with|some v,some u=>val1 (zjb L t v u ok H) H|_,_=>none)
 | .mapUpdate t m k x=>(match opnd T m,opnd T k,opnd T x with|some a,some b,some c=>unit1 (zoa L t a b c H)|_,_,_=>none)
 | .insert t m k x=>(match opnd T m,opnd T k,opnd T x with|some a,some b,some c=>unit1 (zoa L t a b c H)|_,_,_=>none)
 | .typeAssert x _ asserted ok=>(match opnd T x with|some v=>val1 (ztd L v asserted ok) H|none=>none)
 | .extract x ix=>(match opnd T x with|some (.tup vs)=>val1 (nth vs ix) H|_=>none)
 | .call c=>(match opnds T c.args.toList with
  |none=>none
  |some args=>match c.callee with
   | .builtin b=>val2 (zpb L b c.argTypes.toList args H)
   | .value f=>(match opnd T f with|some g=>zdc g args|none=>none)
   | .invoke r name=>(match opnd T r with|some v=>zjd L v name args H|none=>none))
 |_=>none
inductive Ex where
 |normal
 |exit (id:Nat)
 |ret
 |goto (l:Nat)
structure Out where
 ex:Ex
 T:Tr AV
 H:AH
inductive Req where
 |call (f:FuncId) (args:List AV) (H:AH)
 |loop (body:Code) (T:Tr AV) (H:AH)
 |round (l:Nat) (args:List AV) (H:AH)
 |range (g:AV) (params:List Tmp) (assign body:Code) (T:Tr AV) (H:AH)
abbrev Rec:=Req->Option Out
def zvg (o:Out):AV:=match o.T.get 0 with|some v=>v|none=>.undef
def zva (L:Lk) (rec:Rec) (T:Tr AV) (o:Oper) (H:AH):Option (AV×AH) :=
 match evOp L T o H with
 |none=>none
 |some nx=>match nx with
  | .val v H'=>some (v,H')
  | .enter f args=>(match rec (.call f args H) with|some out=>some (zvg out,out.H)|none=>none)
  | .round l args=>(match rec (.round l args H) with|some out=>some (zvg out,out.H)|none=>none)
def putT (T:Tr AV) (d:Option Tmp) (v:AV):Tr AV:=match d with|some t=>T.set t v|none=>T
def zac (ops:List Oper) (T:Tr AV) (o:Oper):Bool :=
 match o.guard with
 |none=>true
 |some (j,want)=>match nth ops j with
  |some oj=>(match oj.dst with
   |some d=>(match T.get d with
    |some (.bool b)=>(match b,want with|true,true=>true|false,false=>true|_,_=>false)
    |_=>false)
   |none=>false)
  |none=>false
def evEnd (L:Lk) (T:Tr AV) (o:Oper) (H:AH):Option (AV×AH) :=
 match o.op with
 | .slice t x lo hi none=>(match opnd T x,mapO (opnd T) lo.toList,mapO (opnd T) hi.toList with
  |some v,some a,some b=>(match v with
   | .sl i o n c true=>(match L.under t with
    |some (.slice e)=>(match bndOf a.head? 0,bndOf b.head? n,L.size e with
     |some l,some h,some _=>(match Nat.beq l c && Nat.ble l h && Nat.ble h c with
      |true=>some (.sl H.next 0 0 0 true,{H with next:=Nat.succ H.next})
      |false=>none)
     |_,_,_=>none)
    |_=>none)
   |_=>none)
  |_,_,_=>none)
 |_=>none
def zzf (L:Lk) (rec:Rec) (T:Tr AV) (o:Oper) (H:AH):Option (AV×AH) :=
 match zva L rec T o H with
 |some r=>some r
 |none=>match evEnd L T o H with
  |some r=>some r
  |none=>none
def evOps (L:Lk) (rec:Rec) (all:List Oper) (ops:List Oper):Tr AV->AH->Option (Tr AV×AH) :=
 lrec (β:=Tr AV->AH->Option (Tr AV×AH)) (fun T H=>some (T,H))
  (fun o _ ih T H=>match zac all T o with
   |true=>(match zzf L rec T o H with
    |some r=>ih (putT T o.dst r.1) r.2
    |none=>none)
   |false=>ih (putT T o.dst .undef) H) ops
mutual
def eqV:AV->AV->Bool
 | .bool a,w=>(match w with| .bool b=>(match a,b with|true,true=>true|false,false=>true|_,_=>false)|_=>false)
 | .int k n,w=>(match w with| .int k' m=>decide (k=k') && decide (n=m)|_=>false)
 | .str s,w=>(match w with| .str t=>strEq s t|_=>false)
 | .nilPtr,w=>(match w with| .nilPtr=>true|_=>false)
 | .ptr j o,w=>(match w with| .ptr i p=>Nat.beq j i && Nat.beq o p|_=>false)
 | .nilSl,w=>(match w with| .nilSl=>true|_=>false)
 | .sl j o l n op,w=>(match w with| .sl i p l' n' op'=>Nat.beq j i && Nat.beq o p && Nat.beq l l' && Nat.beq n n' && decide (op=op')|_=>false)
 | .nilMap,w=>(match w with| .nilMap=>true|_=>false)
 | .map j,w=>(match w with| .map i=>Nat.beq j i|_=>false)
 | .fn f a b,w=>(match w with| .fn f' a' b'=>decide (f=f') && eqL a a' && eqL b b'|_=>false)
 | .yld j,w=>(match w with| .yld i=>Nat.beq j i|_=>false)
 | .nilFn,w=>(match w with| .nilFn=>true|_=>false)
 | .ifc t v,w=>(match w with| .ifc t' v'=>Nat.beq t t' && eqV v v'|_=>false)
 | .nilIfc,w=>(match w with| .nilIfc=>true|_=>false)
 | .agg cs,w=>(match w with| .agg cs'=>eqL cs cs'|_=>false)
 | .tup cs,w=>(match w with| .tup cs'=>eqL cs cs'|_=>false)
 | .bag n N,w=>(match w with| .bag m M=>Nat.beq n m && Nat.beq N M|_=>false)
 | .ext k i o,w=>(match w with| .ext k' i' o'=>Nat.beq k k' && Nat.beq i i' && Nat.beq o o'|_=>false)
def eqL:List AV->List AV->Bool
 | [],m=>(match m with| []=>true|_::_=>false)
 |a::l,m=>(match m with| []=>false|b::m=>eqV a b && eqL l m)
end
def eqC (a b:Ce):Bool:=match a,b with
 | .byt n N,.byt m M=>Nat.beq n m && Nat.beq N M
 | .lst l,.lst m=>eqL l m
 |_,_=>false
def eqB (a b:ABlk):Bool:=match a,b with
 | .cells c e z op ro,.cells c' e' z' op' ro'=>eqC c c' && Nat.beq e e' && Nat.beq z z' && decide (op=op') && decide (ro=ro')
 |_,_=>false
def sameO (a b:Option ABlk):Bool:=match a,b with|some a,some b=>eqB a b|_,_=>false
def zwg (H H2:AH) (js:List Nat):Bool:=js.all fun i=>sameO (H.get i) (H2.get i)
def zxb1 (o:Oper):Nat :=
 lrec (β:=Nat) 0 (fun e _ ih=>match Region.binds .any e with|true=>Nat.lor (Nat.shiftLeft 1 e.on) ih|false=>ih) o.after.toList
def pick1 (dn:Nat) (l:List (Nat×Nat×Oper)):Option ((Nat×Nat×Oper)×List (Nat×Nat×Oper)) :=
 lrec (β:=Option ((Nat×Nat×Oper)×List (Nat×Nat×Oper))) none
  (fun x r ih=>match Nat.beq (Nat.land x.2.1 dn) x.2.1 with
   |true=>some (x,r)
   |false=>match ih with
    |some p=>some (p.1,x::p.2)
    |none=>none) l
def topo (fuel:Nat):List (Nat×Nat×Oper)->Nat->Tr Nat->List (Nat×Nat×Oper) :=
 nrecF (α:=List (Nat×Nat×Oper)) (β:=Nat->Tr Nat->List (Nat×Nat×Oper)) (fun _ _ _=> [])
  (fun _ ih l dn t=>match pick1 dn l with
   |none=> []
   |some p =>
    let anc:=lrec (β:=Nat) p.1.2.1 (fun e _ r=>match Region.binds .any e with|true=>Nat.lor ((t.get e.on).getD 0) r|false=>r) p.1.2.2.after.toList
    (p.1.1,anc,p.1.2.2)::ih p.2 (Nat.lor dn (Nat.shiftLeft 1 p.1.1)) (t.set p.1.1 anc)) fuel
def zyj1 (l:List Oper):List (Nat×Nat×Oper) :=
 lrec (β:=Nat->List (Nat×Nat×Oper)) (fun _=> []) (fun o _ ih i=>(i,zxb1 o,o)::ih (i+1)) l 0
def zfl (L:Lk) (o:Op):Bool :=
 match o with
 | .move _| .assign _| .pick _ _ _| .build _ _| .binOp _ _ _ _ _| .unOp _ _ _| .makeInterface _ _| .makeFunc _ _ _| .slice _ _ _ _ _
 | .fieldAddr _ _ _| .field _ _ _| .indexAddr _ _ _| .index _ _ _| .extract _ _| .typeAssert _ _ _ _| .nilCheck _| .sliceToArrayPointer _ _=>true
 | .convert s d _=>(match L.under s,L.under d with|some (.int _),some (.int _)=>true|_,_=>false)
 | .call c=>(match c.callee with
  | .builtin b=>(match b with
   | .min| .max| .cap=>true
   | .len=>(match c.argTypes.toList with
    |t::_=>(match L.under t with|some (.map _ _)=>false|some (.chan _ _)=>false|_=>true)
    | []=>false)
   |_=>false)
  |_=>false)
 |_=>false
def zzj (o:Op):Bool :=
 match o with
 | .load _ _| .lookup _ _ _ _=>true
 | .call c=>(match c.callee with
  | .builtin b=>(match b with| .len=>true|_=>false)
  |_=>false)
 |_=>false
inductive Kind where
 |free
 |read
 |heavy
def zhh (L:Lk) (o:Op):Kind:=match zfl L o with|true=>.free|false=>(match zzj o with|true=>.read|false=>.heavy)
def zia (L:Lk) (o:Oper):Bool:=match zhh L o.op with| .heavy=>true|_=>false
def zad (L:Lk) (o:Oper):Bool:=match zhh L o.op with| .read=>true|_=>false
def zbh (L:Lk) (o:Oper):Bool:=match zhh L o.op with| .free=>true|_=>false
def zxg (o:Op):List Operand :=
 match o with
 | .move x| .assign x| .box _ x| .load _ x| .nilCheck x| .unOp _ _ x| .convert _ _ x| .makeInterface _ x| .fieldAddr _ x _| .field _ x _| .typeAssert x _ _ _| .extract x _| .makeChan _ x| .sliceToArrayPointer _ x| .range _ x| .next x _| .entry x=> [x]
 | .pick c x y=> [c,x,y]
 | .build _ ps| .buildSlice _ _ ps=>ps.toList.map fun p=>p.2
 | .store _ x y| .binOp _ _ x y _| .makeSlice _ x y| .indexAddr _ x y| .index _ x y| .lookup _ x y _| .mapEntry _ x y=> [x,y]
 | .makeFunc _ a b=>a.toList ++ b.toList
 | .slice _ x lo hi mx=>x::(lo.toList ++ (hi.toList ++ mx.toList))
 | .mapUpdate _ x y z| .insert _ x y z| .entryStore _ x y z=> [x,y,z]
 | .call c=>(match c.callee with| .builtin _=>c.args.toList| .value f=>f::c.args.toList| .invoke r _=>r::c.args.toList)
 |_=> []
def opdTs (l:List Operand):List Nat:=lrec (β:=List Nat) [] (fun x _ ih=>match x with| .tmp t=>t::ih|_=>ih) l
def zei (all:List Oper) (o:Oper):List Nat :=
 match o.guard with
 |none=>opdTs (zxg o.op)
 |some g=>(match nth all g.1 with
  |some oj=>(match oj.dst with
   |some d=>d::opdTs (zxg o.op)
   |none=>opdTs (zxg o.op))
  |none=>opdTs (zxg o.op))
def has (l:List Nat) (t:Nat):Bool:=lrec (β:=Bool) false (fun x _ ih=>match Nat.beq x t with|true=>true|false=>ih) l
def dstIn (d:Option Tmp) (l:List Nat):Bool:=match d with|some t=>has l t|none=>false
def zpg1 (x y:Option Tmp):Bool:=match x,y with|some s,some t=>Nat.beq s t|_,_=>false
def clash (all:List Oper) (x y:Oper):Bool:=dstIn x.dst (zei all y) || (dstIn y.dst (zei all x) || zpg1 x.dst y.dst)
abbrev Ent:=Nat×Nat×Oper
def zpd (L:Lk) (o:Oper):Bool:=match o.guard with
 |some _=>false
 |none=>(match o.op with
  | .alloc _=>true
  |_=>false)
def flOk (L:Lk) (x:Ent) (pre:List Ent):Bool :=
 lrec (β:=Bool) true (fun y tl ih=>(match zpd L y.2.2 && Nat.testBit x.2.1 y.1 with
  |false=>true
  |true=>tl.all fun z=> !zia L z.2.2 || Nat.testBit x.2.1 z.1) && ih) pre
def loose (L:Lk) (x:Ent) (pre:List Ent):Bool:=zpd L x.2.2 && pre.any fun y=>zia L y.2.2 && !Nat.testBit x.2.1 y.1
def ancOf (pre:List Ent) (i:Nat):Nat:=lrec (β:=Nat) 0 (fun y _ ih=>match Nat.beq y.1 i with|true=>y.2.1|false=>ih) pre
def ancs (o:Oper) (pre:List Ent):Nat :=
 lrec (β:=Nat) 0 (fun e _ ih=>match Region.binds .any e with|true=>Nat.lor (Nat.lor (Nat.shiftLeft 1 e.on) (ancOf pre e.on)) ih|false=>ih) o.after.toList
def zyb1 (o:Oper) (pre:List Ent):Bool :=
 lrec (β:=Bool) true (fun e _ ih=>match Region.binds .any e with|true=>(pre.any fun y=>Nat.beq y.1 e.on) && ih|false=>ih) o.after.toList
def okAt (L:Lk) (all:List Oper) (x:Ent) (pre:List Ent):Bool :=
 lrec (β:=Bool) true (fun y _ ih=>(match Nat.beq y.1 x.1 with
  |true=>false
  |false=>match Nat.testBit x.2.1 y.1 with
   |true=>true
   |false=> !clash all y.2.2 x.2.2 && !(zia L y.2.2 && !(zbh L x.2.2 || zpd L x.2.2))) && ih) pre
def zzj1 (L:Lk) (x:Ent) (pre:List Ent):List Nat->Bool :=
 lrec (β:=List Nat->Bool) (fun _=>false) (fun y _ ih ds=>match zad L y.2.2 && !Nat.testBit x.2.1 y.1 with
  |false=>ih (match y.2.2.dst with|some d=>d::ds|none=>ds)
  |true=>true) pre
def zih (L:Lk) (x:Ent) (pre:List Ent):Bool:=zzj1 L x pre []
def annot (L:Lk) (all:List Oper) (l:List Nat):List Ent->Option (List Ent) :=
 lrec (β:=List Ent->Option (List Ent)) (fun _=>some []) (fun i _ ih pre=>match nth all i with
  |none=>none
  |some o=>match zyb1 o pre && okAt L all (i,ancs o pre,o) pre && flOk L (i,ancs o pre,o) pre with
   |true=>(match ih ((i,ancs o pre,o)::pre) with|some r=>some ((i,ancs o pre,o)::r)|none=>none)
   |false=>none) l
def zxu (L:Lk) (l:List (Nat×Nat×Oper)):List (Nat×Nat×Oper) :=
 lrec (β:=List (Nat×Nat×Oper)) ((l.filter fun x=>zia L x.2.2 && !zpd L x.2.2) ++ l.filter fun x=>zia L x.2.2 && zpd L x.2.2) (fun x _ ih=>match zia L x.2.2 with|true=>ih|false=>x::ih) l
def zak1 (pl:List Ent) (n:Nat):Bool:=nrecF (α:=Unit) (β:=Bool) (fun _=>true) (fun k ih u=>(pl.any fun y=>Nat.beq y.1 k) && ih u) n ()
def plan (L:Lk) (ops:List Oper):Option (List Ent) :=
 match annot L ops ((topo (len ops) (zxu L (zyj1 ops)) 0 .nil).map fun x=>x.1) [] with
 |some pl=>(match zak1 pl (len ops) with|true=>some pl|false=>none)
 |none=>none
def gdOff (T:Tr AV) (ds:List Nat) (o:Oper) (pre:List Ent):Bool:=match o.guard with
 |none=>false
 |some g=>lrec (β:=Bool) false (fun z _ ih=>match Nat.beq z.1 g.1 with
  |true=>(match z.2.2.dst with
   |some d=>(match has ds d with
    |true=>false
    |false=>(match T.get d with
     |some (.bool b)=>(match b,g.2 with|true,false=>true|false,true=>true|_,_=>false)
     |_=>false))
   |none=>false)
  |false=>ih) pre
def rdBlk (T:Tr AV) (ds:List Nat) (o:Op):Option Nat :=
 match o with
 | .load _ x=>(match x with
  | .tmp k=>(match has ds k with
   |true=>none
   |false=>(match T.get k with|some (.ptr i _)=>some i|_=>none))
  |_=>none)
 | .lookup _ x _ _=>(match x with
  | .tmp k=>(match has ds k with
   |true=>none
   |false=>(match T.get k with|some (.map i)=>some i|_=>none))
  |_=>none)
 |_=>none
def zgl (L:Lk) (x:Ent) (j:Nat) (T:Tr AV) (pre:List Ent):List Nat->Bool :=
 lrec (β:=List Nat->Bool) (fun _=>true) (fun y tl ih ds =>
  match zad L y.2.2 && !Nat.testBit x.2.1 y.1 && !gdOff T (match y.2.2.dst with|some d=>d::ds|none=>ds) y.2.2 tl with
  |false=>ih (match y.2.2.dst with|some d=>d::ds|none=>ds)
  |true=>(match rdBlk T (match y.2.2.dst with|some d=>d::ds|none=>ds) y.2.2.op with
   |some i=>(match Nat.beq i j with|true=>false|false=>ih (match y.2.2.dst with|some d=>d::ds|none=>ds))
   |none=>false)) pre
def far (L:Lk) (T:Tr AV) (x:Ent) (pre:List Ent):Bool :=
 match x.2.2.op with
 | .store _ (.tmp k) _=>(match T.get k with|some (.ptr j _)=>zgl L x j T pre []|_=>false)
 |_=>false
def zce (x:Ent) (L:Lk) (T:Tr AV) (pre:List Ent):List Nat->Option (List Nat) :=
 lrec (β:=List Nat->Option (List Nat)) (fun _=>some []) (fun y _ ih ds =>
  match zad L y.2.2 && !Nat.testBit x.2.1 y.1 with
  |false=>ih (match y.2.2.dst with|some d=>d::ds|none=>ds)
  |true=>(match y.2.2.op with
   | .load _ (.tmp k)=>(match has (match y.2.2.dst with|some d=>d::ds|none=>ds) k with
    |true=>none
    |false=>(match T.get k with
     |some (.ptr i _)=>(match ih (match y.2.2.dst with|some d=>d::ds|none=>ds) with|some js=>some (i::js)|none=>none)
     |_=>none))
   |_=>none)) pre
def zsf (o:Oper):Bool:=match o.op with| .call c=>(match c.callee with| .builtin b=>(match b with| .append=>true|_=>false)|_=>true)|_=>false
def zid (L:Lk) (rec:Rec) (T:Tr AV) (x:Ent) (pre:List Ent) (H:AH):Option (AV×AH) :=
 match (match zsf x.2.2 with|true=>zce x L T pre []|false=>none) with
 |some js=>(match zva L rec T x.2.2 H with
  |some r=>(match zwg H r.2 js with|true=>some r|false=>none)
  |none=>none)
 |none=>(match zva L rec T x.2.2 {H with lo:=H.next} with
  |some r=>some (r.1,{r.2 with lo:=H.lo})
  |none=>none)
def zak (L:Lk) (rec:Rec) (all:List Oper) (pl:List Ent):List Ent->Tr AV->AH->Option (Tr AV×AH) :=
 lrec (β:=List Ent->Tr AV->AH->Option (Tr AV×AH)) (fun _ T H=>some (T,H))
  (fun x _ ih pre T H=>match zac all T x.2.2 with
   |false=>(match loose L x pre with
    |true=>none
    |false=>ih (x::pre) (putT T x.2.2.dst .undef) H)
   |true=>match zia L x.2.2 with
    |false=>(match zva L rec T x.2.2 H with
     |some r=>ih (x::pre) (putT T x.2.2.dst r.1) H
     |none=>none)
    |true=>match zih L x pre with
     |false=>(match zva L rec T x.2.2 H with
      |some r=>ih (x::pre) (putT T x.2.2.dst r.1) r.2
      |none=>none)
     |true=>match far L T x pre with
      |true=>(match zva L rec T x.2.2 H with
       |some r=>ih (x::pre) (putT T x.2.2.dst r.1) r.2
       |none=>none)
      |false=>(match zid L rec T x pre H with
       |some r=>ih (x::pre) (putT T x.2.2.dst r.1) r.2
       |none=>none)) pl
def zbf (L:Lk) (rec:Rec) (ops:List Oper) (draw:Bool) (T:Tr AV) (H:AH):Option (Tr AV×AH) :=
 match draw with
 |false=>evOps L rec ops ops T H
 |true=>(match plan L ops with|some pl=>zak L rec ops pl [] T H|none=>none)
def crec {β:Type}(skip:β) (region:Nat->Array Oper->Bool->β) (seq:Code->Code->β->β->β) (cond:Operand->Code->Code->β->β->β) (block:Nat->Code->β->β) (loop:Code->β->β)
  (rangeFunc:Operand->Array Tmp->Code->Code->β->β->β) (exit:Nat->β) (scope:Code->β->β) (label:Nat->β) (goto:Nat->β) (ret:β) (refuse:String->β) (c:Code):β :=
 Code.rec (motive:=fun _=>β) skip region seq cond block loop rangeFunc exit scope label goto ret refuse c
def zzb (L:Lk) (rec:Rec) (c:Code):Tr AV->AH->Option Out :=
 crec (β:=Tr AV->AH->Option Out)
  (fun T H=>some ⟨.normal,T,H⟩)
  (fun _ ops draw T H=>match zbf L rec ops.toList draw T H with|some r=>some ⟨.normal,r.1,r.2⟩|none=>none)
  (fun _ _ iha ihb T H=>match iha T H with
   |some o=>(match o.ex with| .normal=>ihb o.T o.H|_=>some o)
   |none=>none)
  (fun x _ _ iha ihb T H=>match opnd T x with
   |some (.bool true)=>iha T H
   |some (.bool false)=>ihb T H
   |_=>none)
  (fun id _ ih T H=>match ih T H with
   |some o=>(match o.ex with
    | .exit i=>(match Nat.beq i id with|true=>some ⟨.normal,o.T,o.H⟩|false=>some o)
    |_=>some o)
   |none=>none)
  (fun body _ T H=>rec (.loop body T H))
  (fun f params assign body _ _ T H=>match opnd T f with|some g=>rec (.range g params.toList assign body T H)|none=>none)
  (fun id T H=>some ⟨.exit id,T,H⟩)
  (fun _ ih T H=>match ih T H with
   |some o=>(match o.ex with| .goto _=>none|_=>some o)
   |none=>none)
  (fun _ T H=>some ⟨.normal,T,H⟩)
  (fun l T H=>some ⟨.goto l,T,H⟩)
  (fun T H=>some ⟨.ret,T,H⟩)
  (fun _ _ _=>none) c
abbrev Df:=FuncId×List AV
def zsr (o:Oper):Bool:=match o.op with| .call c=>(match c.callee with| .builtin b=>(match b with| .recover=>true|_=>false)|_=>false)|_=>false
def noOps (p:Oper->Bool) (c:Code):Bool :=
 crec (β:=Bool) true (fun _ ops _=>ops.toList.all fun o=> !p o) (fun _ _ a b=>a && b) (fun _ _ _ a b=>a && b) (fun _ _ a=>a) (fun _ a=>a)
  (fun _ _ _ _ a b=>a && b) (fun _=>true) (fun _ a=>a) (fun _=>true) (fun _=>true) true (fun _=>true) c
def evOpsR (L:Lk) (rec:Rec) (all:List Oper) (ops:List Oper):Tr AV->AH->Option (Tr AV×AH) :=
 lrec (β:=Tr AV->AH->Option (Tr AV×AH)) (fun T H=>some (T,H))
  (fun o _ ih T H=>match zac all T o with
   |true=>(match zsr o with
    |true=>ih (putT T o.dst .nilIfc) H
    |false=>(match evOp L T o H with
     |some (.val v H')=>ih (putT T o.dst v) H'
     |_=>none))
   |false=>ih (putT T o.dst .undef) H) ops
def evCodeR (L:Lk) (rec:Rec) (c:Code):Tr AV->AH->Option Out :=
 crec (β:=Tr AV->AH->Option Out)
  (fun T H=>some ⟨.normal,T,H⟩)
  (fun id ops draw T H=>match noOps zsr (.region id ops draw) with
   |true=>(match zbf L rec ops.toList draw T H with|some r=>some ⟨.normal,r.1,r.2⟩|none=>none)
   |false=>(match draw with
    |true=>none
    |false=>(match evOpsR L rec ops.toList ops.toList T H with|some r=>some ⟨.normal,r.1,r.2⟩|none=>none)))
  (fun _ _ iha ihb T H=>match iha T H with
   |some o=>(match o.ex with| .normal=>ihb o.T o.H|_=>some o)
   |none=>none)
  (fun x _ _ iha ihb T H=>match opnd T x with
   |some (.bool true)=>iha T H
   |some (.bool false)=>ihb T H
   |_=>none)
  (fun id _ ih T H=>match ih T H with
   |some o=>(match o.ex with
    | .exit i=>(match Nat.beq i id with|true=>some ⟨.normal,o.T,o.H⟩|false=>some o)
    |_=>some o)
   |none=>none)
  (fun _ _ _ _=>none)
  (fun _ _ _ _ _ _ _ _=>none)
  (fun id T H=>some ⟨.exit id,T,H⟩)
  (fun _ _ _ _=>none)
  (fun _ T H=>some ⟨.normal,T,H⟩)
  (fun l T H=>some ⟨.goto l,T,H⟩)
  (fun T H=>some ⟨.ret,T,H⟩)
  (fun _ _ _=>none) c
def zub (l:List AV):Nat->Tr AV->Tr AV :=
 lrec (β:=Nat->Tr AV->Tr AV) (fun _ t=>t) (fun v _ ih j t=>ih (j+1) (t.set j v)) l
def zjc (l:List (Tmp×AV)):Tr AV->Tr AV :=
 lrec (β:=Tr AV->Tr AV) (fun t=>t) (fun p _ ih t=>ih (t.set p.1 p.2)) l
def zmb (L:Lk) (T:Tr AV) (H:AH) (rs:List ResultVar):Option (List AV) :=
 mapO (fun r=>match r with
  | .tmp t=>(match T.get t with|some v=>some v|none=>some AV.undef)
  | .cell a t=>(match T.get a with|some v=>zvb L t v H|none=>none)) rs
def out1 (v:AV) (H:AH):Out:=⟨.ret,Tr.nil.set 0 v,H⟩
def endOf (o:Out):Option Out:=match o.ex with| .ret=>some o| .normal=>some o|_=>none
def zxw (L:Lk) (rec:Rec) (d:Df) (H:AH):Option AH :=
 match L.func d.1 with
 |none=>none
 |some fn=>match fn.body with
  |none=>none
  |some c=>match Nat.ble (len d.2) fn.ntmps with
   |false=>none
   |true=>match evCodeR L rec c (zub d.2 0 .nil) H with
    |none=>none
    |some o=>match endOf o with
     |none=>none
     |some o=>(match zmb L o.T o.H fn.results.toList with|some _=>some o.H|none=>none)
def zqg1 (L:Lk) (rec:Rec) (ds:List Df):AH->Option AH :=
 lrec (β:=AH->Option AH) (fun H=>some H) (fun d _ ih H=>match zxw L rec d H with|some H'=>ih H'|none=>none) ds
def zcq (L:Lk) (f:FuncId) (args:List AV) (H:AH):Option (AV×AH):=match L.ext f with|some g=>g args H|none=>none
def evReq (L:Lk) (fuel:Nat):Rec :=
 nrecF (α:=Req) (β:=Option Out) (fun _=>none)
  (fun _ rec r=>match r with
   | .call f args H=>(match zcq L f args H with
    |some p=>some (out1 p.1 p.2)
    |none=>match L.dfn f with
    |true=>none
    |false=>match L.func f with
     |none=>none
     |some fn=>match fn.body with
      |none=>none
      |some c=>match Nat.ble (len args) fn.ntmps with
       |false=>none
       |true=>match zzb L rec c (zub args 0 .nil) H with
        |none=>none
        |some o=>match o.ex with
         | .ret| .normal=>(match zmb L o.T o.H fn.results.toList with
          |some vs=>(match vs with| [v]=>some (out1 v o.H)|vs=>some (out1 (.tup vs) o.H))
          |none=>none)
         |_=>none)
   | .loop body T H=>(match zzb L rec body T H with
    |none=>none
    |some o=>match o.ex with
     | .normal=>rec (.loop body o.T o.H)
     |_=>some o)
   | .round l args H=>(match Nat.ble H.lo l,H.get l with
    |true,some (.loop .ready none T n ps assign body)=>(match Nat.beq (len args) (len ps) with
     |false=>none
     |true=>match zzb L rec assign (zjc (ps.zip args) T) H with
      |none=>none
      |some o1=>match o1.ex with
       | .normal=>(match o1.H.get l with
        |some (.loop .ready none T2 n2 ps2 as2 bd2)=>(match zzb L rec body o1.T (o1.H.put l (.loop .busy none T2 n2 ps2 as2 bd2)) with
         |none=>none
         |some o2=>match o2.H.get l with
          |some (.loop .busy _ T n ps assign body)=>(match o2.ex with
           | .normal=>some (out1 (.bool true) (o2.H.put l (.loop .ready none T n ps assign body)))
           | .exit id=>some (out1 (.bool false) (o2.H.put l (.loop .done (some (.exit id)) T n ps assign body)))
           | .ret=>some (out1 (.bool false) (o2.H.put l (.loop .done (some .ret) T n ps assign body)))
           | .goto _=>none)
          |_=>none)
        |_=>none)
       |_=>none)
    |_,_=>none)
   | .range g ps assign body T H =>
    (match zdc g [.yld H.next] with
    |some (.enter f args)=>(match L.func f with
     |none=>none
     |some fn=>match fn.body with
      |none=>none
      |some _=>match rec (.call f args (H.new (.loop .ready none T 0 ps assign body))) with
       |none=>none
       |some o=>match Nat.ble o.H.lo H.next,o.H.get H.next with
        |true,some (.loop st pend _ _ _ _ _)=>(match st with
         | .busy=>none
         |_=>match pend with
          |none=>some ⟨.normal,T,o.H.put H.next .defd⟩
          |some (.exit id)=>some ⟨.exit id,T,o.H.put H.next .defd⟩
          |some .ret=>some ⟨.ret,T,o.H.put H.next .defd⟩
          |_=>none)
        |_,_=>none)
    |_=>none)) fuel
end
theorem zfi {α β:Type}(z:β) (f:α->List α->β->β):lrec z f []=z:=rfl
theorem zta {α β:Type}(z:β) (f:α->List α->β->β) (a:α) (l:List α):lrec z f (a::l)=f a l (lrec z f l):=rfl
theorem zyw {α β:Type}(z:α->β) (f:Nat->(α->β)->α->β) (a:α):nrecF z f 0 a=z a:=rfl
theorem zag {α β:Type}(z:α->β) (f:Nat->(α->β)->α->β) (n:Nat) (a:α):nrecF z f (n+1) a=f n (nrecF z f n) a:=rfl
theorem zzb1 {β:Type}(f t:β):brec f t false=f:=rfl
theorem zpm {β:Type}(f t:β):brec f t true=t:=rfl
def undg:Dg->Nat| .d0=>0| .d1=>1| .d2=>2| .d3=>3| .d4=>4| .d5=>5| .d6=>6| .d7=>7
theorem zrg1:∀n,n<8->undg (dg n)=n
 |0,_=>rfl|1,_=>rfl|2,_=>rfl|3,_=>rfl|4,_=>rfl|5,_=>rfl|6,_=>rfl|7,_=>rfl
 |n+8,h=>absurd h oM
theorem zio {a b:Nat}(ha:a<8) (hb:b<8) (h:dg a=dg b):a=b:=by
 rw [← zrg1 a ha,← zrg1 b hb,h]
theorem Oct.get_put {α:Type}(d:Dg) (x:α) (r:Oct α):(Oct.put d x r).get d=x:=by cases r;cases d<;>rfl
theorem Oct.get_put_ne {α:Type}{d d':Dg}(h:d'≠d) (x:α) (r:Oct α):(Oct.put d x r).get d'=r.get d':=by
 cases r;cases d<;>cases d'<;>first|rfl|exact absurd rfl h
theorem Oct.get_putF {α:Type}(d:Dg) (x:Oct α) (r:Oct (Oct α)):(Oct.putF d x r).get d=x:=by cases r;cases x;cases d<;>rfl
theorem Oct.get_putF_ne {α:Type}{d d':Dg}(h:d'≠d) (x:Oct α) (r:Oct (Oct α)):(Oct.putF d x r).get d'=r.get d':=by
 cases r;cases x;cases d<;>cases d'<;>first|rfl|exact absurd rfl h
theorem Oct.get_all {α:Type}(d:Dg) (x:α):(Oct.all x).get d=x:=by cases d<;>rfl
namespace Tr
variable {α:Type}
theorem zrl {β:Type}(d:Dg) (f:Oct β->Oct β) (t:Oct (Oct β)):(upd d f t).get d=f (t.get d):=Oct.get_putF _ _ _
theorem zbg {β:Type}{d d':Dg}(h:d'≠d) (f:Oct β->Oct β) (t:Oct (Oct β)):(upd d f t).get d'=t.get d':=Oct.get_putF_ne h _ _
theorem ofLo_eq (mid:Oct (Oct (Oct (Oct (Oct (Oct (Option α))))))) (big:List (Nat×α)) (lo:Oct (Oct (Option α))):ofLo mid big lo=⟨lo,mid,big⟩:=by cases lo;rfl
theorem zbk1 (lo:Oct (Oct (Option α))) (big:List (Nat×α)) (mid:Oct (Oct (Oct (Oct (Oct (Oct (Option α))))))):ofMid lo big mid=⟨lo,mid,big⟩:=by cases mid;rfl
theorem blt_t {a b:Nat}(h:a<b):Nat.blt a b=true:=by rw [qa5];exact h
theorem blt_f {a b:Nat}(h:¬a<b):Nat.blt a b=false:=by
 cases hb:Nat.blt a b with
 |false=>rfl
 |true=>rw [qa5] at hb;exact absurd hb h
theorem get_lo (t:Tr α){k:Nat}(h:k<64):t.get k=getLo (dg (k / 8)) (dg (k%8)) t:=by unfold get;rw [blt_t h];rfl
theorem zbk (t:Tr α){k:Nat}(h:¬k<64) (h2:k<262144):t.get k=zwb1 (dg (k / 32768)) (dg (k / 4096%8)) (dg (k / 512%8)) (dg (k / 64%8)) (dg (k / 8%8)) (dg (k%8)) t:=by
 unfold get;rw [blt_f h,blt_t h2];rfl
theorem zck (t:Tr α){k:Nat}(h:¬k<262144):t.get k=getBig k t.big:=by
 unfold get;rw [blt_f (oM:¬k<64),blt_f h];rfl
theorem set_lo (t:Tr α){k:Nat}(x:α) (h:k<64):t.set k x=setLo (dg (k / 8)) (dg (k%8)) x t:=by unfold set;rw [blt_t h];rfl
theorem set_mid (t:Tr α){k:Nat}(x:α) (h:¬k<64) (h2:k<262144):t.set k x=zwj1 (dg (k / 32768)) (dg (k / 4096%8)) (dg (k / 512%8)) (dg (k / 64%8)) (dg (k / 8%8)) (dg (k%8)) x t:=by
 unfold set;rw [blt_f h,blt_t h2];rfl
theorem set_big (t:Tr α){k:Nat}(x:α) (h:¬k<262144):t.set k x=setBig k x t:=by
 unfold set;rw [blt_f (oM:¬k<64),blt_f h];rfl
theorem get_nil (k:Nat):(Tr.nil:Tr α).get k=none:=by
 by_cases h:k<64
 ·rw [get_lo _ h];unfold getLo nil;simp only [Oct.get_all]
 ·by_cases h2:k<262144
  ·rw [zbk _ h h2];unfold zwb1 nil;simp only [Oct.get_all]
  ·rw [zck _ h2];rfl
theorem zyu (k k':Nat) (a:α) (l:List (Nat×α)):getBig k ((k',a)::l)=if k'=k then some a else getBig k l:=by
 show brec (getBig k l) (some a) (Nat.beq k' k)=_
 by_cases h:k'=k
 ·subst h;rw [qj rfl,show Nat.beq k' k'=true from qr2 k'];rfl
 ·rw [qg h]
  have:Nat.beq k' k=false:=by
   cases hb:Nat.beq k' k with
   |false=>rfl
   |true=>exact absurd (qi hb) h
  rw [this];rfl
theorem get_set (t:Tr α) (k:Nat) (x:α) (j:Nat):(t.set k x).get j=if j=k then some x else t.get j:=by
 by_cases hk:k<64
 ·rw [set_lo _ _ hk]
  have hs:setLo (dg (k / 8)) (dg (k%8)) x t=⟨Oct.putF (dg (k / 8)) (Oct.put (dg (k%8)) (some x) (Oct.get (dg (k / 8)) t.lo)) t.lo,t.mid,t.big⟩:=by
   cases t;exact ofLo_eq _ _ _
  rw [hs];by_cases hj:j<64
  ·rw [get_lo _ hj,get_lo _ hj]
   unfold getLo;by_cases e:j=k
   ·subst e;rw [qj rfl];simp only [Oct.get_putF,Oct.get_put]
   ·rw [qg e]
    by_cases e1:dg (j / 8)=dg (k / 8)
    ·have h1:=zio oM oM e1
     have e2:dg (j%8)≠dg (k%8):=fun h=>e (by have:=zio oM oM h;omega)
     rw [e1];simp only [Oct.get_putF,Oct.get_put_ne e2]
    ·simp only [Oct.get_putF_ne e1]
  ·rw [qg oM]
   by_cases hj2:j<262144
   ·rw [zbk _ hj hj2,zbk _ hj hj2];rfl
   ·rw [zck _ hj2,zck _ hj2]
 ·by_cases hk2:k<262144
  ·rw [set_mid _ _ hk hk2]
   have hs:zwj1 (dg (k / 32768)) (dg (k / 4096%8)) (dg (k / 512%8)) (dg (k / 64%8)) (dg (k / 8%8)) (dg (k%8)) x t =
     ⟨t.lo,upd (dg (k / 32768)) (upd (dg (k / 4096%8)) (upd (dg (k / 512%8)) (upd (dg (k / 64%8)) (upd (dg (k / 8%8)) (Oct.put (dg (k%8)) (some x)))))) t.mid,t.big⟩:=by
    cases t;exact zbk1 _ _ _
   rw [hs];by_cases hj:j<64
   ·rw [qg oM,get_lo _ hj,get_lo _ hj];rfl
   ·by_cases hj2:j<262144
    ·rw [zbk _ hj hj2,zbk _ hj hj2]
     unfold zwb1;by_cases e:j=k
     ·subst e;rw [qj rfl];simp only [zrl,Oct.get_put]
     ·rw [qg e]
      by_cases e1:dg (j / 32768)=dg (k / 32768)
      ·by_cases e2:dg (j / 4096%8)=dg (k / 4096%8)
       ·by_cases e3:dg (j / 512%8)=dg (k / 512%8)
        ·by_cases e4:dg (j / 64%8)=dg (k / 64%8)
         ·by_cases e5:dg (j / 8%8)=dg (k / 8%8)
          ·have h1:=zio oM oM e1
           have h2:=zio oM oM e2
           have h3:=zio oM oM e3
           have h4:=zio oM oM e4
           have h5:=zio oM oM e5
           have e6:dg (j%8)≠dg (k%8):=fun h=>e (by have:=zio oM oM h;omega)
           simp only [e1,e2,e3,e4,e5,zrl,Oct.get_put_ne e6]
          ·simp only [e1,e2,e3,e4,zrl,zbg e5]
         ·simp only [e1,e2,e3,zrl,zbg e4]
        ·simp only [e1,e2,zrl,zbg e3]
       ·simp only [e1,zrl,zbg e2]
      ·simp only [zbg e1]
    ·rw [qg oM,zck _ hj2,zck _ hj2]
  ·rw [set_big _ _ hk2]
   have hs:setBig k x t=⟨t.lo,t.mid,(k,x)::t.big⟩:=by cases t;rfl
   rw [hs];by_cases hj:j<64
   ·rw [qg oM,get_lo _ hj,get_lo _ hj];rfl
   ·by_cases hj2:j<262144
    ·rw [qg oM,zbk _ hj hj2,zbk _ hj hj2];rfl
    ·rw [zck _ hj2,zck _ hj2,zyu]
     by_cases e:j=k
     ·subst e;simp
     ·rw [qg (qz5 e),qg e]
theorem get_set_self (t:Tr α) (k:Nat) (x:α):(t.set k x).get k=some x:=by rw [get_set,qj rfl]
theorem get_set_ne (t:Tr α){k j:Nat}(x:α) (h:j≠k):(t.set k x).get j=t.get j:=by rw [get_set,qg h]
theorem zzw (l:List α):∀(k:Nat) (t:Tr α) (j:Nat),
  (lrec (β:=Nat->Tr α->Tr α) (fun _ t=>t) (fun x _ ih k t=>ih (Nat.succ k) (t.set k x)) l k t).get j=if k<=j/\j<k+l.length then l[j - k]? else t.get j:=by
 induction l with
 |nil=>intro k t j;simp [zfi];omega
 |cons x l ih =>
  intro k t j;rw [zta,ih,get_set];by_cases h:j=k
  ·subst h;simp;omega
  ·by_cases h2:k+1<=j/\j<k+1+l.length
   ·rw [qj h2,qj (by simp;omega)]
    obtain ⟨d,hd⟩:∃d,j - k=d+1:=⟨j - k - 1,oM⟩
    rw [hd,show j - Nat.succ k=d from oM];simp
   ·rw [qg h2,qg h,qg (by simp;omega)]
theorem get_ofList (l:List α) (j:Nat):(ofList l).get j=l[j]? :=by
 unfold ofList;rw [zzw];by_cases h:j<l.length
 ·rw [qj ⟨qh2 _,oM⟩];simp
 ·rw [qg oM,get_nil,qx1 oM]
end Tr
section lists
variable {α:Type}
theorem zcg (l:List α):∀i,nth l i=l[i]? :=by
 induction l with
 |nil=>intro i;rfl
 |cons a l ih=>intro i;cases i with|zero=>rfl|succ j=>show nth l j=_;rw [ih];simp
theorem zse (l:List α):len l=l.length:=by
 induction l with
 |nil=>rfl
 |cons a l ih=>show Nat.succ (len l)=_;rw [ih];simp
theorem zck1 (l:List α):∀i,dropN l i=l.drop i:=by
 induction l with
 |nil=>intro i;cases i<;>rfl
 |cons a l ih=>intro i;cases i with|zero=>rfl|succ j=>show dropN l j=_;rw [ih];simp
theorem zdk (l:List α):∀n l',takeN l n=some l'↔n<=l.length/\l'=l.take n:=by
 induction l with
 |nil=>intro n l';cases n with|zero=>simp [takeN,zfi,eq_comm]|succ n=>simp [takeN,zfi]
 |cons a l ih =>
  intro n l';cases n with
  |zero=>simp [takeN,zta,eq_comm]
  |succ n =>
   show (match takeN l n with|some l=>some (a::l)|none=>none)=some l'↔_
   cases h:takeN l n with
   |none =>
    simp only [reduceCtorEq,false_iff];intro hc;have:=(ih n (l.take n)).2 ⟨by simpa using hc.1,rfl⟩
    rw [h] at this;cases this
   |some l2 =>
    have:=(ih n l2).1 h;simp only [qz1];constructor
    ·intro e;subst e;exact ⟨by simp;omega,by simp [this.2]⟩
    ·intro hc;rw [hc.2,this.2];simp
theorem zae (l:List α) (i n:Nat) (l':List α):zij l i n=some l'↔n<=l.length - i/\l'=(l.drop i).take n:=by
 unfold zij;rw [zck1,zdk];simp
theorem zcf {l l':List α}{i n:Nat}(h:zij l i n=some l'):l'.length=n/\ ∀j,j<n->l'[j]? =l[i+j]? /\i+j<l.length:=by
 obtain ⟨h1,h2⟩:=(zae l i n l').1 h;subst h2;refine ⟨by simp;omega,fun j hj=>⟨?_,oM⟩⟩
 rw [qa2 hj,qj2]
theorem ztr (xs:List α):∀l l',over xs l=some l'↔xs.length<=l.length/\l'=xs ++ l.drop xs.length:=by
 induction xs with
 |nil=>intro l l';simp [over,zfi,eq_comm]
 |cons x xs ih =>
  intro l l';cases l with
  |nil=>simp [over,zta]
  |cons a l =>
   show (match over xs l with|some l'=>some (x::l')|none=>none)=some l'↔_
   cases h:over xs l with
   |none =>
    simp only [reduceCtorEq,false_iff];intro hc;have:=(ih l _).2 ⟨by simpa using hc.1,rfl⟩
    rw [h] at this;cases this
   |some l2 =>
    have:=(ih l l2).1 h;simp only [qz1];constructor
    ·intro e;subst e;exact ⟨by simp;omega,by simp [this.2]⟩
    ·intro hc;rw [hc.2,this.2];simp
theorem zyb (xs l:List α):∀i l',zgd xs l i=some l'↔i+xs.length<=l.length/\l'=l.take i ++ xs ++ l.drop (i+xs.length):=by
 induction l with
 |nil =>
  intro i l';cases i with
  |zero=>show over xs []=some l'↔_;rw [ztr];simp
  |succ i=>simp [zgd,zfi]
 |cons a l ih =>
  intro i l';cases i with
  |zero=>show over xs (a::l)=some l'↔_;rw [ztr];simp
  |succ i =>
   show (match zgd xs l i with|some l'=>some (a::l')|none=>none)=some l'↔_
   cases h:zgd xs l i with
   |none =>
    simp only [reduceCtorEq,false_iff];intro hc;have:=(ih i _).2 ⟨by simp at hc;omega,rfl⟩
    rw [h] at this;cases this
   |some l2 =>
    have:=(ih i l2).1 h;simp only [qz1];constructor
    ·intro e;subst e;refine ⟨by simp;omega,?_⟩
     rw [this.2,show i+1+xs.length=(i+xs.length)+1 from oM];simp
    ·intro hc;rw [hc.2,this.2,show i+1+xs.length=(i+xs.length)+1 from oM];simp
theorem zqm {β:Type}(f:α->Option β) (l:List α):∀r,mapO f l=some r↔r.length=l.length/\ ∀(i:Nat) a,l[i]? =some a-> ∃b,f a=some b/\r[i]? =some b:=by
 induction l with
 |nil=>intro r;simp [mapO,zfi,eq_comm]
 |cons a l ih =>
  intro r;show obind (f a) (fun b=>obind (mapO f l) fun bs=>some (b::bs))=some r↔_
  unfold obind;cases hf:f a with
  |none =>
   simp only [reduceCtorEq,false_iff];intro hc;obtain ⟨b,hb,_⟩:=hc.2 0 a (by simp)
   rw [hf] at hb;cases hb
  |some b =>
   cases hm:mapO f l with
   |none =>
    simp only [reduceCtorEq,false_iff];intro hc;cases r with
    |nil=>simp at hc
    |cons b' r =>
     have:=(ih r).2 ⟨by simpa using hc.1,fun i x hx=>by
      obtain ⟨y,hy,hz⟩:=hc.2 (i+1) x (by simpa using hx)
      exact ⟨y,hy,by simpa using hz⟩⟩
     rw [hm] at this;cases this
   |some bs =>
    have h:=(ih bs).1 hm;simp only [qz1];constructor
    ·intro e;subst e
     refine ⟨by simp [h.1],fun i x hx=> ?_⟩
     cases i with
     |zero=>simp at hx;subst hx;exact ⟨b,hf,by simp⟩
     |succ i=>obtain ⟨y,hy,hz⟩:=h.2 i x (by simpa using hx);exact ⟨y,hy,by simpa using hz⟩
    ·intro hc
     cases r with
     |nil=>simp at hc
     |cons b' r =>
      obtain ⟨y,hy,hz⟩:=hc.2 0 a (by simp)
      rw [hf] at hy;cases hy;simp at hz;subst hz;congr 1;refine qm3 fun i=> ?_
      by_cases hi:i<l.length
      ·obtain ⟨y,hy,hz⟩:=hc.2 (i+1) l[i] (by simp [hi])
       obtain ⟨y',hy',hz'⟩:=h.2 i l[i] (by simp [hi])
       rw [hy] at hy';cases hy';rw [hz'];simpa using hz.symm
      ·rw [qx1 oM,qx1 (by have:=hc.1;simp at this;omega)]
theorem zek {β γ:Type}(f:α->Option β) (g:β->γ) (k:α->γ) (hk:∀a b,f a=some b->k a=g b){l:List α}{r:List β}(h:mapO f l=some r):l.map k=r.map g:=by
 obtain ⟨h1,h2⟩:=(zqm f l r).1 h;refine qm3 fun i=> ?_
 by_cases hi:i<l.length
 ·obtain ⟨b,hb,hr⟩:=h2 i l[i] (by simp [hi])
  simp [hr,hi,hk _ _ hb]
 ·simp [qx1 (Nat.le_of_not_lt hi),qx1 (Nat.le_of_not_lt (by rw [h1];exact hi):r.length<=i)]
theorem zgi (x:List α) (n:Nat):rep x (n+1)=x ++ rep x n:=rfl
theorem zuc (x:List α):∀n,(rep x n).length=n*x.length
 |0=>by simp [rep,zyw]
 |n+1=>by rw [zgi,qy,zuc x n,Nat.succ_mul];omega
theorem zhi (x:List α):∀(n i:Nat),i<n*x.length->(rep x n)[i]? =x[i%x.length]?
 |0,i,h=>by simp at h
 |n+1,i,h=>by
  rw [zgi];by_cases hi:i<x.length
  ·rw [qr1 hi,qs4 hi]
  ·rw [qw1 oM,zhi x n (i - x.length) (by rw [Nat.succ_mul] at h;omega)]
   rw [← Nat.mod_eq_sub_mod oM]
end lists
namespace Ce
def B (N i:Nat):Nat:=N / 256 ^ i%256
theorem pw_eq (n:Nat):pw n=256 ^ n:=by
 show 2 ^ (8*n)=256 ^ n
 rw [qq7]
theorem zch (n:Nat):0<256 ^ n:=Nat.pow_pos dC
theorem B_mod {n i:Nat}(h:i<n) (N:Nat):B (N%256 ^ n) i=B N i:=by
 unfold B;obtain ⟨k,rfl⟩:∃k,n=i+(k+1):=⟨n - i - 1,oM⟩
 rw [Nat.pow_add,Nat.mod_mul_right_div_self,Nat.mod_mod_of_dvd];exact ⟨256 ^ k,by rw [Nat.pow_succ,qo3]⟩
theorem B_div (N o i:Nat):B (N / 256 ^ o) i=B N (o+i):=by
 unfold B;rw [Nat.div_div_eq_div_mul,← Nat.pow_add]
theorem B_low {n i:Nat}(h:i<n) (A C:Nat):B (A+256 ^ n*C) i=B A i:=by
 rw [← B_mod h,qv5,B_mod h]
theorem zdk1 {n A:Nat}(h:A<256 ^ n) (C i:Nat):B (A+256 ^ n*C) (n+i)=B C i:=by
 rw [← B_div,qi6 _ _ (zch n),qx5 h,qu1]
theorem zac1 (N i:Nat):byteAt N i=B N i:=by
 show (N >>> (8*i))%256=_
 rw [qr6,qq7];rfl
theorem zve (n N:Nat):bytesL (n+1) N= .int .u8 (.ofNat (N%256))::bytesL n (N / 256):=rfl
theorem bytesL_length:∀n N,(bytesL n N).length=n
 |0,_=>rfl
 |n+1,N=>by rw [zve,qi2,bytesL_length]
theorem bytesL_get:∀n N i,(bytesL n N)[i]? =if i<n then some (AV.int .u8 (.ofNat (B N i))) else none
 |0,N,i=>by rw [qg (qb4 _)];rfl
 |n+1,N,0=>by
  rw [zve,qj (Nat.succ_pos _)];simp [B]
 |n+1,N,i+1=>by
  rw [zve,qg3,bytesL_get n];have:B (N / 256) i=B N (i+1):=by
   have:=B_div N 1 i
   rwa [Nat.pow_one,qn7 1 i] at this
  rw [this];by_cases h:i<n
  ·rw [qj h,qj oM]
  ·rw [qg h,qg oM]
theorem zfk {n N:Nat}{l:List AV}(hl:l.length=n) (h:∀i,i<n->l[i]? =some (AV.int .u8 (.ofNat (B N i)))):bytesL n N=l:=by
 refine qm3 fun i=> ?_
 rw [bytesL_get];by_cases hi:i<n
 ·rw [qj hi,h i hi]
 ·rw [qg hi,qx1 oM]
theorem l_byt (n N:Nat):(Ce.byt n N).l=bytesL n N:=rfl
theorem len_l (c:Ce):c.len=c.l.length:=by
 cases c with
 |lst l=>exact zse l
 |byt n N=>exact (bytesL_length n N).symm
theorem get_l (c:Ce) (i:Nat):c.get i=c.l[i]? :=by
 cases c with
 |lst l=>exact zcg l i
 |byt n N =>
  show brec none (some (AV.int .u8 (.ofNat (byteAt N i)))) (Nat.blt i n)=(bytesL n N)[i]?
  rw [bytesL_get,zac1];by_cases h:i<n
  ·rw [Tr.blt_t h,qj h];rfl
  ·rw [Tr.blt_f h,qg h];rfl
theorem zzu {v:AV}{m:Nat}(h:byteOf v=some m):v= .int .u8 (.ofNat m)/\m<256:=by
 unfold byteOf at h;split at h
 ·next k =>
  by_cases hk:k<256
  ·rw [Tr.blt_t hk] at h;cases h;exact ⟨rfl,hk⟩
  ·rw [Tr.blt_f hk] at h;cases h
 ·cases h
theorem pack_some:∀(xs:List AV) (N:Nat),pack xs=some N->bytesL xs.length N=xs
 | [],N,_=>rfl
 |a::xs,N,h=>by
  have h:obind (byteOf a) (fun m=>obind (pack xs) fun N=>some (m+256*N))=some N:=h
  cases hb:byteOf a with
  |none=>rw [hb] at h;cases h
  |some m =>
   rw [hb] at h;cases hp:pack xs with
   |none=>rw [hp] at h;cases h
   |some M =>
    rw [hp] at h;cases h;obtain ⟨h1,h2⟩:=zzu hb;rw [qi2,zve,show (m+256*M)%256=m from oM,show (m+256*M) / 256=M from oM,pack_some xs M hp,h1]
theorem of_l (xs:List AV):(Ce.of xs).l=xs:=by
 unfold Ce.of;cases h:pack xs with
 |none=>rfl
 |some N=>show bytesL (Ev.len xs) N=xs;rw [zse];exact pack_some xs N h
theorem sub_l {c c':Ce}{o n:Nat}(h:c.sub o n=some c'):zij c.l o n=some c'.l:=by
 cases c with
 |lst l =>
  unfold sub at h;simp only at h;split at h
  ·next l' hl=>cases h;exact hl
  ·cases h
 |byt m N =>
  have h:brec none (some (Ce.byt n (Nat.mod (Nat.shiftRight N (Nat.mul 8 o)) (pw n)))) (Nat.ble n (Nat.sub m o))=some c':=h;cases hb:Nat.ble n (Nat.sub m o) with
  |false=>rw [hb] at h;cases h
  |true =>
   rw [hb] at h;cases h;have hle:=qf1 hb;have hle:n<=m - o:=hle;rw [zae];refine ⟨by rw [l_byt,bytesL_length];exact hle,?_⟩
   refine zfk (by simp [l_byt,bytesL_length];omega) fun i hi=> ?_
   rw [qa2 hi,qj2,l_byt,bytesL_get,qj oM]
   congr 3
   show _=B ((N >>> (8*o))%pw n) i
   rw [pw_eq,B_mod hi,qr6,qq7];exact (B_div N o i).symm
theorem over_l {x c c':Ce}{o:Nat}(h:Ce.over x c o=some c'):zgd x.l c.l o=some c'.l:=by
 have hL:∀xs l,overL xs l o=some c'->zgd xs l o=some c'.l:=by
  intro xs l h;unfold overL at h;split at h
  ·next l' hl=>cases h;exact hl
  ·cases h
 cases c with
 |lst l=>exact hL _ _ h
 |byt m N =>
  cases x with
  |lst xs=>exact hL _ _ h
  |byt k X =>
   have h:brec none (some (Ce.byt m (Nat.mod N (pw o)+Nat.mod X (pw k)*pw o+N / pw (o+k)*pw (o+k)))) (Nat.ble (o+k) m)=some c':=h;cases hb:Nat.ble (o+k) m with
   |false=>rw [hb] at h;cases h
   |true =>
    rw [hb] at h;cases h;have hle:=qf1 hb;rw [zyb];refine ⟨by rw [l_byt,l_byt,bytesL_length,bytesL_length];exact hle,?_⟩
    have hlow:N%256 ^ o<256 ^ o:=qb6 _ (zch o);have hX:X%256 ^ k<256 ^ k:=qb6 _ (zch k);have e1:N%pw o+X%pw k*pw o+N / pw (o+k)*pw (o+k)=N%256 ^ o+256 ^ o*(X%256 ^ k+256 ^ k*(N / 256 ^ (o+k))):=by
     rw [pw_eq,pw_eq,pw_eq,qr7,Nat.pow_add,qo3 (X%256 ^ k),qo3 (N / (256 ^ o*256 ^ k)),Nat.mul_assoc,qa6]
    refine zfk (by simp [l_byt,bytesL_length];omega) fun i hi=> ?_
    show _=some (AV.int .u8 (.ofNat (B (N%pw o+X%pw k*pw o+N / pw (o+k)*pw (o+k)) i)))
    rw [e1];simp only [l_byt,qg1,bytesL_length];by_cases h1:i<o
    ·rw [qr1 (by simp [bytesL_length];omega),qa2 h1,bytesL_get,qj hi,B_low h1,B_mod h1]
    ·obtain ⟨j,rfl⟩:∃j,i=o+j:=⟨i - o,oM⟩
     rw [qw1 (by simp [bytesL_length];omega)]
     rw [zdk1 hlow];have e2:o+j - (List.take o (bytesL m N)).length=j:=by simp [bytesL_length];omega
     rw [e2];by_cases h2:j<k
     ·rw [qr1 (by rw [bytesL_length];exact h2),bytesL_get,qj h2,B_low h2,B_mod h2]
     ·obtain ⟨q,rfl⟩:∃q,j=k+q:=⟨j - k,oM⟩
      rw [qw1 (by rw [bytesL_length];omega),bytesL_length,zdk1 hX,qj2,bytesL_get,qj oM,B_div]
      congr 3
      congr 1
      omega
theorem zek1 (n N m M:Nat):(Ce.join n N m M).l=bytesL n N ++ bytesL m M:=by
 show bytesL (n+m) (N%pw n+M*pw n)=bytesL n N ++ bytesL m M
 rw [pw_eq,qo3 M];have hlow:N%256 ^ n<256 ^ n:=qb6 _ (zch n);refine zfk (by simp [bytesL_length]) fun i hi=> ?_
 by_cases h1:i<n
 ·rw [qr1 (by rw [bytesL_length];exact h1),bytesL_get,qj h1,B_low h1,B_mod h1]
 ·obtain ⟨j,rfl⟩:∃j,i=n+j:=⟨i - n,oM⟩
  rw [qw1 (by rw [bytesL_length];omega),bytesL_length,show n+j - n=j from oM,zdk1 hlow,bytesL_get,qj oM]
theorem pack_l {xs:List AV}{N:Nat}(h:pack xs=some N):bytesL (Ev.len xs) N=xs:=by
 have:=of_l xs;unfold of at this;rw [h] at this;exact this
theorem app_l (a b:Ce):(Ce.app a b).l=a.l ++ b.l:=by
 cases a with
 |lst xs =>
  cases b with
  |lst ys=>rfl
  |byt m M =>
   show (match pack xs with|some N=>join (Ev.len xs) N m M|none=>Ce.lst (xs ++ Ev.bytesL m M)).l=xs ++ bytesL m M
   cases h:pack xs with
   |none=>rfl
   |some N=>simp only;rw [zek1,pack_l h]
 |byt n N =>
  cases b with
  |lst ys =>
   show (match pack ys with|some M=>join n N (Ev.len ys) M|none=>Ce.lst (Ev.bytesL n N ++ ys)).l=bytesL n N ++ ys
   cases h:pack ys with
   |none=>rfl
   |some M=>simp only;rw [zek1,pack_l h]
  |byt m M=>exact zek1 n N m M
theorem zjo:∀n N,(bytesL n N).all AV.oneCell=true
 |0,_=>rfl
 |n+1,N=>by rw [zve,ql7,zjo n];rfl
theorem one_l {c:Ce}(h:c.one=true):c.l.all AV.oneCell=true:=by
 cases c with
 |lst l=>exact h
 |byt n N=>exact zjo n N
theorem zax (m n:Nat):bytesL (n*m) 0=rep (bytesL m 0) n:=by
 refine qm3 fun i=> ?_
 by_cases h:i<n*m
 ·have hm:0<m:=by
   rcases qp3 m with rfl|h'
   ·simp at h
   ·exact h'
  rw [zhi _ _ _ (by rw [bytesL_length];exact h),bytesL_get,bytesL_get,bytesL_length,qj h,qj (qb6 _ hm)]
  simp [B]
 ·rw [qx1 (by rw [bytesL_length];omega),qx1 (by rw [zuc,bytesL_length];omega)]
theorem repC_l (zs:List AV) (n:Nat):(Ce.repC zs n).l=rep zs n:=by
 unfold Ce.repC;split
 ·next h =>
  have:=pack_some zs 0 h;rw [l_byt,zse];show bytesL (n*zs.length) 0=_
  rw [zax,this]
 ·rfl
theorem zbx (N n:Nat):N%256 ^ (n+1)=N%256 ^ n+256 ^ n*B N n:=by
 rw [Nat.pow_succ,Nat.mod_mul];rfl
theorem mod_eq_iff (N M:Nat):∀n,N%256 ^ n=M%256 ^ n↔ ∀i,i<n->B N i=B M i
 |0=>by simp [Nat.mod_one]
 |n+1=>by
  rw [zbx,zbx];have hN:N%256 ^ n<256 ^ n:=qb6 _ (zch n);have hM:M%256 ^ n<256 ^ n:=qb6 _ (zch n);constructor
  ·intro h i hi
   have h1:N%256 ^ n=M%256 ^ n:=by
    have:=qj4 (·% 256 ^ n) h
    simpa [qv5,qs4 hN,qs4 hM] using this
   have h2:B N n=B M n:=by
    have:=qj4 (·/ 256 ^ n) h
    simpa [qi6 _ _ (zch n),qx5 hN,qx5 hM] using this
   by_cases hin:i<n
   ·exact (mod_eq_iff N M n).1 h1 i hin
   ·rw [show i=n from oM];exact h2
  ·intro h
   rw [(mod_eq_iff N M n).2 fun i hi=>h i oM,h n oM]
end Ce
theorem toC_l (v:AV):v.toC.l=v.cells:=by
 cases v<;>first|rfl|exact Ce.of_l _
theorem zii (k:IntKind) (n:Int):fwrap k n=k.wrap n:=by
 cases k with
 |i64 =>
  cases n with
  |ofNat m =>
   show (match Nat.ble m 9223372036854775807 with|true=>Int.ofNat m|false=>IntKind.wrap .i64 (Int.ofNat m))=_
   cases h:Nat.ble m 9223372036854775807 with
   |false=>rfl
   |true =>
    have:=qf1 h;exact (IntWalk.i64_in (Int.ofNat m) ⟨by simp only [qc2];omega,by simp only [qc2];omega⟩).symm
  |negSucc m =>
   show (match Nat.ble m 9223372036854775807 with|true=>Int.negSucc m|false=>IntKind.wrap .i64 (Int.negSucc m))=_
   cases h:Nat.ble m 9223372036854775807 with
   |false=>rfl
   |true =>
    have:=qf1 h;exact (IntWalk.i64_in (Int.negSucc m) ⟨by rw [qe2];omega,by rw [qe2];omega⟩).symm
 |u8 =>
  cases n with
  |ofNat m =>
   show Int.ofNat (m%256)=_
   simp only [IntKind.wrap,IntKind.bits,IntKind.signed,qc2,Int.reducePow,qq2,qj1,qq3];omega
  |negSucc m=>rfl
 |u64 =>
  cases n with
  |ofNat m =>
   show Int.ofNat (m%18446744073709551616)=_
   simp only [IntKind.wrap,IntKind.bits,IntKind.signed,qc2,Int.reducePow,qq2,qj1,qq3];omega
  |negSucc m=>rfl
 |i8=>rfl
 |i16=>rfl
 |i32=>rfl
 |u16=>rfl
 |u32=>rfl
end Go.Ev
namespace Go.Ev
structure EB where
 blk:Nat
 off:Nat
 extra:Nat
abbrev Env:=Nat->EB
def zbc1 (n N:Nat):List Value:=(bytesL n N).map fun v=>match v with| .int k m=>Value.int k m|_=>undef
def xOffG (M n o:Nat):Nat:=match Nat.beq (Nat.mod n 2) 0 with|true=>0|false=>Nat.div o M
def xCapG (M n o:Nat):Nat:=match Nat.beq (Nat.mod n 2) 0 with|true=>o|false=>Nat.mod o M
def zfk1 (M n:Nat):Option Nat:=match Nat.beq (Nat.mod n 2) 0 with|true=>none|false=>(match Nat.div (Nat.div n 2) M with|0=>none|s+1=>some s)
def xOff (n o:Nat):Nat:=xOffG 18446744073709551616 n o
def xCap (n o:Nat):Nat:=xCapG 18446744073709551616 n o
def xSpot (n:Nat):Option Nat:=zfk1 18446744073709551616 n
mutual
def conc (E:Env):AV->Value
 | .bool b=>.bool b
 | .int k n=>.int k n
 | .str s=>.string s
 | .nilPtr=>.pointer none
 | .ptr i o=>.pointer (some ⟨(E i).blk,(E i).off+o,none⟩)
 | .nilSl=>.slice none 0 0
 | .sl i o l n op=>.slice (some ⟨(E i).blk,(E i).off+o,none⟩) l (n+(if op then (E i).extra else 0))
 | .nilMap=>.map none
 | .map i=>.map (some (E i).blk)
 | .fn f a b=>.func f (concL E a).toArray (concL E b).toArray
 | .yld i=>.func (.yield (E i).blk) #[] #[]
 | .nilFn=>.nilFunc
 | .ifc t v=>.iface t (conc E v)
 | .nilIfc=>.nilIface
 | .agg cs=>.agg (concL E cs).toArray
 | .tup vs=>.tuple (concL E vs).toArray
 | .bag n N=>.agg (zbc1 n N).toArray
 | .ext k i o=>match k with|0=>.chan none|1=>(match o with|0=>.chan (some (E i).blk)|d+1=>.slice (some ⟨(E i).blk,(E i).off+(match (E i).extra with|0=>0|_+1=>d),none⟩) 0 (E i).extra)|2=>.pointer (some ⟨i,o,none⟩)|n+3=>.slice (some ⟨i,xOff n o,xSpot n⟩) (xLen n) (xCap n o)
def concL (E:Env):List AV->List Value
 | []=> []
 |v::vs=>conc E v::concL E vs
end
theorem zko {k o:Nat}(h:(Nat.beq k 1 && Nat.ble 1 o)=true):∃d,k=1/\o=d+1:=by
 rw [qm] at h;exact ⟨o - 1,qi h.1,by have:=qf1 h.2;omega⟩
def spotN (a:Addr):Nat:=match a.spot with|none=>0|some s=>s+1
def extG (M:Nat) (a:Addr) (len cap:Nat):AV:=.ext (2*(spotN a*M+len)+1+3) a.block (a.off*M+cap)
def extSl (a:Addr) (len cap:Nat):AV:=extG 18446744073709551616 a len cap
theorem zur (q:Nat):Nat.mod (2*q+1) 2=1:=by show (2*q+1)%2=1;omega
theorem zsg1 (q:Nat):Nat.div (2*q+1) 2=q:=by show (2*q+1) / 2=q;omega
theorem ztg1 {M q l:Nat}(h:l<M):Nat.mod (q*M+l) M=l:=by show (q*M+l)%M=l;rw [qo3,Nat.mul_add_mod];exact qs4 h
theorem zug1 {M q l:Nat}(h:l<M):Nat.div (q*M+l) M=q:=by show (q*M+l) / M=q;rw [qo3,Nat.mul_add_div oM,qx5 h];rfl
theorem zvr {M s l:Nat}(h:l<M):xLenG M (2*(s*M+l)+1)=l:=by
 unfold xLenG;rw [zur,zsg1,ztg1 h]
theorem zcc1 {M q o l:Nat}(h:l<M):xCapG M (2*q+1) (o*M+l)=l:=by
 unfold xCapG;rw [zur,ztg1 h]
theorem zdc1 {M q o l:Nat}(h:l<M):xOffG M (2*q+1) (o*M+l)=o:=by
 unfold xOffG;rw [zur,zug1 h]
theorem zcx {M l:Nat}(a:Addr) (h:l<M):zfk1 M (2*(spotN a*M+l)+1)=a.spot:=by
 unfold zfk1;rw [zur,zsg1,zug1 h];unfold spotN;cases a.spot<;>rfl
theorem zgk1 {M:Nat}{a:Addr}{l c:Nat}(h:l<M):∃k o,extG M a l c= .ext (k+3) a.block o/\xLenG M k=l:=⟨_,_,rfl,zvr h⟩
theorem zwr {a:Addr}{l c:Nat}(h:l<18446744073709551616):∃k o,extSl a l c= .ext (k+3) a.block o/\xLen k=l:=zgk1 h
theorem zlo (E:Env) (a:Addr){len cap:Nat}(hl:len<18446744073709551616) (hc:cap<18446744073709551616):conc E (extSl a len cap)= .slice (some a) len cap:=by
 have e:∀(k i o:Nat),conc E (.ext (k+3) i o)= .slice (some ⟨i,xOff k o,xSpot k⟩) (xLen k) (xCap k o):=fun _ _ _=>rfl
 unfold extSl extG;rw [e];unfold xOff xSpot xLen xCap;rw [zdc1 hc,zcx a hl,zvr hl,zcc1 hc]
theorem zkd (E:Env) (l:List AV):concL E l=l.map (conc E):=by
 induction l with
 |nil=>rfl
 |cons a l ih=>show conc E a::concL E l=_;rw [ih];rfl
theorem zpa (E:Env) (l:List AV):(concL E l).length=l.length:=by rw [zkd];simp
theorem zkc (E:Env) (l m:List AV):concL E (l ++ m)=concL E l ++ concL E m:=by simp [zkd]
theorem zma? (E:Env) (l:List AV) (i:Nat):(concL E l)[i]? =l[i]?.map (conc E):=by simp [zkd]
abbrev cA (E:Env) (i o:Nat):Addr:=⟨(E i).blk,(E i).off+o,none⟩
theorem zhl (E:Env) (i o n:Nat):(cA E i o).add n=cA E i (o+n):=by
 unfold Addr.add;split
 ·next h=>subst h;rfl
 ·simp [cA,qa6]
theorem zxr (E:Env):∀n N,zbc1 n N=concL E (bytesL n N)
 |0,_=>rfl
 |n+1,N=>by
  show Value.int .u8 (.ofNat (N%256))::zbc1 n (N / 256)=Value.int .u8 (.ofNat (N%256))::concL E (bytesL n (N / 256))
  rw [zxr E n]
theorem zdg (E:Env) (n N:Nat):conc E (.bag n N)= .agg (concL E (bytesL n N)).toArray:=by
 show Value.agg (zbc1 n N).toArray=_
 rw [zxr E]
theorem zab (E:Env) (v:AV):(conc E v).cells=(concL E v.cells).toArray:=by
 cases v<;>first|rfl|(rw [zdg];rfl)|(next k i o=>match k,o with|0,_=>rfl|1,0=>rfl|1,_+1=>rfl|2,_=>rfl|_+3,_=>rfl)
theorem zdq (E:Env) (c:Ce):conc E c.toV= .agg (concL E c.l).toArray:=by
 cases c with
 |lst l=>rfl
 |byt n N=>exact zdg E n N
theorem znd {E:Env}{v:AV}{c:Ce}(h:v.aggC=some c):conc E v= .agg (concL E c.l).toArray:=by
 cases v<;>first
  |(cases h;rfl)
  |(cases h;exact zdg E _ _)
  |cases h
def ABlk.own:ABlk->Bool
 | .cells _ _ _ _ ro=> !ro
 | .defd=>false
 | .glob _ _=>false
 |_=>true
def ABlk.live:ABlk->Bool
 | .defd=>false
 |_=>true
noncomputable def getT (T:Tr AV) (t:Nat):AV:=(T.get t).getD .undef
theorem zrm (T:Tr AV) (d:Nat) (v:AV) (t:Nat):getT (T.set d v) t=if t=d then v else getT T t:=by
 unfold getT;rw [Tr.get_set];split<;>rfl
def TRel (E:Env) (T:Tr AV) (tmps:Array Value):Prop:= ∀t,tmps.getD t undef=conc E (getT T t)
def wfOps (n:Nat) (ops:Array Oper):Bool:=ops.toList.all fun o=>match o.dst with|some d=>Nat.blt d n|none=>true
def wfC (n:Nat):Code->Bool
 | .region _ ops _=>wfOps n ops
 | .seq a b=>wfC n a && wfC n b
 | .cond _ a b=>wfC n a && wfC n b
 | .block _ a=>wfC n a
 | .loop a=>wfC n a
 | .rangeFunc _ ps a b=>ps.toList.all (fun d=>Nat.blt d n) && wfC n a && wfC n b
 | .scope a=>wfC n a
 |_=>true
def entryOf (E:Env) (e:AV×AV×Nat):MapEntry:= {key:=conc E e.1,val:=conc E e.2.1,born:=e.2.2}
def Unfz (n:Nat) (fz:Nat×Nat):Prop:=fz.1<=fz.2/\ ∀j,j<n-> ¬(fz.1<=j/\j<fz.2)
def FlatV (u:Value):Prop:= ∃v:AV,∀E:Env,conc E v=u
def BRel (E:Env) (i:Nat) (b:ABlk) (w:World):Prop :=
 match b with
 | .cells vs et z op ro=> ∃cs e fz,w.heap[(E i).blk]? =some (.cells cs e fz)/\(∀(j:Nat) v,vs.l[j]? =some v->cs[(E i).off+j]? =some (conc E v)) /\
   (ro=false->Unfz cs.size fz/\cs.size=(E i).off+vs.l.length+(if op then (E i).extra*z else 0)/\(op=true-> ∀(j:Nat) u,(E i).off+vs.l.length<=j->cs[j]? =some u->FlatV u)/\(z≠1-> ¬(fz.1<=cs.size/\cs.size<fz.2))/\e=et)
 | .map es clock=>w.heap[(E i).blk]? =some (.map (es.map (entryOf E)).toArray clock)
 | .loop st pend T _ ps as bd=> ∃r:Loop,w.heap[(E i).blk]? =some (.loop r)/\r.state=st/\r.pending=pend/\TRel E T r.tmps/\r.params.toList=ps/\r.assign=as/\r.body=bd /\
   (∃m,m<=r.tmps.size/\wfC m as=true/\wfC m bd=true/\ ∀d∈ps,d<m)
 | .miter m since seen last=>(E i).off=0/\w.heap[(E i).blk]? =some (.mapIter (some (E m).blk) since seen.toArray last)
 | .chan cap buf=> ∃s r,w.heap[(E i).blk]? =some (.chan cap (concL E buf).toArray false s r false)
 | .glob g v=>(E i).blk=g/\ ∃cs e fz,w.heap[(E i).blk]? =some (.cells cs e fz)/\cs[0]? =some (conc E v)
 | .defd=>True
theorem BRel.obj {E:Env}{i:Nat}{b:ABlk}{w:World}(h:BRel E i b w) (hl:b.live=true):(E i).blk<w.heap.size:=by
 rcases qf2 (E i).blk w.heap.size with h'|h'
 ·exact h'
 ·have hn:w.heap[(E i).blk]? =none:=qy2 h'
  cases b with
  |cells vs e z op ro=>obtain ⟨cs,e,fz,h1,_⟩:=h;rw [hn] at h1;cases h1
  |map es c=>simp only [BRel] at h;rw [hn] at h;cases h
  |loop st p T n ps a b=>obtain ⟨r,h1,_⟩:=h;rw [hn] at h1;cases h1
  |miter m s n l=>have h:=h.2;rw [hn] at h;cases h
  |chan c b=>obtain ⟨s,r,h1⟩:=h;rw [hn] at h1;cases h1
  |glob g v=>obtain ⟨_,cs,e,fz,h1,_⟩:=h;rw [hn] at h1;cases h1
  |defd=>cases hl
theorem BRel.congr {E:Env}{i:Nat}{b:ABlk}{w w':World}(h:BRel E i b w) (he:b.live=true->w'.heap[(E i).blk]? =w.heap[(E i).blk]?):BRel E i b w':=by
 cases b with
 |cells vs e z op ro=>unfold BRel at *;rw [he rfl];exact h
 |map es c=>unfold BRel at *;rw [he rfl];exact h
 |loop st p T n ps a b=>unfold BRel at *;rw [he rfl];exact h
 |miter m s n l=>unfold BRel at *;rw [he rfl];exact h
 |chan c b=>unfold BRel at *;rw [he rfl];exact h
 |glob g v=>unfold BRel at *;rw [he rfl];exact h
 |defd=>trivial
structure AH.Wf (H:AH):Prop where
 tree:∀i b,H.tree.get i=some b->i<H.next
 lo:H.lo<=H.next
 hide:∀r∈H.hide,r.2<=H.next
theorem AH.get_some {H:AH}{i:Nat}{b:ABlk}:H.get i=some b↔H.vis i=true/\H.tree.get i=some b:=by
 unfold AH.get;cases h:H.vis i<;>simp
theorem AH.Wf.get_lt {H:AH}(h:H.Wf){i:Nat}{b:ABlk}(hg:H.get i=some b):i<H.next:=h.tree i b (AH.get_some.1 hg).2
theorem AH.Wf.vis_ge {H:AH}(h:H.Wf){i:Nat}(hi:H.next<=i):H.vis i=true:=by
 unfold AH.vis;rw [qb1];intro r hr;have:=h.hide r hr;simp only [qg5];right;exact qh oM
structure HRel (B:Nat) (E:Env) (H:AH) (w:World):Prop where
 blk:∀i b,H.get i=some b->BRel E i b w
 inj:∀i j b c,H.get i=some b->H.get j=some c->i≠j->b.own=true->c.live=true->(E i).blk≠(E j).blk
 base:∀i b,H.get i=some b->b.own=true->B<=(E i).blk
 size:B<=w.heap.size
def Agree (n:Nat) (E E':Env):Prop:= ∀i,i<n->E' i=E i
theorem Agree.refl (n:Nat) (E:Env):Agree n E E:=fun _ _=>rfl
theorem Agree.trans {n m:Nat}{E E1 E2:Env}(h:Agree n E E1) (h':Agree m E1 E2) (hle:n<=m):Agree n E E2 :=
 fun i hi=>(h' i (qa1 hi hle)).trans (h i hi)
theorem HRel.ldG {B:Nat}{E:Env}{H:AH}{w:World}(h:HRel B E H w){k g o:Nat}{v:AV}(hr:Ev.ldG k g o H=some v):k=2/\o=0/\w.cell? ⟨g,0,none⟩=some (conc E v):=by
 unfold Ev.ldG at hr;split at hr
 ·next hk =>
  rw [qm] at hk;refine ⟨qi hk.1,qi hk.2,?_⟩;split at hr
  ·next g' u hg =>
   split at hr
   ·next he =>
    cases hr
    have he:=qi he;subst he;obtain ⟨h0,cs,e,fz,h1,h2⟩:=h.blk _ _ hg;rw [h0] at h1;unfold World.cell?
    simp only [h1,qc4,qj1,qq3];exact h2
   ·cases hr
  ·cases hr
 ·cases hr
theorem HRel.cell {B:Nat}{E:Env}{H:AH}{w:World}(h:HRel B E H w){i:Nat}{vs:List AV}(hr:H.row i=some vs){o:Nat}{v:AV}(hv:vs[o]? =some v) :
  w.cell? (cA E i o)=some (conc E v):=by
 unfold AH.row at hr;cases hg:H.get i with
 |none=>rw [hg] at hr;cases hr
 |some b =>
  rw [hg] at hr;cases b with
  |cells us e z op ro =>
   simp only [qz1] at hr;subst hr;obtain ⟨cs,e',fz,h1,h2,_⟩:=h.blk i _ hg;unfold World.cell?
   simp only [cA,h1,qc4,qj1,qq3];exact h2 o v hv
  |_=>cases hr
theorem zjj {P:Program}{w:World}{E:Env}{i:Nat}(n:Nat):∀(o k:Nat) (acc:Array Value) (l:List AV),l.length=n ->
  (∀(j:Nat) v,l[j]? =some v->w.cell? (cA E i (o+k+j))=some (conc E v)) ->
  (loadCellsFrom (cA E i o) k n acc).run P w= .ok (acc ++ (concL E l).toArray) w:=by
 induction n with
 |zero =>
  intro o k acc l hl _;have:l= []:=ql1 hl;subst this;simp [loadCellsFrom,concL,Sem.run,pure]
 |succ n ih =>
  intro o k acc l hl hc;cases l with
  |nil=>simp at hl
  |cons v l =>
   have h0:=hc 0 v (by simp)
   have hr:=ih o (k+1) (acc.push (conc E v)) l (by simpa using hl) (fun j u hu=>by
    have:=hc (j+1) u (by simpa using hu)
    rwa [show o+(k+1)+j=o+k+(j+1) from oM])
   show (Sem.bind (load ((cA E i o).add k)) _).run P w=_
   simp only [load,Sem.bind,Sem.run,zhl,qk4] at h0 ⊢
   rw [h0];show (loadCellsFrom (cA E i o) (k+1) n (acc.push (conc E v))).run P w=_
   rw [hr];simp [concL]
theorem HRel.read {B:Nat}{E:Env}{H:AH}{w:World}{P:Program}(h:HRel B E H w){i o n:Nat}{l:List AV}(hr:H.read i o n=some l) :
  (loadCells (cA E i o) n).run P w= .ok (concL E l).toArray w:=by
 unfold AH.read at hr;cases hv:H.row i with
 |none=>rw [hv] at hr;cases hr
 |some vs =>
  rw [hv] at hr;obtain ⟨hl,hj⟩:=zcf hr;have:=zjj (P:=P) (w:=w) (E:=E) (i:=i) n o 0 #[] l hl (fun j v hjv=>by
   have hlt:j<n:=by
    rcases qf2 j n with h'|h'
    ·exact h'
    ·rw [qx1 oM] at hjv;cases hjv
   rw [(hj j hlt).1] at hjv;exact h.cell hv hjv)
  simpa [loadCells] using this
theorem zmj {H:AH}{i o n:Nat}{l:Ce}(h:H.subC i o n=some l):H.read i o n=some l.l:=by
 unfold AH.subC at h;unfold AH.read AH.row;cases hg:H.get i with
 |none=>rw [hg] at h;cases h
 |some b =>
  rw [hg] at h;cases b with
  |cells vs e z op ro=>exact Ce.sub_l h
  |_=>cases h
theorem HRel.read1 {B:Nat}{E:Env}{H:AH}{w:World}{P:Program}(h:HRel B E H w){i o:Nat}{v:AV}(hr:H.read1 i o=some v) :
  (load (cA E i o)).run P w= .ok (conc E v) w:=by
 unfold AH.read1 at hr;cases hv:H.row i with
 |none=>rw [hv] at hr;cases hr
 |some vs =>
  rw [hv] at hr;simp only [zcg] at hr;simp only [load,Sem.run];rw [h.cell hv hr]
def zvc (w:World) (b:Nat) (o:Obj):World:= {w with heap:=w.heap.setIfInBounds b o}
theorem zld {w:World}{b:Nat}{o o':Obj}(h:w.heap[b]? =some o'):(zvc w b o).heap[b]? =some o:=by
 have:b<w.heap.size:=by
  rcases qf2 b w.heap.size with h'|h'
  ·exact h'
  ·rw [qy2 h'] at h;cases h
 simp [zvc,qa3,this]
theorem zmg {w:World}{b c:Nat}{o:Obj}(h:b≠c):(zvc w b o).heap[c]? =w.heap[c]? :=by
 simp [zvc,qa3,h]
theorem zwe {w:World}{b:Nat}{o:Obj}:(zvc w b o).heap.size=w.heap.size:=by simp [zvc]
theorem zmo {w:World}{b:Nat}{o o':Obj}:zvc (zvc w b o) b o'=zvc w b o':=by
 simp [zvc]
theorem zdx {w:World}{b off:Nat}{cs:Array Value}{e:TypeId}{fz:Nat×Nat}(h:w.heap[b]? =some (.cells cs e fz)) (v:Value) :
  w.setCell ⟨b,off,none⟩ v=zvc w b (.cells (cs.setIfInBounds off v) e fz):=by
 have hlt:b<w.heap.size:=by
  rcases qf2 b w.heap.size with h'|h'
  ·exact h'
  ·rw [qy2 h'] at h;cases h
 unfold World.setCell zvc;congr 1;refine Array.ext (by simp) fun j hj1 hj2=> ?_
 rw [Array.getElem_modify,qh6 (by simpa using hj2)]
 by_cases hb:b=j
 ·subst hb
  have:w.heap[b]= .cells cs e fz:=by rw [qs1 hlt] at h;exact qr3 h
  simp [this]
 ·simp [hb]
theorem zjh {P:Program}{E:Env}{i o:Nat}{e:TypeId}{fz:Nat×Nat}(xs:List AV):∀(k:Nat) (w:World) (cs:Array Value),
  w.heap[(E i).blk]? =some (.cells cs e fz)->(∀j,j<cs.size-> ¬(fz.1<=j/\j<fz.2))->(E i).off+o+k+xs.length<=cs.size->xs.all AV.oneCell=true ->
  ∃cs':Array Value,(storeCells (cA E i o) (concL E xs) k).run P w= .ok () (zvc w (E i).blk (.cells cs' e fz))/\cs'.size=cs.size /\
   ∀j,cs'[j]? =if (E i).off+o+k<=j/\j<(E i).off+o+k+xs.length then (xs[j - ((E i).off+o+k)]?).map (conc E) else cs[j]? :=by
 induction xs with
 |nil =>
  intro k w cs hw _ _ _;refine ⟨cs,?_,rfl,fun j=>by rw [qg (by simp)]⟩
  have hlt:(E i).blk<w.heap.size:=by
   rcases qf2 (E i).blk w.heap.size with h'|h'
   ·exact h'
   ·rw [qy2 h'] at hw;cases hw
  have:zvc w (E i).blk (.cells cs e fz)=w:=by
   unfold zvc;have he:w.heap[(E i).blk]= .cells cs e fz:=by rw [qs1 hlt] at hw;exact qr3 hw
   have:w.heap.setIfInBounds (E i).blk (.cells cs e fz)=w.heap:=by
    refine Array.ext (by simp) fun j hj1 hj2=> ?_
    rw [qh6 (by simpa using hj2)]
    split
    ·next h=>subst h;exact he.symm
    ·rfl
   rw [this]
  rw [this];simp [storeCells,concL,Sem.run,pure]
 |cons x xs ih =>
  intro k w cs hw hfz hle hone;simp only [qi2] at hle;simp only [ql7,qm] at hone;have hcell:w.cell? (cA E i (o+k))=some (cs[(E i).off+(o+k)]' oM):=by
   unfold World.cell?
   simp only [cA,hw,qc4,qj1,qq3];exact qs1 oM
  have hfrz:w.frozen? (cA E i (o+k))=false:=by
   unfold World.frozen?
   simp only [cA,hw];have:=hfz ((E i).off+(o+k)) oM
   simp only [Bool.and_eq_false_imp,qs,qa4];intro h1 h2;exact this ⟨h1,h2⟩
  have hset:=zdx (off:=(E i).off+(o+k)) hw (conc E x);obtain ⟨cs',hr,hs,hj⟩:=ih (k+1) (zvc w (E i).blk (.cells (cs.setIfInBounds ((E i).off+(o+k)) (conc E x)) e fz)) (cs.setIfInBounds ((E i).off+(o+k)) (conc E x))
   (zld hw) (by simpa using hfz) (by simp;omega) hone.2
  refine ⟨cs',?_,by simpa using hs,fun j=> ?_⟩
  ·rw [zmo] at hr
   show (Sem.bind (store ((cA E i o).add k) (conc E x)) _).run P w=_
   simp only [store,Sem.bind,zhl];have hrun:∀(K:Sem Unit),(Sem.store .plain (cA E i (o+k)) (conc E x) K).run P w=K.run P (w.setCell (cA E i (o+k)) (conc E x)):=by
    intro K;cases x<;>first
     |(exfalso;have hh:=hone.1;cases hh;done)
     |(simp only [conc,Sem.run];rw [hcell];simp only [hfrz,qj1,qq3];rfl)
     |(simp only [conc,Sem.run];rw [hcell];simp only [hfrz,qj1,qq3])
     |(next k i o=>rcases k with _|_|_|k<;>rcases o with _|o<;>simp only [conc,Sem.run]<;>rw [hcell]<;>simp only [hfrz,qj1,qq3])
   rw [hrun,show w.setCell (cA E i (o+k)) (conc E x)=_ from hset]
   exact hr
  ·rw [hj]
   simp only [qi2];by_cases h0:j=(E i).off+o+k
   ·subst h0
    rw [qg oM,qj oM]
    simp only [qo7,qq1,qd4];rw [qa3];rw [qj oM,qj oM]
   ·by_cases h1:(E i).off+o+(k+1)<=j/\j<(E i).off+o+(k+1)+xs.length
    ·rw [qj h1,qj oM]
     obtain ⟨d,hd⟩:∃d,j - ((E i).off+o+k)=d+1:=⟨j - ((E i).off+o+k) - 1,oM⟩
     rw [hd,show j - ((E i).off+o+(k+1))=d from oM];simp
    ·rw [qg h1,qg oM]
     rw [qa3,qg oM]
end Go.Ev
