import Derived.CallsIn
set_option linter.unusedSimpArgs false
set_option linter.unusedVariables false
namespace Go.Ev
noncomputable section

/-! ### A binary trie on numbers -/

structure Oct (α : Type) where
  a : α
  b : α
  c : α
  d : α
  e : α
  f : α
  g : α
  h : α
inductive Dg where
  | d0 | d1 | d2 | d3 | d4 | d5 | d6 | d7

namespace Oct
def get {α : Type} (d : Dg) : Oct α → α :=
  Dg.rec (motive := fun _ => Oct α → α)
    (fun r => r.a)
    (fun r => r.b)
    (fun r => r.c)
    (fun r => r.d)
    (fun r => r.e)
    (fun r => r.f)
    (fun r => r.g)
    (fun r => r.h) d
/-- With another part; the part itself is left unasked. -/
def put {α : Type} (d : Dg) : α → Oct α → Oct α :=
  Dg.rec (motive := fun _ => α → Oct α → Oct α)
    (fun x r => Oct.rec (motive := fun _ => Oct α) (fun a b c d e f g h => ⟨x,b,c,d,e,f,g,h⟩) r)
    (fun x r => Oct.rec (motive := fun _ => Oct α) (fun a b c d e f g h => ⟨a,x,c,d,e,f,g,h⟩) r)
    (fun x r => Oct.rec (motive := fun _ => Oct α) (fun a b c d e f g h => ⟨a,b,x,d,e,f,g,h⟩) r)
    (fun x r => Oct.rec (motive := fun _ => Oct α) (fun a b c d e f g h => ⟨a,b,c,x,e,f,g,h⟩) r)
    (fun x r => Oct.rec (motive := fun _ => Oct α) (fun a b c d e f g h => ⟨a,b,c,d,x,f,g,h⟩) r)
    (fun x r => Oct.rec (motive := fun _ => Oct α) (fun a b c d e f g h => ⟨a,b,c,d,e,x,g,h⟩) r)
    (fun x r => Oct.rec (motive := fun _ => Oct α) (fun a b c d e f g h => ⟨a,b,c,d,e,f,x,h⟩) r)
    (fun x r => Oct.rec (motive := fun _ => Oct α) (fun a b c d e f g h => ⟨a,b,c,d,e,f,g,x⟩) r) d
/-- With another part, that is gone through first. -/
def putF {α : Type} (d : Dg) : Oct α → Oct (Oct α) → Oct (Oct α) :=
  Dg.rec (motive := fun _ => Oct α → Oct (Oct α) → Oct (Oct α))
    (fun x r => Oct.rec (motive := fun _ => Oct (Oct α)) (fun p q s t u v w y => Oct.rec (motive := fun _ => Oct (Oct α)) (fun a b c d e f g h => ⟨⟨p, q, s, t, u, v, w, y⟩,b,c,d,e,f,g,h⟩) r) x)
    (fun x r => Oct.rec (motive := fun _ => Oct (Oct α)) (fun p q s t u v w y => Oct.rec (motive := fun _ => Oct (Oct α)) (fun a b c d e f g h => ⟨a,⟨p, q, s, t, u, v, w, y⟩,c,d,e,f,g,h⟩) r) x)
    (fun x r => Oct.rec (motive := fun _ => Oct (Oct α)) (fun p q s t u v w y => Oct.rec (motive := fun _ => Oct (Oct α)) (fun a b c d e f g h => ⟨a,b,⟨p, q, s, t, u, v, w, y⟩,d,e,f,g,h⟩) r) x)
    (fun x r => Oct.rec (motive := fun _ => Oct (Oct α)) (fun p q s t u v w y => Oct.rec (motive := fun _ => Oct (Oct α)) (fun a b c d e f g h => ⟨a,b,c,⟨p, q, s, t, u, v, w, y⟩,e,f,g,h⟩) r) x)
    (fun x r => Oct.rec (motive := fun _ => Oct (Oct α)) (fun p q s t u v w y => Oct.rec (motive := fun _ => Oct (Oct α)) (fun a b c d e f g h => ⟨a,b,c,d,⟨p, q, s, t, u, v, w, y⟩,f,g,h⟩) r) x)
    (fun x r => Oct.rec (motive := fun _ => Oct (Oct α)) (fun p q s t u v w y => Oct.rec (motive := fun _ => Oct (Oct α)) (fun a b c d e f g h => ⟨a,b,c,d,e,⟨p, q, s, t, u, v, w, y⟩,g,h⟩) r) x)
    (fun x r => Oct.rec (motive := fun _ => Oct (Oct α)) (fun p q s t u v w y => Oct.rec (motive := fun _ => Oct (Oct α)) (fun a b c d e f g h => ⟨a,b,c,d,e,f,⟨p, q, s, t, u, v, w, y⟩,h⟩) r) x)
    (fun x r => Oct.rec (motive := fun _ => Oct (Oct α)) (fun p q s t u v w y => Oct.rec (motive := fun _ => Oct (Oct α)) (fun a b c d e f g h => ⟨a,b,c,d,e,f,g,⟨p, q, s, t, u, v, w, y⟩⟩) r) x) d
def all {α : Type} (x : α) : Oct α := ⟨x, x, x, x, x, x, x, x⟩
end Oct

def dg (n : Nat) : Dg :=
  Nat.rec (motive := fun _ => Dg) .d0 (fun n _ => Nat.rec (motive := fun _ => Dg) .d1 (fun n _ => Nat.rec (motive := fun _ => Dg) .d2 (fun n _ => Nat.rec (motive := fun _ => Dg) .d3
    (fun n _ => Nat.rec (motive := fun _ => Dg) .d4 (fun n _ => Nat.rec (motive := fun _ => Dg) .d5 (fun n _ => Nat.rec (motive := fun _ => Dg) .d6 (fun _ _ => .d7) n) n) n) n) n) n) n

/-- What is laid at numbers: those below 64 near by. -/
structure Tr (α : Type) where
  lo : Oct (Oct (Option α))
  mid : Oct (Oct (Oct (Oct (Oct (Oct (Option α))))))
  big : List (Nat × α)

def lrec {α β : Type} (z : β) (f : α → List α → β → β) (l : List α) : β := List.rec (motive := fun _ => β) z f l
def nrecF {α β : Type} (z : α → β) (f : Nat → (α → β) → α → β) (n : Nat) : α → β := Nat.rec (motive := fun _ => α → β) z f n
def brec {β : Type} (f t : β) (b : Bool) : β := Bool.rec (motive := fun _ => β) f t b

namespace Tr
variable {α : Type}
def nil : Tr α := ⟨.all (.all none), .all (.all (.all (.all (.all (.all none))))), []⟩
def getLo (x y : Dg) (t : Tr α) : Option α := Oct.get y (Oct.get x t.lo)
def getMid (u v w x y z : Dg) (t : Tr α) : Option α := Oct.get z (Oct.get y (Oct.get x (Oct.get w (Oct.get v (Oct.get u t.mid)))))
def getBig (k : Nat) (l : List (Nat × α)) : Option α := lrec (β := Option α) none (fun p _ ih => brec ih (some p.2) (Nat.beq p.1 k)) l
def get (t : Tr α) (k : Nat) : Option α :=
  brec (brec (getBig k t.big)
    (getMid (dg (Nat.div k 32768)) (dg (Nat.mod (Nat.div k 4096) 8)) (dg (Nat.mod (Nat.div k 512) 8)) (dg (Nat.mod (Nat.div k 64) 8)) (dg (Nat.mod (Nat.div k 8) 8)) (dg (Nat.mod k 8)) t) (Nat.blt k 262144))
    (getLo (dg (Nat.div k 8)) (dg (Nat.mod k 8)) t) (Nat.blt k 64)
/-- A trie whose near part, or far part, is gone through first. -/
def ofLo (mid : Oct (Oct (Oct (Oct (Oct (Oct (Option α))))))) (big : List (Nat × α)) (lo : Oct (Oct (Option α))) : Tr α :=
  Oct.rec (motive := fun _ => Tr α) (fun a b c d e f g h => ⟨⟨a, b, c, d, e, f, g, h⟩, mid, big⟩) lo
def ofMid (lo : Oct (Oct (Option α))) (big : List (Nat × α)) (mid : Oct (Oct (Oct (Oct (Oct (Oct (Option α))))))) : Tr α :=
  Oct.rec (motive := fun _ => Tr α) (fun a b c d e f g h => ⟨lo, ⟨a, b, c, d, e, f, g, h⟩, big⟩) mid
def setLo (x y : Dg) (v : α) (t : Tr α) : Tr α :=
  Tr.rec (motive := fun _ => Tr α) (fun lo mid big => ofLo mid big (Oct.putF x (Oct.put y (some v) (Oct.get x lo)) lo)) t
def upd {β : Type} (d : Dg) (f : Oct β → Oct β) (t : Oct (Oct β)) : Oct (Oct β) := Oct.putF d (f (Oct.get d t)) t
def setMid (u v w x y z : Dg) (a : α) (t : Tr α) : Tr α :=
  Tr.rec (motive := fun _ => Tr α) (fun lo mid big => ofMid lo big (upd u (upd v (upd w (upd x (upd y (Oct.put z (some a)))))) mid)) t
def setBig (k : Nat) (a : α) (t : Tr α) : Tr α :=
  Tr.rec (motive := fun _ => Tr α) (fun lo mid big => ⟨lo, mid, (k, a) :: big⟩) t
def set (t : Tr α) (k : Nat) (x : α) : Tr α :=
  brec (brec (setBig k x t)
    (setMid (dg (Nat.div k 32768)) (dg (Nat.mod (Nat.div k 4096) 8)) (dg (Nat.mod (Nat.div k 512) 8)) (dg (Nat.mod (Nat.div k 64) 8)) (dg (Nat.mod (Nat.div k 8) 8)) (dg (Nat.mod k 8)) x t) (Nat.blt k 262144))
    (setLo (dg (Nat.div k 8)) (dg (Nat.mod k 8)) x t) (Nat.blt k 64)
def ofList (l : List α) : Tr α :=
  lrec (β := Nat → Tr α → Tr α) (fun _ t => t) (fun x _ ih k t => ih (Nat.succ k) (t.set k x)) l 0 .nil
end Tr

/-! ### Abstract values -/

inductive AV where
  | bool (b : Bool)
  | int (k : IntKind) (n : Int)
  | str (s : ByteArray)
  | nilPtr
  | ptr (i o : Nat)
  | nilSl
  | sl (i o len n : Nat) (op : Bool)
  | nilMap
  | map (i : Nat)
  | fn (f : Fn) (first captured : List AV)
  | yld (i : Nat)
  | nilFn
  | ifc (t : TypeId) (v : AV)
  | nilIfc
  | agg (cs : List AV)
  | tup (vs : List AV)

def AV.undef : AV := .tup []
def AV.cells : AV → List AV
  | .agg cs => cs
  | v => [v]
def AV.oneCell : AV → Bool
  | .agg _ => false
  | .tup _ => false
  | _ => true

inductive ABlk where
  | cells (vs : List AV) (elem : TypeId) (esz : Nat) (op ro : Bool)
  | map (es : List (AV × AV × Nat)) (clock : Nat)
  | loop (st : LoopState) (pend : Option Code) (T : Tr AV) (n : Nat) (params : List Tmp) (assign body : Code)
  | defd
  | siter (s : ByteArray) (pos : Nat)

structure AH where
  tree : Tr ABlk
  next : Nat
  lo : Nat
  hide : List (Nat × Nat)
  fz : Bool := false

namespace AH
def vis (H : AH) (i : Nat) : Bool := H.hide.all fun r => Nat.blt i r.1 || Nat.ble r.2 i
def get (H : AH) (i : Nat) : Option ABlk := match H.vis i with | true => H.tree.get i | false => none
def put (H : AH) (i : Nat) (b : ABlk) : AH := { H with tree := H.tree.set i b }
def new (H : AH) (b : ABlk) : AH := { H with tree := H.tree.set H.next b, next := H.next + 1 }
def drop (H : AH) (i : Nat) : AH := H.put i .defd
end AH

/-! ### What is looked up in a program -/

structure Lk where
  func : FuncId → Option Func
  info : TypeId → Option TypeInfo
  plainEq : TypeId → Bool
  ext : FuncId → Option (List AV → AH → Option (AV × AH))

def obind {α β : Type} (x : Option α) (f : α → Option β) : Option β := match x with | some a => f a | none => none

namespace Lk
def under (L : Lk) (t : TypeId) : Option TypeDesc :=
  match L.info t with
  | some i => match i.desc with
    | .named _ u => (match L.info u with | some j => some j.desc | none => none)
    | d => some d
  | none => none
end Lk

def mapO {α β : Type} (f : α → Option β) (l : List α) : Option (List β) :=
  lrec (β := Option (List β)) (some []) (fun a _ ih => obind (f a) fun b => obind ih fun bs => some (b :: bs)) l

def ofCell : Value → Option AV
  | .bool b => some (.bool b)
  | .int k n => some (.int k n)
  | .string s => some (.str s)
  | .pointer none => some .nilPtr
  | .slice none 0 0 => some .nilSl
  | .map none => some .nilMap
  | .nilFunc => some .nilFn
  | .nilIface => some .nilIfc
  | _ => none
def ofValue : Value → Option AV
  | .agg cs => obind (mapO ofCell cs.toList) fun l => some (.agg l)
  | .tuple cs => obind (mapO ofCell cs.toList) fun l => some (.tup l)
  | v => ofCell v

namespace Lk
def size (L : Lk) (t : TypeId) : Option Nat := match L.info t with | some i => some i.size | none => none
def bytes (L : Lk) (t : TypeId) : Option Nat := match L.info t with | some i => some i.bytes | none => none
def zero (L : Lk) (t : TypeId) : Option AV := match L.info t with | some i => (match i.zero with | some v => ofValue v | none => none) | none => none
def isAgg (L : Lk) (t : TypeId) : Option Bool :=
  match L.under t with
  | some (.struct _) => some true
  | some (.array _ _) => some true
  | some _ => some false
  | none => none
end Lk

def opnd (T : Tr AV) : Operand → Option AV
  | .tmp t => (match T.get t with | some v => some v | none => some AV.undef)
  | .const v => ofValue v
  | .global _ => none
  | .func f => some (.fn (.func f) [] [])

def opnds (T : Tr AV) (l : List Operand) : Option (List AV) := mapO (opnd T) l

/-! ### Rows of cells -/

def nth {α : Type} (l : List α) : Nat → Option α :=
  lrec (β := Nat → Option α) (fun _ => none) (fun a _ ih i => match i with | 0 => some a | j + 1 => ih j) l
def dropN {α : Type} (l : List α) : Nat → List α :=
  lrec (β := Nat → List α) (fun _ => []) (fun a l ih i => match i with | 0 => a :: l | j + 1 => ih j) l
def takeN {α : Type} (l : List α) : Nat → Option (List α) :=
  lrec (β := Nat → Option (List α)) (fun i => match i with | 0 => some [] | _ + 1 => none)
    (fun a _ ih i => match i with | 0 => some [] | j + 1 => (match ih j with | some l => some (a :: l) | none => none)) l
/-- 'xs' written over the head of 'l'; none: there is not so much. -/
def over {α : Type} (xs : List α) : List α → Option (List α) :=
  lrec (β := List α → Option (List α)) (fun l => some l)
    (fun x _ ih l => match l with | [] => none | _ :: l => (match ih l with | some l' => some (x :: l') | none => none)) xs
/-- 'xs' written into 'l' from place 'i' on. -/
def overAt {α : Type} (xs : List α) (l : List α) : Nat → Option (List α) :=
  lrec (β := Nat → Option (List α)) (fun i => match i with | 0 => over xs [] | _ + 1 => none)
    (fun a l ih i => match i with | 0 => over xs (a :: l) | j + 1 => (match ih j with | some l' => some (a :: l') | none => none)) l
def len {α : Type} (l : List α) : Nat := lrec (β := Nat) 0 (fun _ _ n => Nat.succ n) l
def sliceN {α : Type} (l : List α) (i n : Nat) : Option (List α) := takeN (dropN l i) n
def rep {α : Type} (x : List α) (n : Nat) : List α := nrecF (α := Unit) (β := List α) (fun _ => []) (fun _ ih u => x ++ ih u) n ()

namespace AH
/-- The cells of a block. -/
def row (H : AH) (i : Nat) : Option (List AV) := match H.get i with | some (.cells vs _ _ _ _) => some vs | _ => none
def read (H : AH) (i o n : Nat) : Option (List AV) := match H.row i with | some vs => sliceN vs o n | none => none
def read1 (H : AH) (i o : Nat) : Option AV := match H.row i with | some vs => nth vs o | none => none
def write (H : AH) (i o : Nat) (xs : List AV) : Option AH :=
  match Nat.ble H.lo i with
  | false => none
  | true => match H.get i with
    | some (.cells vs e z op ro) => (match ro with
      | true => none
      | false => match xs.all AV.oneCell with
        | false => none
        | true => match overAt xs vs o with
          | some vs' => some (H.put i (.cells vs' e z op ro))
          | none => none)
    | _ => none
end AH

/-! ### Numbers -/

def fwrap (k : IntKind) (n : Int) : Int :=
  match k with
  | .i64 => (match n with
    | .ofNat m => (match Nat.ble m 9223372036854775807 with | true => .ofNat m | false => IntKind.wrap .i64 n)
    | .negSucc m => (match Nat.ble m 9223372036854775807 with | true => .negSucc m | false => IntKind.wrap .i64 n))
  | .u8 => (match n with
    | .ofNat m => .ofNat (m % 256)
    | _ => IntKind.wrap .u8 n)
  | .u64 => (match n with
    | .ofNat m => .ofNat (m % 18446744073709551616)
    | _ => IntKind.wrap .u64 n)
  | k => IntKind.wrap k n

def evInt (op : BinOp) (k : IntKind) (x y : Int) : Option AV :=
  match op with
  | .add => some (.int k (fwrap k (x + y)))
  | .sub => some (.int k (fwrap k (x - y)))
  | .mul => some (.int k (fwrap k (x * y)))
  | .quo => (match y == 0 with | true => none | false => some (.int k (fwrap k (x.tdiv y))))
  | .rem => (match y == 0 with | true => none | false => some (.int k (x.tmod y)))
  | .and => some (.int k (fwrap k (BitVec.ofInt k.bits x &&& BitVec.ofInt k.bits y).toNat))
  | .or => some (.int k (fwrap k (BitVec.ofInt k.bits x ||| BitVec.ofInt k.bits y).toNat))
  | .xor => some (.int k (fwrap k (BitVec.ofInt k.bits x ^^^ BitVec.ofInt k.bits y).toNat))
  | .andNot => some (.int k (fwrap k (BitVec.ofInt k.bits x &&& ~~~BitVec.ofInt k.bits y).toNat))
  | .eql => some (.bool (x == y))
  | .neq => some (.bool (x != y))
  | .lss => some (.bool (x < y))
  | .leq => some (.bool (x ≤ y))
  | .gtr => some (.bool (x > y))
  | .geq => some (.bool (x ≥ y))
  | _ => none

def evShift (op : BinOp) (k : IntKind) (x y : Int) : Option AV :=
  match decide (y < 0) with
  | true => none
  | false => match op with
    | .shl => some (.int k (fwrap k (x * 2 ^ min y.toNat k.bits)))
    | .shr => some (.int k (x.fdiv (2 ^ min y.toNat k.bits)))
    | _ => none

def evStr (op : BinOp) (x y : ByteArray) : Option AV :=
  match op with
  | .add => (match Nat.ble (x.size + y.size) 9223372036854775807 with | true => some (.str (x ++ y)) | false => none)
  | .eql => some (.bool (x.toList == y.toList))
  | .neq => some (.bool (!(x.toList == y.toList)))
  | .lss => some (.bool (Op.bytesLess x.toList y.toList))
  | .leq => some (.bool (Op.bytesLess x.toList y.toList || x.toList == y.toList))
  | .gtr => some (.bool (!(Op.bytesLess x.toList y.toList || x.toList == y.toList)))
  | .geq => some (.bool (!(Op.bytesLess x.toList y.toList)))
  | _ => none

/-- A part of an aggregate. -/
def evPart (L : Lk) (t : TypeId) (cs : List AV) (off : Nat) : Option AV :=
  match L.isAgg t with
  | some true => (match L.size t with | some s => (match sliceN cs off s with | some l => some (.agg l) | none => none) | none => none)
  | some false => nth cs off
  | none => none

/-- Are two values of a type equal? -/
def evEq (L : Lk) (depth : Nat) : TypeId → AV → AV → Option Bool :=
  nrecF (α := TypeId) (β := AV → AV → Option Bool) (fun _ _ _ => none)
    (fun _ ih t x y =>
      match L.under t with
      | none => none
      | some d => match d with
        | .bool => (match x, y with | .bool a, .bool b => some (a == b) | _, _ => none)
        | .int _ => (match x, y with | .int k a, .int k' b => (match decide (k = k') with | true => some (a == b) | false => none) | _, _ => none)
        | .string => (match x, y with | .str a, .str b => some (a == b) | _, _ => none)
        | .pointer e => (match x, y with
          | .nilPtr, .nilPtr => some true
          | .nilPtr, .ptr _ _ => some false
          | .ptr _ _, .nilPtr => some false
          | .ptr i o, .ptr j p => (match Nat.beq i j, L.size e with
            | true, some s => (match Nat.beq s 0 with | true => none | false => some (Nat.beq o p))
            | _, _ => none)
          | _, _ => none)
        | .interface _ => (match x, y with
          | .nilIfc, .nilIfc => some true
          | .nilIfc, .ifc _ _ => some false
          | .ifc _ _, .nilIfc => some false
          | .ifc tx vx, .ifc ty vy => (match Nat.beq tx ty with
            | false => some false
            | true => match L.info tx with
              | some i => (match i.comparable with | true => ih tx vx vy | false => none)
              | none => none)
          | _, _ => none)
        | .struct fs => (match L.plainEq t with
          | false => none
          | true => match x, y with
            | .agg xs, .agg ys =>
              lrec (β := Option Bool) (some true) (fun f _ go =>
                match f.name == "_" with
                | true => go
                | false => match evPart L f.type xs f.offset, evPart L f.type ys f.offset with
                  | some a, some b => (match ih f.type a b with
                    | some true => go
                    | r => r)
                  | _, _ => none) fs.toList
            | _, _ => none)
        | .array n e => (match x, y with
          | .agg xs, .agg ys => (match L.size e with
            | some s =>
              nrecF (α := Nat) (β := Option Bool) (fun _ => some true) (fun _ go i =>
                match evPart L e xs (i * s), evPart L e ys (i * s) with
                | some a, some b => (match ih e a b with
                  | some true => go (i + 1)
                  | r => r)
                | _, _ => none) n 0
            | none => none)
          | _, _ => none)
        | .slice _ => (match x, y with
          | .nilSl, .nilSl => some true
          | .nilSl, .sl _ _ _ _ _ => some false
          | .sl _ _ _ _ _, .nilSl => some false
          | _, _ => none)
        | .map _ _ => (match x, y with
          | .nilMap, .nilMap => some true
          | .nilMap, .map _ => some false
          | .map _, .nilMap => some false
          | _, _ => none)
        | .func _ _ _ => (match x, y with
          | .nilFn, .nilFn => some true
          | .nilFn, .fn _ _ _ => some false
          | .fn _ _ _, .nilFn => some false
          | .nilFn, .yld _ => some false
          | .yld _, .nilFn => some false
          | _, _ => none)
        | _ => none) depth

def isConst : Operand → Bool | .const _ => true | _ => false

def evBin (L : Lk) (op : BinOp) (t : TypeId) (xo yo : Operand) (x y : AV) : Option AV :=
  match op with
  | .shl => (match x, y with | .int k a, .int _ b => evShift .shl k a b | _, _ => none)
  | .shr => (match x, y with | .int k a, .int _ b => evShift .shr k a b | _, _ => none)
  | op => match x, y with
    | .int k a, .int k' b => (match decide (k = k') with | true => evInt op k a b | false => none)
    | .str a, .str b => evStr op a b
    | x, y => match op with
      | .eql | .neq =>
        (match (match x, y with
          | .nilIfc, .nilIfc => isConst xo || isConst yo
          | .agg _, .agg _ => L.plainEq t
          | _, _ => true) with
        | false => none
        | true => match evEq L 40 t x y with
          | some r => some (.bool (match op with | .eql => r | _ => !r))
          | none => none)
      | _ => none

def evUn (op : UnOp) (x : AV) : Option AV :=
  match op with
  | .neg => (match x with | .int k n => some (.int k (fwrap k (0 - n))) | _ => none)
  | .xor => (match x with | .int k n => evInt .xor k (if k.signed then -1 else k.max) n | _ => none)
  | .not => (match x with | .bool b => some (.bool (!b)) | _ => none)
  | _ => none

/-! ### Operations -/

def natOf : AV → Option Nat
  | .int _ n => (match n with | .ofNat m => some m | .negSucc _ => none)
  | _ => none

def fillL (place : Nat → Option (Nat × Nat)) (parts : List (Nat × AV)) : List AV → Option (List AV) :=
  lrec (β := List AV → Option (List AV)) (fun cs => some cs)
    (fun p _ ih cs => match place p.1 with
      | none => none
      | some os => match Nat.beq (len p.2.cells) os.2 with
        | false => none
        | true => match overAt p.2.cells cs os.1 with
          | none => none
          | some cs' => ih cs') parts

def evBuild (L : Lk) (t : TypeId) (parts : List (Nat × AV)) : Option AV :=
  match L.zero t with
  | none => none
  | some z => match L.under t with
    | some (.struct fields) => (match mapO (fun f => match L.size f.type with | some s => some (f.offset, s) | none => none) fields.toList with
      | some pls => (match fillL (nth pls) parts z.cells with
        | some cs => some (.agg cs)
        | none => none)
      | none => none)
    | some (.array _ e) => (match L.size e with
      | some s => (match fillL (fun i => some (i * s, s)) parts z.cells with | some cs => some (.agg cs) | none => none)
      | none => none)
    | _ => none

def evBuildSlice (L : Lk) (t : TypeId) (n : Nat) (parts : List (Nat × AV)) (H : AH) : Option (AV × AH) :=
  match L.under t with
  | some (.slice e) => (match L.size e, L.zero e with
    | some s, some z => (match Nat.ble (n * s) 16777216 && Nat.beq (len z.cells) s with
      | false => none
      | true => match fillL (fun i => some (i * s, s)) parts (rep z.cells n) with
        | some cs => some (.sl H.next 0 n n false, H.new (.cells cs e s false false))
        | none => none)
    | _, _ => none)
  | _ => none

def evLoad (L : Lk) (t : TypeId) (a : AV) (H : AH) : Option AV :=
  match a with
  | .ptr i o => (match L.isAgg t with
    | some true => (match L.size t with | some s => (match H.read i o s with | some l => some (.agg l) | none => none) | none => none)
    | some false => H.read1 i o
    | none => none)
  | _ => none

def evStore (L : Lk) (t : TypeId) (a v : AV) (H : AH) : Option AH :=
  match a with
  | .ptr i o => (match L.size t with
    | some s => (match Nat.beq (len v.cells) s with | true => H.write i o v.cells | false => none)
    | none => none)
  | _ => none

def evMakeSlice (L : Lk) (t : TypeId) (l c : AV) (H : AH) : Option (AV × AH) :=
  match L.under t with
  | some (.slice e) => (match natOf l, natOf c, L.bytes e, L.zero e, L.size e with
    | some l, some c, some b, some z, some s =>
      (match Nat.ble l c && Nat.ble (b * c) 140737488355328 && Nat.ble c 9223372036854775807 && Nat.beq (len z.cells) s with
      | true => some (.sl H.next 0 l c false, H.new (.cells (rep z.cells c) e s false false))
      | false => none)
    | _, _, _, _, _ => none)
  | _ => none

/-- A bound of a slice expression, and what it is where none stands. -/
def bndOf (v : Option AV) (d : Nat) : Option Nat := match v with | none => some d | some v => natOf v
def maxOk (mx hi : Option AV) : Bool := match mx with | none => true | some _ => (match hi with | none => false | some _ => true)
def offOf (m l o z : Nat) : Nat := match Nat.beq m l with | true => o | false => o + l * z
def evSlice (L : Lk) (t : TypeId) (x : AV) (lo hi mx : Option AV) : Option AV :=
  match maxOk mx hi with
  | false => none
  | true => match bndOf lo 0 with
  | none => none
  | some l => match L.under t, x with
    | some .string, .str s => (match mx with
      | some _ => none
      | none => match bndOf hi s.size with
        | none => none
        | some h => match Nat.ble l h && Nat.ble h s.size with
          | true => some (.str (s.extract l h))
          | false => none)
    | some (.slice e), .nilSl => (match bndOf hi 0, bndOf mx 0, L.size e with
      | some h, some m, some _ => (match Nat.beq l 0 && Nat.beq h 0 && Nat.beq m 0 with | true => some .nilSl | false => none)
      | _, _, _ => none)
    | some (.slice e), .sl i o n c op => (match L.size e with
      | none => none
      | some z => match bndOf hi n with
        | none => none
        | some h => match mx with
          | some v => (match natOf v with
            | none => none
            | some m => match Nat.ble l h && Nat.ble h m && Nat.ble m c with
              | true => some (.sl i (offOf m l o z) (h - l) (m - l) false)
              | false => none)
          | none => match Nat.ble l h && Nat.ble h c with
            | true => (match op with
              | false => some (.sl i (offOf c l o z) (h - l) (c - l) false)
              | true => match Nat.beq c l with
                | true => none
                | false => some (.sl i (o + l * z) (h - l) (c - l) true))
            | false => none)
    | some (.array n e), .ptr i o => (match L.size e with
      | none => none
      | some z => match bndOf hi n, bndOf mx n with
        | some h, some m => (match Nat.ble l h && Nat.ble h m && Nat.ble m n with
          | true => some (.sl i (offOf m l o z) (h - l) (m - l) false)
          | false => none)
        | _, _ => none)
    | _, _ => none

def evFieldAddr (L : Lk) (s : TypeId) (x : AV) (f : Nat) : Option AV :=
  match x with
  | .ptr i o => (match L.under s with
    | some (.struct fields) => (match nth fields.toList f with
      | some fd => (match L.size fd.type with
        | some z => (match Nat.beq z 0 with | true => none | false => some (.ptr i (o + fd.offset)))
        | none => none)
      | none => none)
    | _ => none)
  | _ => none

def evField (L : Lk) (t : TypeId) (x : AV) (f : Nat) : Option AV :=
  match x with
  | .agg cs => (match L.under t with
    | some (.struct fields) => (match nth fields.toList f with | some fd => evPart L fd.type cs fd.offset | none => none)
    | _ => none)
  | _ => none

def evIndexAddr (L : Lk) (t : TypeId) (x ix : AV) : Option AV :=
  match natOf ix with
  | none => none
  | some j => match L.under t, x with
    | some (.slice e), .sl i o n _ _ => (match L.size e with
      | some z => (match Nat.blt j n with | true => some (.ptr i (o + j * z)) | false => none)
      | none => none)
    | some (.array n e), .ptr i o => (match L.size e with
      | some z => (match Nat.blt j n with | true => some (.ptr i (o + j * z)) | false => none)
      | none => none)
    | _, _ => none

def evIndex (L : Lk) (t : TypeId) (x ix : AV) : Option AV :=
  match natOf ix with
  | none => none
  | some j => match L.under t, x with
    | some (.array n e), .agg cs => (match L.size e with
      | some z => (match Nat.blt j n with | true => evPart L e cs (j * z) | false => none)
      | none => none)
    | some .string, .str s => (match s[j]? with | some b => some (.int .u8 b.toNat) | none => none)
    | _, _ => none

def numOf : AV → Option Int
  | .int .u8 n => some n
  | _ => none
def numsOf (l : List AV) : Option (List Int) := mapO numOf l

def evConvert (L : Lk) (src dst : TypeId) (x : AV) (H : AH) : Option (AV × AH) :=
  match L.under src, L.under dst with
  | some s, some d => match d, x with
    | .int k, .int _ n => some (.int k (fwrap k n), H)
    | .string, .str s => some (.str s, H)
    | .string, .nilSl => (match s with
      | .slice e => (match L.under e with | some (.int .u8) => some (.str ByteArray.empty, H) | _ => none)
      | _ => none)
    | .string, .sl i o n _ _ => (match s with
      | .slice e => (match L.under e with
        | some (.int .u8) => (match H.read i o n with
          | some l => (match numsOf l with | some ns => some (.str ⟨(ns.map fun n => UInt8.ofNat n.toNat).toArray⟩, H) | none => none)
          | none => none)
        | _ => none)
      | _ => none)
    | .slice e, .str s => (match L.under e with
      | some (.int .u8) => some (.sl H.next 0 s.size s.size true, { H.new (.cells (s.data.toList.map fun b => .int .u8 b.toNat) e 1 true false) with fz := true })
      | _ => none)
    | _, _ => none
  | _, _ => none

def evMakeInterface (L : Lk) (t : TypeId) (x : AV) : Option AV :=
  match L.under t with
  | some (.interface _) => none
  | some _ => some (.ifc t x)
  | none => none

def asHolds (ok : Bool) (v : AV) : Option AV := some (match ok with | true => .tup [v, .bool true] | false => v)
def asFails (L : Lk) (t : TypeId) (ok : Bool) : Option AV := match ok with
  | true => (match L.zero t with | some z => some (.tup [z, .bool false]) | none => none)
  | false => none
def evAssert (L : Lk) (x : AV) (asserted : TypeId) (ok : Bool) : Option AV :=
  match L.under asserted with
  | none => none
  | some (.interface want) => (match x with
    | .nilIfc => asFails L asserted ok
    | .ifc t v => (match L.info t with
      | some i => (match Instr.missingMethod want i.methods with | none => asHolds ok (.ifc t v) | some _ => asFails L asserted ok)
      | none => none)
    | _ => none)
  | some _ => (match x with
    | .nilIfc => asFails L asserted ok
    | .ifc t v => (match Nat.beq t asserted with | true => asHolds ok v | false => asFails L asserted ok)
    | _ => none)

/-! ### Maps with plain keys -/

def sameKey : TypeDesc → AV → AV → Option Bool
  | .int _, .int k a, .int k' b => (match decide (k = k') with | true => some (a == b) | false => none)
  | .string, .str a, .str b => some (a == b)
  | .bool, .bool a, .bool b => some (a == b)
  | _, _, _ => none
def findKey (d : TypeDesc) (k : AV) (es : List (AV × AV × Nat)) : Nat → Option (Option (Nat × AV)) :=
  lrec (β := Nat → Option (Option (Nat × AV))) (fun _ => some none)
    (fun e _ ih i => match sameKey d k e.1 with
      | some true => some (some (i, e.2.1))
      | some false => ih (i + 1)
      | none => none) es

def evLookup (L : Lk) (t : TypeId) (x k : AV) (ok : Bool) (H : AH) : Option AV :=
  match L.under t with
  | some (.map key elem) => (match L.under key, L.zero elem with
    | some kd, some z =>
      (match (match x with
        | .nilMap => some []
        | .map i => (match H.get i with | some (.map es _) => some es | _ => none)
        | _ => none) with
      | none => none
      | some es => match sameKey kd k k with
        | none => none
        | some _ => match findKey kd k es 0 with
          | none => none
          | some r =>
            let v := (match r with | some (_, v) => v | none => z)
            let b := (match r with | some _ => true | none => false)
            some (match ok with | true => .tup [v, .bool b] | false => v))
    | _, _ => none)
  | _ => none

def evMapUpdate (L : Lk) (t : TypeId) (m k x : AV) (H : AH) : Option AH :=
  match L.under t, m with
  | some (.map key _), .map i => (match L.under key with
    | some kd => (match Nat.ble H.lo i, H.get i with
      | true, some (.map es clock) => (match sameKey kd k k with
        | none => none
        | some _ => match findKey kd k es 0 with
          | none => none
          | some none => some (H.put i (.map (es ++ [(k, x, clock)]) (clock + 1)))
          | some (some (j, _)) => (match nth es j with
            | some e => (match overAt [(k, x, e.2.2)] es j with
              | some es' => some (H.put i (.map es' clock))
              | none => none)
            | none => none))
      | _, _ => none)
    | none => none)
  | _, _ => none

/-! ### Builtins -/

def srcCells (z : Nat) (x : AV) (n : Nat) (H : AH) : Option (List AV) :=
  match x with
  | .nilSl => (match Nat.beq n 0 with | true => some [] | false => none)
  | .sl i o _ _ _ => H.read i o (n * z)
  | .str s => (match Nat.beq z 1 with | true => takeN (s.data.toList.map fun b => AV.int .u8 b.toNat) n | false => none)
  | _ => none
def lenOf : AV → Option Nat
  | .nilSl => some 0
  | .sl _ _ n _ _ => some n
  | .str s => some s.size
  | _ => none

def evAppend (L : Lk) (t : TypeId) (s x : AV) (H : AH) : Option (AV × AH) :=
  match L.under t with
  | some (.slice e) => (match L.size e, L.bytes e, L.zero e, lenOf x with
    | some z, some b, some zv, some n => (match srcCells z x n H with
      | none => none
      | some new => match new.all AV.oneCell with
        | false => none
        | true => match Nat.beq z 0 || !Nat.beq (len zv.cells) z with
          | true => none
          | false => match s with
            | .nilSl => (match Nat.beq n 0 with
              | true => some (.nilSl, H)
              | false => match Nat.ble (n * b) 140737488355328 && Nat.ble n 9223372036854775807 with
                | false => none
                | true => some (.sl H.next 0 n n true, H.new (.cells new e z true false)))
            | .sl i o l c op => (match Nat.ble (l + n) c with
              | true => (match H.write i (o + l * z) new with
                | some H' => some (.sl i o (l + n) c op, H')
                | none => none)
              | false => match Nat.ble ((l + n) * b) 140737488355328 && Nat.ble (l + n) 9223372036854775807, H.read i o (l * z) with
                | true, some old => (match op with
                  | false => some (.sl H.next 0 (l + n) (l + n) true, H.new (.cells (old ++ new) e z true false))
                  | true => match Nat.ble H.lo i, H.get i with
                    | true, some (.cells vs e' z' op' ro) =>
                      (match Nat.beq e e' && Nat.beq z z' && op' && !ro && Nat.beq (len vs) (o + c * z) with
                      | true => some (.sl H.next 0 (l + n) (l + n) true, (H.drop i).new (.cells (old ++ new) e z true false))
                      | false => none)
                    | _, _ => none)
                | _, _ => none)
            | _ => none)
    | _, _, _, _ => none)
  | _ => none

def minN (n l : Nat) : Nat := match Nat.ble n l with | true => n | false => l
def evCopy (L : Lk) (t : TypeId) (d x : AV) (H : AH) : Option (AV × AH) :=
  match L.under t with
  | some (.slice e) => (match L.size e, lenOf x with
    | some z, some n => (match d with
      | .nilSl => some (.int .i64 0, H)
      | .sl i o l _ _ =>
        (match srcCells z x (minN n l) H with
        | some new => (match H.write i o new with | some H' => some (.int .i64 (minN n l), H') | none => none)
        | none => none)
      | _ => none)
    | _, _ => none)
  | _ => none

def evLen (L : Lk) (t : TypeId) (x : AV) (H : AH) : Option AV :=
  match L.under t with
  | some .string => (match x with | .str s => some (.int .i64 s.size) | _ => none)
  | some (.array n _) => some (.int .i64 n)
  | some (.pointer a) => (match L.under a with | some (.array n _) => some (.int .i64 n) | _ => none)
  | some (.slice _) => (match x with | .nilSl => some (.int .i64 0) | .sl _ _ n _ _ => some (.int .i64 n) | _ => none)
  | some (.map _ _) => (match x with
    | .nilMap => some (.int .i64 0)
    | .map i => (match H.get i with | some (.map es _) => some (.int .i64 (len es)) | _ => none)
    | _ => none)
  | _ => none
def evCap (L : Lk) (t : TypeId) (x : AV) : Option AV :=
  match L.under t with
  | some (.array n _) => some (.int .i64 n)
  | some (.slice _) => (match x with
    | .nilSl => some (.int .i64 0)
    | .sl _ _ _ c op => (match op with | false => some (.int .i64 c) | true => none)
    | _ => none)
  | _ => none

def evMin2 (x y : AV) : Option AV :=
  match x, y with
  | .int k a, .int _ b => some (.int k (if b < a then b else a))
  | _, _ => none
def evMax2 (x y : AV) : Option AV :=
  match x, y with
  | .int k a, .int _ b => some (.int k (if a < b then b else a))
  | _, _ => none
def fold2 (f : AV → AV → Option AV) (l : List AV) : AV → Option AV :=
  lrec (β := AV → Option AV) (fun a => some a) (fun y _ ih a => match f a y with | some r => ih r | none => none) l

def evClear (L : Lk) (t : TypeId) (x : AV) (H : AH) : Option AH :=
  match L.under t with
  | some d => (match x with
    | .nilMap => some H
    | .nilSl => some H
    | .map i => (match d with
      | .map _ _ => (match Nat.ble H.lo i, H.get i with
        | true, some (.map _ clock) => some (H.put i (.map [] clock))
        | _, _ => none)
      | _ => none)
    | .sl i o n _ _ => (match d with
      | .slice e => (match L.zero e with
        | some z => (match Nat.beq n 0 with | true => some H | false => H.write i o (rep z.cells n))
        | none => none)
      | _ => none)
    | _ => none)
  | none => none

def eraseNth {α : Type} (l : List α) : Nat → List α :=
  lrec (β := Nat → List α) (fun _ => []) (fun a l ih i => match i with | 0 => l | j + 1 => a :: ih j) l

def evDelete (L : Lk) (t : TypeId) (m k : AV) (H : AH) : Option AH :=
  match L.under t with
  | some (.map key _) => (match L.under key with
    | some kd => (match sameKey kd k k with
      | none => none
      | some _ => match m with
        | .nilMap => some H
        | .map i => (match Nat.ble H.lo i, H.get i with
          | true, some (.map es clock) => (match findKey kd k es 0 with
            | none => none
            | some none => some H
            | some (some (j, _)) => some (H.put i (.map (eraseNth es j) clock)))
          | _, _ => none)
        | _ => none)
    | none => none)
  | _ => none

def evBuiltin (L : Lk) (b : Builtin) (ts : List TypeId) (args : List AV) (H : AH) : Option (AV × AH) :=
  match b with
  | .len => (match ts, args with | t :: _, x :: _ => (match evLen L t x H with | some v => some (v, H) | none => none) | _, _ => none)
  | .cap => (match ts, args with | t :: _, x :: _ => (match evCap L t x with | some v => some (v, H) | none => none) | _, _ => none)
  | .append => (match ts, args with
    | t :: t' :: _, s :: x :: _ => (match L.under t' with
      | some (.slice _) => evAppend L t s x H
      | some .string => evAppend L t s x H
      | _ => none)
    | _, _ => none)
  | .copy => (match ts, args with | t :: _, d :: x :: _ => evCopy L t d x H | _, _ => none)
  | .min => (match args with | x :: l => (match fold2 evMin2 l x with | some v => some (v, H) | none => none) | [] => none)
  | .max => (match args with | x :: l => (match fold2 evMax2 l x with | some v => some (v, H) | none => none) | [] => none)
  | .clear => (match ts, args with | t :: _, x :: _ => (match evClear L t x H with | some H' => some (.undef, H') | none => none) | _, _ => none)
  | .delete => (match ts, args with | t :: _, m :: k :: _ => (match evDelete L t m k H with | some H' => some (.undef, H') | none => none) | _, _ => none)
  | _ => none

/-! ### What an operation does: a value, or a call -/

inductive Next1 where
  | val (v : AV) (H : AH)
  | enter (f : FuncId) (args : List AV)
  | round (l : Nat) (args : List AV)

def val1 (x : Option AV) (H : AH) : Option Next1 := match x with | some v => some (.val v H) | none => none
def val2 (x : Option (AV × AH)) : Option Next1 := match x with | some p => some (.val p.1 p.2) | none => none
def unit1 (x : Option AH) : Option Next1 := match x with | some H => some (.val .undef H) | none => none

/-- The method behind an interface value: the function and the receiver. -/
def evMethod (L : Lk) (t : TypeId) (v : AV) (name : String) (H : AH) : Option (FuncId × AV) :=
  match L.info t with
  | none => none
  | some i => match i.methods.toList.find? (·.name == name) with
    | none => none
    | some m => match m.path.toList with
      | _ :: _ => none
      | [] => match m.func with
        | none => none
        | some (f, pr) => match L.under t with
          | none => none
          | some d => match d, pr with
            | .pointer _, true => some (f, v)
            | .pointer e, false => (match evLoad L e v H with | some x => some (f, x) | none => none)
            | _, true => none
            | _, false => some (f, v)

def evCallFn (g : AV) (args : List AV) : Option Next1 :=
  match g with
  | .fn (.func f) first captured => some (.enter f (first ++ args ++ captured))
  | .yld l => some (.round l args)
  | _ => none

def evInvoke (L : Lk) (recv : AV) (name : String) (args : List AV) (H : AH) : Option Next1 :=
  match recv with
  | .ifc t v => (match evMethod L t v name H with | some (f, r) => some (.enter f (r :: args)) | none => none)
  | _ => none

def evOp (L : Lk) (T : Tr AV) (o : Oper) (H : AH) : Option Next1 :=
  match o.op with
  | .move x => val1 (opnd T x) H
  | .assign x => val1 (opnd T x) H
  | .pick c a b => (match opnd T c with
    | some (.bool true) => val1 (opnd T a) H
    | some (.bool false) => val1 (opnd T b) H
    | _ => none)
  | .alloc e => (match L.zero e, L.size e with
    | some z, some s => some (.val (.ptr H.next 0) (H.new (.cells z.cells e s false false)))
    | _, _ => none)
  | .box e x => (match opnd T x, L.size e with
    | some v, some s => some (.val (.ptr H.next 0) (H.new (.cells v.cells e s false false)))
    | _, _ => none)
  | .build t parts => (match mapO (fun p => match opnd T p.2 with | some v => some (p.1, v) | none => none) parts.toList with
    | some ps => val1 (evBuild L t ps) H
    | none => none)
  | .buildSlice t n parts => (match mapO (fun p => match opnd T p.2 with | some v => some (p.1, v) | none => none) parts.toList with
    | some ps => val2 (evBuildSlice L t n ps H)
    | none => none)
  | .load t a => (match opnd T a with | some v => val1 (evLoad L t v H) H | none => none)
  | .store t a x => (match opnd T a, opnd T x with | some v, some u => unit1 (evStore L t v u H) | _, _ => none)
  | .nilCheck x => (match opnd T x with
    | some (.ptr i o) => some (.val (.ptr i o) H)
    | some (.ifc t v) => some (.val (.ifc t v) H)
    | some (.fn (.func f) a b) => some (.val (.fn (.func f) a b) H)
    | some (.yld l) => some (.val (.yld l) H)
    | _ => none)
  | .binOp op t x y _ => (match opnd T x, opnd T y with | some v, some u => val1 (evBin L op t x y v u) H | _, _ => none)
  | .unOp op _ x => (match opnd T x with | some v => val1 (evUn op v) H | none => none)
  | .convert s d x => (match opnd T x with | some v => val2 (evConvert L s d v H) | none => none)
  | .makeInterface t x => (match opnd T x with | some v => val1 (evMakeInterface L t v) H | none => none)
  | .makeFunc fn first captured => (match fn, opnds T first.toList, opnds T captured.toList with
    | .func f, some a, some b => some (.val (.fn (.func f) a b) H)
    | _, _, _ => none)
  | .makeMap _ r => (match r with
    | none => some (.val (.map H.next) (H.new (.map [] 0)))
    | some _ => none)
  | .makeSlice t l c => (match opnd T l, opnd T c with | some v, some u => val2 (evMakeSlice L t v u H) | _, _ => none)
  | .slice t x lo hi mx => (match opnd T x, mapO (opnd T) lo.toList, mapO (opnd T) hi.toList, mapO (opnd T) mx.toList with
    | some v, some a, some b, some c => val1 (evSlice L t v a.head? b.head? c.head?) H
    | _, _, _, _ => none)
  | .fieldAddr s x f => (match opnd T x with | some v => val1 (evFieldAddr L s v f) H | none => none)
  | .field t x f => (match opnd T x with | some v => val1 (evField L t v f) H | none => none)
  | .indexAddr t x ix => (match opnd T x, opnd T ix with | some v, some u => val1 (evIndexAddr L t v u) H | _, _ => none)
  | .index t x ix => (match opnd T x, opnd T ix with | some v, some u => val1 (evIndex L t v u) H | _, _ => none)
  | .lookup t x k ok => (match opnd T x, opnd T k with | some v, some u => val1 (evLookup L t v u ok H) H | _, _ => none)
  | .mapUpdate t m k x => (match opnd T m, opnd T k, opnd T x with | some a, some b, some c => unit1 (evMapUpdate L t a b c H) | _, _, _ => none)
  | .insert t m k x => (match opnd T m, opnd T k, opnd T x with | some a, some b, some c => unit1 (evMapUpdate L t a b c H) | _, _, _ => none)
  | .typeAssert x _ asserted ok => (match opnd T x with | some v => val1 (evAssert L v asserted ok) H | none => none)
  | .extract x ix => (match opnd T x with | some (.tup vs) => val1 (nth vs ix) H | _ => none)
  | .call c => (match opnds T c.args.toList with
    | none => none
    | some args => match c.callee with
      | .builtin b => val2 (evBuiltin L b c.argTypes.toList args H)
      | .value f => (match opnd T f with | some g => evCallFn g args | none => none)
      | .invoke r name => (match opnd T r with | some v => evInvoke L v name args H | none => none))
  | _ => none

/-! ### Code -/

inductive Ex where
  | normal
  | exit (id : Nat)
  | ret
  | goto (l : Nat)

structure Out where
  ex : Ex
  T : Tr AV
  H : AH

inductive Req where
  | call (f : FuncId) (args : List AV) (H : AH)
  | loop (body : Code) (T : Tr AV) (H : AH)
  | round (l : Nat) (args : List AV) (H : AH)
  | range (g : AV) (params : List Tmp) (assign body : Code) (T : Tr AV) (H : AH)

abbrev Rec := Req → Option Out

/-- The value that a call gives back: in the first temporary. -/
def outVal (o : Out) : AV := match o.T.get 0 with | some v => v | none => .undef

def evOper (L : Lk) (rec : Rec) (T : Tr AV) (o : Oper) (H : AH) : Option (AV × AH) :=
  match evOp L T o H with
  | none => none
  | some nx => match nx with
    | .val v H' => some (v, H')
    | .enter f args => (match rec (.call f args H) with | some out => some (outVal out, out.H) | none => none)
    | .round l args => (match rec (.round l args H) with | some out => some (outVal out, out.H) | none => none)

def putT (T : Tr AV) (d : Option Tmp) (v : AV) : Tr AV := match d with | some t => T.set t v | none => T

/-- Is an operation wanted? (Its guard.) -/
def wantedA (ops : List Oper) (T : Tr AV) (o : Oper) : Bool :=
  match o.guard with
  | none => true
  | some (j, want) => match nth ops j with
    | some oj => (match oj.dst with
      | some d => (match T.get d with
        | some (.bool b) => (match b, want with | true, true => true | false, false => true | _, _ => false)
        | _ => false)
      | none => false)
    | none => false

/-- 's[l:]' at the end of a slice whose capacity isn't known: where its (empty) cells begin isn't known either: a number of its own. -/
def evEnd (L : Lk) (T : Tr AV) (o : Oper) (H : AH) : Option (AV × AH) :=
  match o.op with
  | .slice t x lo hi none => (match opnd T x, mapO (opnd T) lo.toList, mapO (opnd T) hi.toList with
    | some v, some a, some b => (match v with
      | .sl i o n c true => (match L.under t with
        | some (.slice e) => (match bndOf a.head? 0, bndOf b.head? n, L.size e with
          | some l, some h, some _ => (match Nat.beq l c && Nat.ble l h && Nat.ble h c with
            | true => some (.sl H.next 0 0 0 true, { H with next := Nat.succ H.next })
            | false => none)
          | _, _, _ => none)
        | _ => none)
      | _ => none)
    | _, _, _ => none)
  | _ => none
def evOperS (L : Lk) (rec : Rec) (T : Tr AV) (o : Oper) (H : AH) : Option (AV × AH) :=
  match evOper L rec T o H with
  | some r => some r
  | none => evEnd L T o H

/-- The operations of a region, in the order of the text. -/
def evOps (L : Lk) (rec : Rec) (all : List Oper) (ops : List Oper) : Tr AV → AH → Option (Tr AV × AH) :=
  lrec (β := Tr AV → AH → Option (Tr AV × AH)) (fun T H => some (T, H))
    (fun o _ ih T H => match wantedA all T o with
      | true => (match evOperS L rec T o H with
        | some r => ih (putT T o.dst r.1) r.2
        | none => none)
      | false => ih (putT T o.dst .undef) H) ops

/-! ### A region that draws its order -/

/-- The operations that one waits for, as bits. -/
def afterMask (o : Oper) : Nat :=
  lrec (β := Nat) 0 (fun e _ ih => match Region.binds .any e with | true => Nat.lor (Nat.shiftLeft 1 e.on) ih | false => ih) o.after.toList
/-- The first of those that are left for which all that it waits for is done; and the others. -/
def pick1 (dn : Nat) (l : List (Nat × Nat × Oper)) : Option ((Nat × Nat × Oper) × List (Nat × Nat × Oper)) :=
  lrec (β := Option ((Nat × Nat × Oper) × List (Nat × Nat × Oper))) none
    (fun x r ih => match Nat.beq (Nat.land x.2.1 dn) x.2.1 with
      | true => some (x, r)
      | false => match ih with
        | some p => some (p.1, x :: p.2)
        | none => none) l
/-- One order that every edge allows: with each operation the set of those that come ahead of it in every order. -/
def topo (fuel : Nat) : List (Nat × Nat × Oper) → Nat → Tr Nat → List (Nat × Nat × Oper) :=
  nrecF (α := List (Nat × Nat × Oper)) (β := Nat → Tr Nat → List (Nat × Nat × Oper)) (fun _ _ _ => [])
    (fun _ ih l dn t => match pick1 dn l with
      | none => []
      | some p =>
        let anc := lrec (β := Nat) p.1.2.1 (fun e _ r => match Region.binds .any e with | true => Nat.lor ((t.get e.on).getD 0) r | false => r) p.1.2.2.after.toList
        (p.1.1, anc, p.1.2.2) :: ih p.2 (Nat.lor dn (Nat.shiftLeft 1 p.1.1)) (t.set p.1.1 anc)) fuel
def numbered (l : List Oper) : List (Nat × Nat × Oper) :=
  lrec (β := Nat → List (Nat × Nat × Oper)) (fun _ => []) (fun o _ ih i => (i, afterMask o, o) :: ih (i + 1)) l 0
/-- An operation that neither reads nor writes memory. -/
def pureOp (L : Lk) (o : Op) : Bool :=
  match o with
  | .move _ | .assign _ | .pick _ _ _ | .build _ _ | .binOp _ _ _ _ _ | .unOp _ _ _ | .makeInterface _ _ | .makeFunc _ _ _ | .slice _ _ _ _ _
  | .fieldAddr _ _ _ | .field _ _ _ | .indexAddr _ _ _ | .index _ _ _ | .extract _ _ | .typeAssert _ _ _ _ | .nilCheck _ => true
  | .call c => (match c.callee with
    | .builtin b => (match b with
      | .min | .max | .cap => true
      | .len => (match c.argTypes.toList with
        | t :: _ => (match L.under t with | some (.map _ _) => false | some (.chan _ _) => false | _ => true)
        | [] => false)
      | _ => false)
    | _ => false)
  | _ => false
/-- An operation that reads memory and does nothing else. -/
def readOp (o : Op) : Bool :=
  match o with
  | .load _ _ | .lookup _ _ _ _ => true
  | .call c => (match c.callee with
    | .builtin b => (match b with | .len => true | _ => false)
    | _ => false)
  | _ => false
inductive Kind where
  | free
  | read
  | heavy
def kindOf (L : Lk) (o : Op) : Kind := match pureOp L o with | true => .free | false => (match readOp o with | true => .read | false => .heavy)
def isHeavy (L : Lk) (o : Oper) : Bool := match kindOf L o.op with | .heavy => true | _ => false
def isRead (L : Lk) (o : Oper) : Bool := match kindOf L o.op with | .read => true | _ => false
def isFree (L : Lk) (o : Oper) : Bool := match kindOf L o.op with | .free => true | _ => false
/-- What an operation looks at. -/
def opOpds (o : Op) : List Operand :=
  match o with
  | .move x | .assign x | .box _ x | .load _ x | .nilCheck x | .unOp _ _ x | .convert _ _ x | .makeInterface _ x | .fieldAddr _ x _ | .field _ x _ | .typeAssert x _ _ _ | .extract x _ => [x]
  | .pick c x y => [c, x, y]
  | .build _ ps | .buildSlice _ _ ps => ps.toList.map fun p => p.2
  | .store _ x y | .binOp _ _ x y _ | .makeSlice _ x y | .indexAddr _ x y | .index _ x y | .lookup _ x y _ => [x, y]
  | .makeFunc _ a b => a.toList ++ b.toList
  | .slice _ x lo hi mx => x :: (lo.toList ++ (hi.toList ++ mx.toList))
  | .mapUpdate _ x y z | .insert _ x y z => [x, y, z]
  | .call c => (match c.callee with | .builtin _ => c.args.toList | .value f => f :: c.args.toList | .invoke r _ => r :: c.args.toList)
  | _ => []
def opdTs (l : List Operand) : List Nat := lrec (β := List Nat) [] (fun x _ ih => match x with | .tmp t => t :: ih | _ => ih) l
def looksT (all : List Oper) (o : Oper) : List Nat :=
  match o.guard with
  | none => opdTs (opOpds o.op)
  | some g => (match nth all g.1 with
    | some oj => (match oj.dst with
      | some d => d :: opdTs (opOpds o.op)
      | none => opdTs (opOpds o.op))
    | none => opdTs (opOpds o.op))
def has (l : List Nat) (t : Nat) : Bool := lrec (β := Bool) false (fun x _ ih => match Nat.beq x t with | true => true | false => ih) l
def dstIn (d : Option Tmp) (l : List Nat) : Bool := match d with | some t => has l t | none => false
def sameDst (x y : Option Tmp) : Bool := match x, y with | some s, some t => Nat.beq s t | _, _ => false
/-- Must two operations keep their order for the temporaries' sake? -/
def clash (all : List Oper) (x y : Oper) : Bool := dstIn x.dst (looksT all y) || (dstIn y.dst (looksT all x) || sameDst x.dst y.dst)

abbrev Ent := Nat × Nat × Oper
/-- Those that come ahead of an operation in every order. -/
def ancOf (pre : List Ent) (i : Nat) : Nat := lrec (β := Nat) 0 (fun y _ ih => match Nat.beq y.1 i with | true => y.2.1 | false => ih) pre
def ancs (o : Oper) (pre : List Ent) : Nat :=
  lrec (β := Nat) 0 (fun e _ ih => match Region.binds .any e with | true => Nat.lor (Nat.lor (Nat.shiftLeft 1 e.on) (ancOf pre e.on)) ih | false => ih) o.after.toList
def depsIn (o : Oper) (pre : List Ent) : Bool :=
  lrec (β := Bool) true (fun e _ ih => match Region.binds .any e with | true => (pre.any fun y => Nat.beq y.1 e.on) && ih | false => ih) o.after.toList
def okAt (L : Lk) (all : List Oper) (x : Ent) (pre : List Ent) : Bool :=
  lrec (β := Bool) true (fun y _ ih => (match Nat.beq y.1 x.1 with
    | true => false
    | false => match Nat.testBit x.2.1 y.1 with
      | true => true
      | false => !clash all y.2.2 x.2.2 && !(isHeavy L y.2.2 && !isFree L x.2.2)) && ih) pre
/-- Must a heavy operation leave all blocks as they are, for the sake of a reading one that waits for it no more than it for that one? -/
def watched (L : Lk) (x : Ent) (pre : List Ent) : Bool :=
  lrec (β := Bool) false (fun y _ ih => (isRead L y.2.2 && !Nat.testBit x.2.1 y.1) || ih) pre
def annot (L : Lk) (all : List Oper) (l : List Nat) : List Ent → Option (List Ent) :=
  lrec (β := List Ent → Option (List Ent)) (fun _ => some []) (fun i _ ih pre => match nth all i with
    | none => none
    | some o => match depsIn o pre && okAt L all (i, ancs o pre, o) pre with
      | true => (match ih ((i, ancs o pre, o) :: pre) with | some r => some ((i, ancs o pre, o) :: r) | none => none)
      | false => none) l
def lightsFirst (L : Lk) (l : List (Nat × Nat × Oper)) : List (Nat × Nat × Oper) :=
  lrec (β := List (Nat × Nat × Oper)) (l.filter fun x => isHeavy L x.2.2) (fun x _ ih => match isHeavy L x.2.2 with | true => ih | false => x :: ih) l
def covers (pl : List Ent) (n : Nat) : Bool := nrecF (α := Unit) (β := Bool) (fun _ => true) (fun k ih u => (pl.any fun y => Nat.beq y.1 k) && ih u) n ()
def plan (L : Lk) (ops : List Oper) : Option (List Ent) :=
  match annot L ops ((topo (len ops) (lightsFirst L (numbered ops)) 0 .nil).map fun x => x.1) [] with
  | some pl => (match covers pl (len ops) with | true => some pl | false => none)
  | none => none

/-- Do all reading operations ahead, that don't come ahead in every order, read other blocks than 'j'? -/
def farAux (L : Lk) (x : Ent) (j : Nat) (T : Tr AV) (pre : List Ent) : List Nat → Bool :=
  lrec (β := List Nat → Bool) (fun _ => true) (fun y _ ih ds =>
    match isRead L y.2.2 && !Nat.testBit x.2.1 y.1 with
    | false => ih (match y.2.2.dst with | some d => d :: ds | none => ds)
    | true => (match y.2.2.op with
      | .load _ (.tmp k) => (match has (match y.2.2.dst with | some d => d :: ds | none => ds) k with
        | true => false
        | false => (match T.get k with
          | some (.ptr i _) => (match Nat.beq i j with | true => false | false => ih (match y.2.2.dst with | some d => d :: ds | none => ds))
          | _ => false))
      | _ => false)) pre
/-- A store into a block that none of those reads. -/
def far (L : Lk) (T : Tr AV) (x : Ent) (pre : List Ent) : Bool :=
  match x.2.2.op with
  | .store _ (.tmp k) _ => (match T.get k with | some (.ptr j _) => farAux L x j T pre [] | _ => false)
  | _ => false

def evDraw (L : Lk) (rec : Rec) (all : List Oper) (pl : List Ent) : List Ent → Tr AV → AH → Option (Tr AV × AH) :=
  lrec (β := List Ent → Tr AV → AH → Option (Tr AV × AH)) (fun _ T H => some (T, H))
    (fun x _ ih pre T H => match wantedA all T x.2.2 with
      | false => ih (x :: pre) (putT T x.2.2.dst .undef) H
      | true => match isHeavy L x.2.2 with
        | false => (match evOper L rec T x.2.2 H with
          | some r => ih (x :: pre) (putT T x.2.2.dst r.1) H
          | none => none)
        | true => match watched L x pre with
          | false => (match evOper L rec T x.2.2 H with
            | some r => ih (x :: pre) (putT T x.2.2.dst r.1) r.2
            | none => none)
          | true => match far L T x pre with
            | true => (match evOper L rec T x.2.2 H with
              | some r => ih (x :: pre) (putT T x.2.2.dst r.1) r.2
              | none => none)
            | false => (match evOper L rec T x.2.2 { H with lo := H.next } with
              | some r => ih (x :: pre) (putT T x.2.2.dst r.1) { r.2 with lo := H.lo }
              | none => none)) pl

def evRegion (L : Lk) (rec : Rec) (ops : List Oper) (draw : Bool) (T : Tr AV) (H : AH) : Option (Tr AV × AH) :=
  match draw with
  | false => evOps L rec ops ops T H
  | true => (match plan L ops with | some pl => evDraw L rec ops pl [] T H | none => none)

def crec {β : Type} (skip : β) (region : Nat → Array Oper → Bool → β) (seq : Code → Code → β → β → β) (cond : Operand → Code → Code → β → β → β) (block : Nat → Code → β → β) (loop : Code → β → β)
    (rangeFunc : Operand → Array Tmp → Code → Code → β → β → β) (exit : Nat → β) (scope : Code → β → β) (label : Nat → β) (goto : Nat → β) (ret : β) (refuse : String → β) (c : Code) : β :=
  Code.rec (motive := fun _ => β) skip region seq cond block loop rangeFunc exit scope label goto ret refuse c

def evCode (L : Lk) (rec : Rec) (c : Code) : Tr AV → AH → Option Out :=
  crec (β := Tr AV → AH → Option Out)
    (fun T H => some ⟨.normal, T, H⟩)
    (fun _ ops draw T H => match evRegion L rec ops.toList draw T H with | some r => some ⟨.normal, r.1, r.2⟩ | none => none)
    (fun _ _ iha ihb T H => match iha T H with
      | some o => (match o.ex with | .normal => ihb o.T o.H | _ => some o)
      | none => none)
    (fun x _ _ iha ihb T H => match opnd T x with
      | some (.bool true) => iha T H
      | some (.bool false) => ihb T H
      | _ => none)
    (fun id _ ih T H => match ih T H with
      | some o => (match o.ex with
        | .exit i => (match Nat.beq i id with | true => some ⟨.normal, o.T, o.H⟩ | false => some o)
        | _ => some o)
      | none => none)
    (fun body _ T H => rec (.loop body T H))
    (fun f params assign body _ _ T H => match opnd T f with | some g => rec (.range g params.toList assign body T H) | none => none)
    (fun id T H => some ⟨.exit id, T, H⟩)
    (fun _ ih T H => match ih T H with
      | some o => (match o.ex with | .goto _ => none | _ => some o)
      | none => none)
    (fun _ T H => some ⟨.normal, T, H⟩)
    (fun l T H => some ⟨.goto l, T, H⟩)
    (fun T H => some ⟨.ret, T, H⟩)
    (fun _ _ _ => none) c

def setArgs (l : List AV) : Nat → Tr AV → Tr AV :=
  lrec (β := Nat → Tr AV → Tr AV) (fun _ t => t) (fun v _ ih j t => ih (j + 1) (t.set j v)) l
def setParams (l : List (Tmp × AV)) : Tr AV → Tr AV :=
  lrec (β := Tr AV → Tr AV) (fun t => t) (fun p _ ih t => ih (t.set p.1 p.2)) l

def evResults (L : Lk) (T : Tr AV) (H : AH) (rs : List ResultVar) : Option (List AV) :=
  mapO (fun r => match r with
    | .tmp t => (match T.get t with | some v => some v | none => some AV.undef)
    | .cell a t => (match T.get a with | some v => evLoad L t v H | none => none)) rs

def out1 (v : AV) (H : AH) : Out := ⟨.ret, Tr.nil.set 0 v, H⟩

def evReq (L : Lk) (fuel : Nat) : Rec :=
  nrecF (α := Req) (β := Option Out) (fun _ => none)
    (fun _ rec r => match r with
      | .call f args H => (match L.ext f with
        | some g => (match g args H with | some p => some (out1 p.1 p.2) | none => none)
        | none => match L.func f with
          | none => none
          | some fn => match fn.body with
            | none => none
            | some c => match Nat.ble (len args) fn.ntmps with
              | false => none
              | true => match evCode L rec c (setArgs args 0 .nil) H with
                | none => none
                | some o => match o.ex with
                  | .ret | .normal => (match evResults L o.T o.H fn.results.toList with
                    | some vs => (match vs with | [v] => some (out1 v o.H) | vs => some (out1 (.tup vs) o.H))
                    | none => none)
                  | _ => none)
      | .loop body T H => (match evCode L rec body T H with
        | none => none
        | some o => match o.ex with
          | .normal => rec (.loop body o.T o.H)
          | _ => some o)
      | .round l args H => (match Nat.ble H.lo l, H.get l with
        | true, some (.loop .ready none T n ps assign body) => (match Nat.beq (len args) (len ps) with
          | false => none
          | true => match evCode L rec assign (setParams (ps.zip args) T) H with
            | none => none
            | some o1 => match o1.ex with
              | .normal => (match o1.H.get l with
                | some (.loop .ready none T2 n2 ps2 as2 bd2) => (match evCode L rec body o1.T (o1.H.put l (.loop .busy none T2 n2 ps2 as2 bd2)) with
                  | none => none
                  | some o2 => match o2.H.get l with
                    | some (.loop .busy _ T n ps assign body) => (match o2.ex with
                      | .normal => some (out1 (.bool true) (o2.H.put l (.loop .ready none T n ps assign body)))
                      | .exit id => some (out1 (.bool false) (o2.H.put l (.loop .done (some (.exit id)) T n ps assign body)))
                      | .ret => some (out1 (.bool false) (o2.H.put l (.loop .done (some .ret) T n ps assign body)))
                      | .goto _ => none)
                    | _ => none)
                | _ => none)
              | _ => none)
        | _, _ => none)
      | .range g ps assign body T H =>
        (match evCallFn g [.yld H.next] with
        | some (.enter f args) => (match L.func f with
          | none => none
          | some fn => match fn.body with
            | none => none
            | some _ => match rec (.call f args (H.new (.loop .ready none T 0 ps assign body))) with
              | none => none
              | some o => match Nat.ble o.H.lo H.next, o.H.get H.next with
                | true, some (.loop st pend _ _ _ _ _) => (match st with
                  | .busy => none
                  | _ => match pend with
                    | none => some ⟨.normal, T, o.H.put H.next .defd⟩
                    | some (.exit id) => some ⟨.exit id, T, o.H.put H.next .defd⟩
                    | some .ret => some ⟨.ret, T, o.H.put H.next .defd⟩
                    | _ => none)
                | _, _ => none)
        | _ => none)) fuel

end
end Go.Ev
