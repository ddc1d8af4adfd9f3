import Derived.Test.YtnkomaedmblemaaEvLem
set_option linter.unusedSimpArgs false
set_option linter.unusedVariables false
namespace Go.Ev
noncomputable section

/-! ### The evaluator once more, for the kernel: slots found ahead, branches closed, continuations -/

def orec {α β : Type} (n : β) (f : α → β) (o : Option α) : β := Option.rec (motive := fun _ => β) n f o
def irec {β : Type} (f g : Nat → β) (n : Int) : β := Int.rec (motive := fun _ => β) f g n
def zrec {β : Type} (z : β) (f : Nat → β) (n : Nat) : β := Nat.rec (motive := fun _ => β) z (fun n _ => f n) n

/-! Values by their kind -/
def avBool {β : Type} (n : β) (f : Bool → β) (x : AV) : β :=
  @AV.rec (fun _ => β) (fun _ => Unit) (fun b => f b) (fun _ _ => n) (fun _ => n) n (fun _ _ => n) n (fun _ _ _ _ _ => n) n (fun _ => n) (fun _ _ _ _ _ => n) (fun _ => n) n (fun _ _ _ => n) n (fun _ _ => n) (fun _ _ => n) () (fun _ _ _ _ => ()) x
def avInt {β : Type} (n : β) (f : IntKind → Int → β) (x : AV) : β :=
  @AV.rec (fun _ => β) (fun _ => Unit) (fun _ => n) (fun k a => f k a) (fun _ => n) n (fun _ _ => n) n (fun _ _ _ _ _ => n) n (fun _ => n) (fun _ _ _ _ _ => n) (fun _ => n) n (fun _ _ _ => n) n (fun _ _ => n) (fun _ _ => n) () (fun _ _ _ _ => ()) x
def avPtr {β : Type} (n : β) (f : Nat → Nat → β) (x : AV) : β :=
  @AV.rec (fun _ => β) (fun _ => Unit) (fun _ => n) (fun _ _ => n) (fun _ => n) n (fun i o => f i o) n (fun _ _ _ _ _ => n) n (fun _ => n) (fun _ _ _ _ _ => n) (fun _ => n) n (fun _ _ _ => n) n (fun _ _ => n) (fun _ _ => n) () (fun _ _ _ _ => ()) x
def avSl {β : Type} (n : β) (f : Nat → Nat → Nat → Nat → Bool → β) (x : AV) : β :=
  @AV.rec (fun _ => β) (fun _ => Unit) (fun _ => n) (fun _ _ => n) (fun _ => n) n (fun _ _ => n) n (fun i o l c op => f i o l c op) n (fun _ => n) (fun _ _ _ _ _ => n) (fun _ => n) n (fun _ _ _ => n) n (fun _ _ => n) (fun _ _ => n) () (fun _ _ _ _ => ()) x
/-- One cell's value: 'f'; an aggregate or a tuple: 'n'. -/
def avOne {β : Type} (n f : β) (x : AV) : β :=
  @AV.rec (fun _ => β) (fun _ => Unit) (fun _ => f) (fun _ _ => f) (fun _ => f) f (fun _ _ => f) f (fun _ _ _ _ _ => f) f (fun _ => f) (fun _ _ _ _ _ => f) (fun _ => f) f (fun _ _ _ => f) f (fun _ _ => n) (fun _ _ => n) () (fun _ _ _ _ => ()) x

/-! Numbers -/
def kEq (a : IntKind) : IntKind → Bool :=
  IntKind.rec (motive := fun _ => IntKind → Bool)
    (fun b => IntKind.rec (motive := fun _ => Bool) true false false false false false false false b)
    (fun b => IntKind.rec (motive := fun _ => Bool) false true false false false false false false b)
    (fun b => IntKind.rec (motive := fun _ => Bool) false false true false false false false false b)
    (fun b => IntKind.rec (motive := fun _ => Bool) false false false true false false false false b)
    (fun b => IntKind.rec (motive := fun _ => Bool) false false false false true false false false b)
    (fun b => IntKind.rec (motive := fun _ => Bool) false false false false false true false false b)
    (fun b => IntKind.rec (motive := fun _ => Bool) false false false false false false true false b)
    (fun b => IntKind.rec (motive := fun _ => Bool) false false false false false false false true b) a
theorem kEq_eq (a b : IntKind) : kEq a b = decide (a = b) := by cases a <;> cases b <;> rfl

namespace FI
def subN (m n : Nat) : Int := brec (.negSucc (Nat.pred (Nat.sub n m))) (.ofNat (Nat.sub m n)) (Nat.ble n m)
def add (x y : Int) : Int := irec (fun m => irec (fun n => .ofNat (Nat.add m n)) (fun n => subN m (Nat.succ n)) y) (fun m => irec (fun n => subN n (Nat.succ m)) (fun n => .negSucc (Nat.succ (Nat.add m n))) y) x
def sub (x y : Int) : Int := irec (fun m => irec (fun n => subN m n) (fun n => .ofNat (Nat.add m (Nat.succ n))) y) (fun m => irec (fun n => .negSucc (Nat.add m n)) (fun n => subN n m) y) x
def mul (x y : Int) : Int := irec (fun m => irec (fun n => .ofNat (Nat.mul m n)) (fun n => x * y) y) (fun _ => x * y) x
def quo (x y : Int) : Int := irec (fun m => irec (fun n => .ofNat (Nat.div m n)) (fun n => x.tdiv y) y) (fun _ => x.tdiv y) x
def rem (x y : Int) : Int := irec (fun m => irec (fun n => .ofNat (Nat.mod m n)) (fun n => x.tmod y) y) (fun _ => x.tmod y) x
def blt (x y : Int) : Bool := irec (fun m => irec (fun n => Nat.blt m n) (fun _ => false) y) (fun m => irec (fun _ => true) (fun n => Nat.blt n m) y) x
def ble (x y : Int) : Bool := irec (fun m => irec (fun n => Nat.ble m n) (fun _ => false) y) (fun m => irec (fun _ => true) (fun n => Nat.ble n m) y) x
def beq (x y : Int) : Bool := irec (fun m => irec (fun n => Nat.beq m n) (fun _ => false) y) (fun m => irec (fun _ => false) (fun n => Nat.beq n m) y) x
def is0 (x : Int) : Bool := irec (fun m => Nat.beq m 0) (fun _ => false) x

theorem subN_eq (m n : Nat) : subN m n = (m : Int) - (n : Int) := by
  unfold subN
  cases h : Nat.ble n m with
  | true =>
    have := Nat.le_of_ble_eq_true h
    show Int.ofNat (m - n) = _
    simp only [Int.ofNat_eq_natCast]; omega
  | false =>
    have h' : ¬ n ≤ m := fun hle => by rw [Nat.ble_eq_true_of_le hle] at h; cases h
    show Int.negSucc (Nat.pred (n - m)) = _
    rw [Int.negSucc_eq]; simp only [Nat.pred_eq_sub_one]; omega
theorem add_eq (x y : Int) : add x y = x + y := by
  cases x with
  | ofNat m => cases y with
    | ofNat n => rfl
    | negSucc n => show subN m (Nat.succ n) = _; rw [subN_eq, Int.negSucc_eq]; simp only [Int.ofNat_eq_natCast]; omega
  | negSucc m => cases y with
    | ofNat n => show subN n (Nat.succ m) = _; rw [subN_eq, Int.negSucc_eq]; simp only [Int.ofNat_eq_natCast]; omega
    | negSucc n => show Int.negSucc (Nat.succ (m + n)) = _; rw [Int.negSucc_eq, Int.negSucc_eq, Int.negSucc_eq]; omega
theorem sub_eq (x y : Int) : sub x y = x - y := by
  cases x with
  | ofNat m => cases y with
    | ofNat n => exact subN_eq m n
    | negSucc n => show Int.ofNat (m + Nat.succ n) = _; rw [Int.negSucc_eq]; simp only [Int.ofNat_eq_natCast]; omega
  | negSucc m => cases y with
    | ofNat n => show Int.negSucc (m + n) = _; rw [Int.negSucc_eq, Int.negSucc_eq]; simp only [Int.ofNat_eq_natCast]; omega
    | negSucc n => show subN n m = _; rw [subN_eq, Int.negSucc_eq, Int.negSucc_eq]; omega
theorem mul_eq (x y : Int) : mul x y = x * y := by cases x <;> cases y <;> rfl
theorem quo_eq (x y : Int) : quo x y = x.tdiv y := by cases x <;> cases y <;> rfl
theorem rem_eq (x y : Int) : rem x y = x.tmod y := by cases x <;> cases y <;> rfl
theorem nblt (m n : Nat) : Nat.blt m n = decide (m < n) := by rw [Bool.eq_iff_iff, Nat.blt_eq]; simp
theorem nble (m n : Nat) : Nat.ble m n = decide (m ≤ n) := by rw [Bool.eq_iff_iff, Nat.ble_eq]; simp
theorem nbeq (m n : Nat) : Nat.beq m n = decide (m = n) := by rw [Bool.eq_iff_iff]; simp
theorem blt_eq (x y : Int) : blt x y = decide (x < y) := by
  cases x with
  | ofNat m => cases y with
    | ofNat n => show Nat.blt m n = _; rw [nblt]; simp only [Int.ofNat_eq_natCast]; congr 1; simp
    | negSucc n => show false = _; symm; rw [decide_eq_false_iff_not, Int.negSucc_eq]; simp only [Int.ofNat_eq_natCast]; omega
  | negSucc m => cases y with
    | ofNat n => show true = _; symm; rw [decide_eq_true_iff, Int.negSucc_eq]; simp only [Int.ofNat_eq_natCast]; omega
    | negSucc n => show Nat.blt n m = _; rw [nblt, Int.negSucc_eq, Int.negSucc_eq]; congr 1; apply propext; omega
theorem ble_eq (x y : Int) : ble x y = decide (x ≤ y) := by
  cases x with
  | ofNat m => cases y with
    | ofNat n => show Nat.ble m n = _; rw [nble]; simp only [Int.ofNat_eq_natCast]; congr 1; simp
    | negSucc n => show false = _; symm; rw [decide_eq_false_iff_not, Int.negSucc_eq]; simp only [Int.ofNat_eq_natCast]; omega
  | negSucc m => cases y with
    | ofNat n => show true = _; symm; rw [decide_eq_true_iff, Int.negSucc_eq]; simp only [Int.ofNat_eq_natCast]; omega
    | negSucc n => show Nat.ble n m = _; rw [nble, Int.negSucc_eq, Int.negSucc_eq]; congr 1; apply propext; omega
theorem beq_eq (x y : Int) : beq x y = (x == y) := by
  have : (x == y) = decide (x = y) := by rw [Bool.eq_iff_iff]; simp
  rw [this]
  cases x with
  | ofNat m => cases y with
    | ofNat n => show Nat.beq m n = _; rw [nbeq]; simp only [Int.ofNat_eq_natCast]; congr 1; apply propext; omega
    | negSucc n => rfl
  | negSucc m => cases y with
    | ofNat n => rfl
    | negSucc n => show Nat.beq n m = _; rw [nbeq, Int.negSucc_eq, Int.negSucc_eq]; congr 1; apply propext; omega
theorem is0_eq (x : Int) : is0 x = (x == 0) := by rw [← beq_eq]; cases x <;> rfl
end FI

/-- How many values a kind has. -/
def kPow (k : IntKind) : Nat := IntKind.rec (motive := fun _ => Nat) 256 65536 4294967296 18446744073709551616 256 65536 4294967296 18446744073709551616 k
theorem kPow_eq (k : IntKind) : kPow k = 2 ^ k.bits := by cases k <;> rfl
def kBits (k : IntKind) : Nat := IntKind.rec (motive := fun _ => Nat) 8 16 32 64 8 16 32 64 k
theorem kBits_eq (k : IntKind) : kBits k = k.bits := by cases k <;> rfl
def wrapU (p : Nat) (k : IntKind) (n : Int) : Int := irec (fun m => .ofNat (Nat.mod m p)) (fun _ => k.wrap n) n
def wrapS (p : Nat) (k : IntKind) (n : Int) : Int := irec (fun m => brec (k.wrap n) (.ofNat m) (Nat.blt m p)) (fun m => brec (k.wrap n) (.negSucc m) (Nat.blt m p)) n
def fw (k : IntKind) : Int → Int :=
  IntKind.rec (motive := fun _ => Int → Int) (fun n => wrapS 128 .i8 n) (fun n => wrapS 32768 .i16 n) (fun n => wrapS 2147483648 .i32 n) (fun n => wrapS 9223372036854775808 .i64 n)
    (fun n => wrapU 256 .u8 n) (fun n => wrapU 65536 .u16 n) (fun n => wrapU 4294967296 .u32 n) (fun n => wrapU 18446744073709551616 .u64 n) k
theorem wrapU_eq (p : Nat) (k : IntKind) (n : Int) (hp : p = 2 ^ k.bits) (hs : k.signed = false) : wrapU p k n = k.wrap n := by
  cases n with
  | negSucc m => rfl
  | ofNat m =>
    show Int.ofNat (m % p) = _
    unfold IntKind.wrap
    rw [hs]
    simp only [Bool.false_and, Bool.false_eq_true, if_false]
    rw [hp]
    simp
theorem wrapS_eq (p : Nat) (k : IntKind) (n : Int) (h1 : (2 ^ (k.bits - 1) : Int) = p) (h2 : (2 ^ k.bits : Int) = 2 * p) (hs : k.signed = true) : wrapS p k n = k.wrap n := by
  cases n with
  | ofNat m =>
    show brec _ (Int.ofNat m) (Nat.blt m p) = _
    cases h : Nat.blt m p with
    | false => rfl
    | true =>
      rw [Nat.blt_eq] at h
      show Int.ofNat m = _
      unfold IntKind.wrap
      rw [hs, h1, h2]
      have e : Int.ofNat m % (2 * (p : Int)) = Int.ofNat m := Int.emod_eq_of_lt (by simp) (by simp only [Int.ofNat_eq_natCast]; omega)
      simp only [e, Bool.true_and]
      rw [if_neg (by simp only [decide_eq_true_eq, ge_iff_le, Int.ofNat_eq_natCast]; omega)]
  | negSucc m =>
    show brec _ (Int.negSucc m) (Nat.blt m p) = _
    cases h : Nat.blt m p with
    | false => rfl
    | true =>
      rw [Nat.blt_eq] at h
      show Int.negSucc m = _
      unfold IntKind.wrap
      rw [hs, h1, h2]
      have e : Int.negSucc m % (2 * (p : Int)) = Int.negSucc m + 2 * p := by
        rw [← Int.add_mul_emod_self_left (Int.negSucc m) (2 * (p : Int)) 1, Int.mul_one]
        exact Int.emod_eq_of_lt (by rw [Int.negSucc_eq]; omega) (by rw [Int.negSucc_eq]; omega)
      simp only [e, Bool.true_and]
      rw [if_pos (by simp only [decide_eq_true_eq, ge_iff_le, Int.negSucc_eq]; omega)]
      omega
theorem fw_eq (k : IntKind) (n : Int) : fw k n = k.wrap n := by
  cases k with
  | u8 => exact wrapU_eq 256 .u8 n rfl rfl
  | u16 => exact wrapU_eq 65536 .u16 n rfl rfl
  | u32 => exact wrapU_eq 4294967296 .u32 n rfl rfl
  | u64 => exact wrapU_eq 18446744073709551616 .u64 n rfl rfl
  | i8 => exact wrapS_eq 128 .i8 n (by decide) (by decide) rfl
  | i16 => exact wrapS_eq 32768 .i16 n (by decide) (by decide) rfl
  | i32 => exact wrapS_eq 2147483648 .i32 n (by decide) (by decide) rfl
  | i64 => exact wrapS_eq 9223372036854775808 .i64 n (by decide) (by decide) rfl
theorem fw_fwrap (k : IntKind) (n : Int) : fw k n = fwrap k n := by rw [fw_eq, fwrap_eq]

/-! Bits of numbers from 0 on -/
def bitN (g : Nat → Nat → Nat → Nat) (slow : IntKind → Int → Int → Option AV) (k : IntKind) (x y : Int) : Option AV :=
  irec (fun m => irec (fun n => some (.int k (fw k (.ofNat (g (kPow k) (Nat.mod m (kPow k)) (Nat.mod n (kPow k))))))) (fun _ => slow k x y) y) (fun _ => slow k x y) x
theorem ofInt_nat (k : IntKind) (m : Nat) : (BitVec.ofInt k.bits (Int.ofNat m)).toNat = m % 2 ^ k.bits := by simp
theorem bitN_and (k : IntKind) (x y : Int) : bitN (fun _ a b => Nat.land a b) (evInt .and) k x y = evInt .and k x y := by
  cases x <;> cases y <;> try rfl
  show some (AV.int k (fw k (.ofNat (Nat.land (Nat.mod _ (kPow k)) (Nat.mod _ (kPow k)))))) = some (AV.int k (fwrap k _))
  rw [fw_fwrap, kPow_eq, BitVec.toNat_and, ofInt_nat, ofInt_nat]; rfl
theorem bitN_or (k : IntKind) (x y : Int) : bitN (fun _ a b => Nat.lor a b) (evInt .or) k x y = evInt .or k x y := by
  cases x <;> cases y <;> try rfl
  show some (AV.int k (fw k (.ofNat (Nat.lor (Nat.mod _ (kPow k)) (Nat.mod _ (kPow k)))))) = some (AV.int k (fwrap k _))
  rw [fw_fwrap, kPow_eq, BitVec.toNat_or, ofInt_nat, ofInt_nat]; rfl
theorem bitN_xor (k : IntKind) (x y : Int) : bitN (fun _ a b => Nat.xor a b) (evInt .xor) k x y = evInt .xor k x y := by
  cases x <;> cases y <;> try rfl
  show some (AV.int k (fw k (.ofNat (Nat.xor (Nat.mod _ (kPow k)) (Nat.mod _ (kPow k)))))) = some (AV.int k (fwrap k _))
  rw [fw_fwrap, kPow_eq, BitVec.toNat_xor, ofInt_nat, ofInt_nat]; rfl
theorem bitN_andNot (k : IntKind) (x y : Int) : bitN (fun p a b => Nat.land a (Nat.sub (Nat.sub p 1) b)) (evInt .andNot) k x y = evInt .andNot k x y := by
  cases x <;> cases y <;> try rfl
  show some (AV.int k (fw k (.ofNat (Nat.land (Nat.mod _ (kPow k)) (Nat.sub (Nat.sub (kPow k) 1) (Nat.mod _ (kPow k))))))) = some (AV.int k (fwrap k _))
  rw [fw_fwrap, kPow_eq, BitVec.toNat_and, BitVec.toNat_not, ofInt_nat, ofInt_nat]; rfl

def shlF (k : IntKind) (x y : Int) : Option AV :=
  irec (fun n => some (.int k (fw k (FI.mul x (.ofNat (Nat.pow 2 (minN n (kBits k)))))))) (fun _ => none) y
def shrF (k : IntKind) (x y : Int) : Option AV :=
  irec (fun n => some (.int k (irec (fun m => .ofNat (Nat.div m (Nat.pow 2 (minN n (kBits k))))) (fun _ => x.fdiv (2 ^ min n k.bits)) x))) (fun _ => none) y
theorem minN_min (n l : Nat) : minN n l = min n l := by
  unfold minN
  cases h : Nat.ble n l with
  | true => have := Nat.le_of_ble_eq_true h; show n = _; omega
  | false =>
    have h' : ¬ n ≤ l := fun hle => by rw [Nat.ble_eq_true_of_le hle] at h; cases h
    show l = _; omega
theorem shlF_eq (k : IntKind) (x y : Int) : shlF k x y = evShift .shl k x y := by
  cases y with
  | negSucc n => unfold evShift; rw [show decide ((Int.negSucc n : Int) < 0) = true from by simp [Int.negSucc_lt_zero]]; rfl
  | ofNat n =>
    have h : decide ((Int.ofNat n : Int) < 0) = false := by simp
    unfold evShift
    rw [h]
    show some (AV.int k (fw k (FI.mul x (.ofNat (2 ^ minN n (kBits k)))))) = some (AV.int k (fwrap k (x * 2 ^ min n k.bits)))
    rw [fw_fwrap, FI.mul_eq, minN_min, kBits_eq]; simp
theorem shrF_eq (k : IntKind) (x y : Int) : shrF k x y = evShift .shr k x y := by
  cases y with
  | negSucc n => unfold evShift; rw [show decide ((Int.negSucc n : Int) < 0) = true from by simp [Int.negSucc_lt_zero]]; rfl
  | ofNat n =>
    have h : decide ((Int.ofNat n : Int) < 0) = false := by simp
    unfold evShift
    rw [h]
    cases x with
    | negSucc m => rfl
    | ofNat m =>
      show some (AV.int k (Int.ofNat (m / 2 ^ minN n (kBits k)))) = some (AV.int k ((Int.ofNat m).fdiv (2 ^ min n k.bits)))
      rw [minN_min, kBits_eq]
      congr 2
      have : (2 : Int) ^ min n k.bits = ((2 ^ min n k.bits : Nat) : Int) := by simp
      rw [this, Int.fdiv_eq_ediv_of_nonneg _ (Int.natCast_nonneg _)]; rfl

/-- Two whole numbers of one kind: 'g'; anything other: as it is. -/
def int2 (g : IntKind → Int → Int → Option AV) (s : AV → AV → Option AV) (x y : AV) : Option AV :=
  avInt (s x y) (fun k a => avInt (s x y) (fun k' b => brec (s x y) (g k a b) (kEq k k')) y) x
/-- Two whole numbers of any kinds. -/
def intS (g : IntKind → Int → Int → Option AV) (x y : AV) : Option AV := avInt none (fun k a => avInt none (fun _ b => g k a b) y) x

def binF (op : BinOp) : (AV → AV → Option AV) → AV → AV → Option AV :=
  BinOp.rec (motive := fun _ => (AV → AV → Option AV) → AV → AV → Option AV)
    (fun s x y => int2 (fun k a b => some (.int k (fw k (FI.add a b)))) s x y)
    (fun s x y => int2 (fun k a b => some (.int k (fw k (FI.sub a b)))) s x y)
    (fun s x y => int2 (fun k a b => some (.int k (fw k (FI.mul a b)))) s x y)
    (fun s x y => int2 (fun k a b => brec (some (.int k (fw k (FI.quo a b)))) none (FI.is0 b)) s x y)
    (fun s x y => int2 (fun k a b => brec (some (.int k (FI.rem a b))) none (FI.is0 b)) s x y)
    (fun s x y => int2 (fun k a b => bitN (fun _ a b => Nat.land a b) (evInt .and) k a b) s x y)
    (fun s x y => int2 (fun k a b => bitN (fun _ a b => Nat.lor a b) (evInt .or) k a b) s x y)
    (fun s x y => int2 (fun k a b => bitN (fun _ a b => Nat.xor a b) (evInt .xor) k a b) s x y)
    (fun _ x y => intS (fun k a b => shlF k a b) x y)
    (fun _ x y => intS (fun k a b => shrF k a b) x y)
    (fun s x y => int2 (fun k a b => bitN (fun p a b => Nat.land a (Nat.sub (Nat.sub p 1) b)) (evInt .andNot) k a b) s x y)
    (fun s x y => int2 (fun _ a b => some (.bool (FI.beq a b))) s x y)
    (fun s x y => int2 (fun _ a b => some (.bool (brec true false (FI.beq a b)))) s x y)
    (fun s x y => int2 (fun _ a b => some (.bool (FI.blt a b))) s x y)
    (fun s x y => int2 (fun _ a b => some (.bool (FI.ble a b))) s x y)
    (fun s x y => int2 (fun _ a b => some (.bool (FI.blt b a))) s x y)
    (fun s x y => int2 (fun _ a b => some (.bool (FI.ble b a))) s x y) op

theorem brec_not (b : Bool) : brec true false b = !b := by cases b <;> rfl
theorem int2_eq {L : Lk} {op : BinOp} {t : TypeId} {xo yo : Operand} (ho : op ≠ .shl ∧ op ≠ .shr) (g : IntKind → Int → Int → Option AV) (hg : ∀ k a b, g k a b = evInt op k a b) (x y : AV) :
    int2 g (evBin L op t xo yo) x y = evBin L op t xo yo x y := by
  cases x <;> try rfl
  next k a =>
  cases y <;> try rfl
  next k' b =>
  show brec (evBin L op t xo yo (.int k a) (.int k' b)) (g k a b) (kEq k k') = _
  rw [kEq_eq]
  by_cases h : k = k'
  · subst h
    simp only [decide_true, brec_t]
    rw [hg]
    obtain ⟨h1, h2⟩ := ho
    cases op <;> first | (exact absurd rfl h1) | (exact absurd rfl h2) | simp [evBin]
  · simp only [h, decide_false, brec_f]
theorem binF_eq (L : Lk) (op : BinOp) (t : TypeId) (xo yo : Operand) (x y : AV) : binF op (evBin L op t xo yo) x y = evBin L op t xo yo x y := by
  cases op
  case add => exact int2_eq ⟨by decide, by decide⟩ _ (fun k a b => by rw [FI.add_eq, fw_fwrap]; rfl) x y
  case sub => exact int2_eq ⟨by decide, by decide⟩ _ (fun k a b => by rw [FI.sub_eq, fw_fwrap]; rfl) x y
  case mul => exact int2_eq ⟨by decide, by decide⟩ _ (fun k a b => by rw [FI.mul_eq, fw_fwrap]; rfl) x y
  case quo => exact int2_eq ⟨by decide, by decide⟩ _ (fun k a b => by rw [FI.quo_eq, fw_fwrap, FI.is0_eq]; unfold evInt; cases b == 0 <;> rfl) x y
  case rem => exact int2_eq ⟨by decide, by decide⟩ _ (fun k a b => by rw [FI.rem_eq, FI.is0_eq]; unfold evInt; cases b == 0 <;> rfl) x y
  case and => exact int2_eq ⟨by decide, by decide⟩ _ (fun k a b => bitN_and k a b) x y
  case or => exact int2_eq ⟨by decide, by decide⟩ _ (fun k a b => bitN_or k a b) x y
  case xor => exact int2_eq ⟨by decide, by decide⟩ _ (fun k a b => bitN_xor k a b) x y
  case andNot => exact int2_eq ⟨by decide, by decide⟩ _ (fun k a b => bitN_andNot k a b) x y
  case shl =>
    cases x <;> try rfl
    cases y <;> try rfl
    exact shlF_eq _ _ _
  case shr =>
    cases x <;> try rfl
    cases y <;> try rfl
    exact shrF_eq _ _ _
  case eql => exact int2_eq ⟨by decide, by decide⟩ _ (fun k a b => by rw [FI.beq_eq]; rfl) x y
  case neq => exact int2_eq ⟨by decide, by decide⟩ _ (fun k a b => by rw [FI.beq_eq, brec_not]; rfl) x y
  case lss => exact int2_eq ⟨by decide, by decide⟩ _ (fun k a b => by rw [FI.blt_eq]; rfl) x y
  case leq => exact int2_eq ⟨by decide, by decide⟩ _ (fun k a b => by rw [FI.ble_eq]; rfl) x y
  case gtr => exact int2_eq ⟨by decide, by decide⟩ _ (fun k a b => by rw [FI.blt_eq]; rfl) x y
  case geq => exact int2_eq ⟨by decide, by decide⟩ _ (fun k a b => by rw [FI.ble_eq]; rfl) x y
end
end Go.Ev
