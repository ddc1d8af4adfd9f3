import Derived.Test.YthnmcpkoplmggaaEvDef
import Derived.IntWalk
set_option linter.unusedSimpArgs false
set_option linter.unusedVariables false
namespace Go.Ev

/-! ### Unfolding the recursors -/
theorem trec_nil {α β : Type} (z : β) (f : Option α → Tr α → Tr α → β → β → β) : trec z f .nil = z := rfl
theorem trec_node {α β : Type} (z : β) (f : Option α → Tr α → Tr α → β → β → β) (v : Option α) (l r : Tr α) : trec z f (.node v l r) = f v l r (trec z f l) (trec z f r) := rfl
theorem lrec_nil {α β : Type} (z : β) (f : α → List α → β → β) : lrec z f [] = z := rfl
theorem lrec_cons {α β : Type} (z : β) (f : α → List α → β → β) (a : α) (l : List α) : lrec z f (a :: l) = f a l (lrec z f l) := rfl
theorem nrecF_zero {α β : Type} (z : α → β) (f : Nat → (α → β) → α → β) (a : α) : nrecF z f 0 a = z a := rfl
theorem nrecF_succ {α β : Type} (z : α → β) (f : Nat → (α → β) → α → β) (n : Nat) (a : α) : nrecF z f (n + 1) a = f n (nrecF z f n) a := rfl

theorem beq0_t {n : Nat} (h : n % 2 = 0) : Nat.beq (n % 2) 0 = true := by rw [h]; rfl
theorem beq0_f {n : Nat} (h : ¬ n % 2 = 0) : Nat.beq (n % 2) 0 = false := by
  have : n % 2 = 1 := by omega
  rw [this]; rfl
/-! ### The trie -/
namespace Tr
variable {α : Type}
theorem get_nil (k : Nat) : (Tr.nil : Tr α).get k = none := rfl
theorem get_node_zero (v : Option α) (l r : Tr α) : (Tr.node v l r).get 0 = v := rfl
theorem get_node_succ (v : Option α) (l r : Tr α) (j : Nat) : (Tr.node v l r).get (j + 1) = if j % 2 = 0 then l.get (j / 2) else r.get (j / 2) := by
  show (match Nat.beq (j % 2) 0 with | true => l.get (j / 2) | false => r.get (j / 2)) = _
  by_cases h : j % 2 = 0
  · rw [beq0_t h, if_pos h]
  · rw [beq0_f h, if_neg h]
theorem setF_nil_zero (f : Nat) (x : α) : setF (f + 1) .nil 0 x = .node (some x) .nil .nil := rfl
theorem setF_node_zero (f : Nat) (v : Option α) (l r : Tr α) (x : α) : setF (f + 1) (.node v l r) 0 x = .node (some x) l r := rfl
theorem setF_nil_succ (f j : Nat) (x : α) : setF (f + 1) .nil (j + 1) x = if j % 2 = 0 then .node none (setF f .nil (j / 2) x) .nil else .node none .nil (setF f .nil (j / 2) x) := by
  show (match Nat.beq (j % 2) 0 with | true => Tr.node none (setF f .nil (j / 2) x) .nil | false => Tr.node none .nil (setF f .nil (j / 2) x)) = _
  by_cases h : j % 2 = 0
  · rw [beq0_t h, if_pos h]
  · rw [beq0_f h, if_neg h]
theorem setF_node_succ (f : Nat) (v : Option α) (l r : Tr α) (j : Nat) (x : α) : setF (f + 1) (.node v l r) (j + 1) x = if j % 2 = 0 then .node v (setF f l (j / 2) x) r else .node v l (setF f r (j / 2) x) := by
  show (match Nat.beq (j % 2) 0 with | true => Tr.node v (setF f l (j / 2) x) r | false => Tr.node v l (setF f r (j / 2) x)) = _
  by_cases h : j % 2 = 0
  · rw [beq0_t h, if_pos h]
  · rw [beq0_f h, if_neg h]
theorem get_setF : ∀ (f : Nat) (t : Tr α) (k : Nat) (x : α), k < f → ∀ j, (setF f t k x).get j = if j = k then some x else t.get j
  | 0, _, _, _, h, _ => absurd h (Nat.not_lt_zero _)
  | f + 1, .nil, 0, x, _, j => by
    rw [setF_nil_zero]
    cases j with
    | zero => rfl
    | succ j => rw [get_node_succ]; simp [get_nil]
  | f + 1, .node v l r, 0, x, _, j => by
    rw [setF_node_zero]
    cases j with
    | zero => rfl
    | succ j => rw [get_node_succ, get_node_succ]; simp
  | f + 1, .nil, k + 1, x, h, j => by
    rw [setF_nil_succ]
    have ih := get_setF f (.nil : Tr α) (k / 2) x (by omega)
    split
    · cases j with
      | zero => rw [get_node_zero, if_neg (by omega)]; rfl
      | succ j =>
        rw [get_node_succ, ih]
        simp only [get_nil]
        split <;> (repeat' split) <;> first | rfl | omega
    · cases j with
      | zero => rw [get_node_zero, if_neg (by omega)]; rfl
      | succ j =>
        rw [get_node_succ, ih]
        simp only [get_nil]
        split <;> (repeat' split) <;> first | rfl | omega
  | f + 1, .node v l r, k + 1, x, h, j => by
    rw [setF_node_succ]
    have ihl := get_setF f l (k / 2) x (by omega)
    have ihr := get_setF f r (k / 2) x (by omega)
    split
    · cases j with
      | zero => rw [get_node_zero, if_neg (by omega), get_node_zero]
      | succ j =>
        rw [get_node_succ, get_node_succ, ihl]
        split <;> (repeat' split) <;> first | rfl | omega
    · cases j with
      | zero => rw [get_node_zero, if_neg (by omega), get_node_zero]
      | succ j =>
        rw [get_node_succ, get_node_succ, ihr]
        split <;> (repeat' split) <;> first | rfl | omega
theorem get_set (t : Tr α) (k : Nat) (x : α) (j : Nat) : (t.set k x).get j = if j = k then some x else t.get j :=
  get_setF (k + 1) t k x (Nat.lt_succ_self k) j
theorem get_set_self (t : Tr α) (k : Nat) (x : α) : (t.set k x).get k = some x := by rw [get_set, if_pos rfl]
theorem get_set_ne (t : Tr α) {k j : Nat} (x : α) (h : j ≠ k) : (t.set k x).get j = t.get j := by rw [get_set, if_neg h]
theorem ofList_aux (l : List α) : ∀ (k : Nat) (t : Tr α) (j : Nat),
    (lrec (β := Nat → Tr α → Tr α) (fun _ t => t) (fun x _ ih k t => ih (k + 1) (t.set k x)) l k t).get j = if k ≤ j ∧ j < k + l.length then l[j - k]? else t.get j := by
  induction l with
  | nil => intro k t j; simp [lrec_nil]; omega
  | cons x l ih =>
    intro k t j
    rw [lrec_cons, ih, get_set]
    by_cases h : j = k
    · subst h; simp; omega
    · by_cases h2 : k + 1 ≤ j ∧ j < k + 1 + l.length
      · rw [if_pos h2, if_pos (by simp; omega)]
        obtain ⟨d, hd⟩ : ∃ d, j - k = d + 1 := ⟨j - k - 1, by omega⟩
        rw [hd, show j - (k + 1) = d from by omega]; simp
      · rw [if_neg h2, if_neg h, if_neg (by simp; omega)]
theorem get_ofList (l : List α) (j : Nat) : (ofList l).get j = l[j]? := by
  unfold ofList
  rw [ofList_aux]
  by_cases h : j < l.length
  · rw [if_pos ⟨Nat.zero_le _, by omega⟩]; simp
  · rw [if_neg (by omega), get_nil, List.getElem?_eq_none (by omega)]
end Tr

/-! ### Lists -/
section lists
variable {α : Type}
theorem nth_eq (l : List α) : ∀ i, nth l i = l[i]? := by
  induction l with
  | nil => intro i; rfl
  | cons a l ih => intro i; cases i with | zero => rfl | succ j => show nth l j = _; rw [ih]; simp
theorem len_eq (l : List α) : len l = l.length := by
  induction l with
  | nil => rfl
  | cons a l ih => show Nat.succ (len l) = _; rw [ih]; simp
theorem dropN_eq (l : List α) : ∀ i, dropN l i = l.drop i := by
  induction l with
  | nil => intro i; cases i <;> rfl
  | cons a l ih => intro i; cases i with | zero => rfl | succ j => show dropN l j = _; rw [ih]; simp
theorem takeN_some (l : List α) : ∀ n l', takeN l n = some l' ↔ n ≤ l.length ∧ l' = l.take n := by
  induction l with
  | nil => intro n l'; cases n with | zero => simp [takeN, lrec_nil, eq_comm] | succ n => simp [takeN, lrec_nil]
  | cons a l ih =>
    intro n l'
    cases n with
    | zero => simp [takeN, lrec_cons, eq_comm]
    | succ n =>
      show (match takeN l n with | some l => some (a :: l) | none => none) = some l' ↔ _
      cases h : takeN l n with
      | none =>
        simp only [reduceCtorEq, false_iff]
        intro hc
        have := (ih n (l.take n)).2 ⟨by simpa using hc.1, rfl⟩
        rw [h] at this; cases this
      | some l2 =>
        have := (ih n l2).1 h
        simp only [Option.some.injEq]
        constructor
        · intro e; subst e; exact ⟨by simp; omega, by simp [this.2]⟩
        · intro hc; rw [hc.2, this.2]; simp
theorem sliceN_some (l : List α) (i n : Nat) (l' : List α) : sliceN l i n = some l' ↔ n ≤ l.length - i ∧ l' = (l.drop i).take n := by
  unfold sliceN; rw [dropN_eq, takeN_some]; simp
theorem sliceN_getElem {l l' : List α} {i n : Nat} (h : sliceN l i n = some l') : l'.length = n ∧ ∀ j, j < n → l'[j]? = l[i + j]? ∧ i + j < l.length := by
  obtain ⟨h1, h2⟩ := (sliceN_some l i n l').1 h
  subst h2
  refine ⟨by simp; omega, fun j hj => ⟨?_, by omega⟩⟩
  rw [List.getElem?_take_of_lt hj, List.getElem?_drop]
theorem over_some (xs : List α) : ∀ l l', over xs l = some l' ↔ xs.length ≤ l.length ∧ l' = xs ++ l.drop xs.length := by
  induction xs with
  | nil => intro l l'; simp [over, lrec_nil, eq_comm]
  | cons x xs ih =>
    intro l l'
    cases l with
    | nil => simp [over, lrec_cons]
    | cons a l =>
      show (match over xs l with | some l' => some (x :: l') | none => none) = some l' ↔ _
      cases h : over xs l with
      | none =>
        simp only [reduceCtorEq, false_iff]
        intro hc
        have := (ih l _).2 ⟨by simpa using hc.1, rfl⟩
        rw [h] at this; cases this
      | some l2 =>
        have := (ih l l2).1 h
        simp only [Option.some.injEq]
        constructor
        · intro e; subst e; exact ⟨by simp; omega, by simp [this.2]⟩
        · intro hc; rw [hc.2, this.2]; simp
theorem overAt_some (xs l : List α) : ∀ i l', overAt xs l i = some l' ↔ i + xs.length ≤ l.length ∧ l' = l.take i ++ xs ++ l.drop (i + xs.length) := by
  induction l with
  | nil =>
    intro i l'
    cases i with
    | zero => show over xs [] = some l' ↔ _; rw [over_some]; simp
    | succ i => simp [overAt, lrec_nil]
  | cons a l ih =>
    intro i l'
    cases i with
    | zero => show over xs (a :: l) = some l' ↔ _; rw [over_some]; simp
    | succ i =>
      show (match overAt xs l i with | some l' => some (a :: l') | none => none) = some l' ↔ _
      cases h : overAt xs l i with
      | none =>
        simp only [reduceCtorEq, false_iff]
        intro hc
        have := (ih i _).2 ⟨by simp at hc; omega, rfl⟩
        rw [h] at this; cases this
      | some l2 =>
        have := (ih i l2).1 h
        simp only [Option.some.injEq]
        constructor
        · intro e; subst e; refine ⟨by simp; omega, ?_⟩
          rw [this.2, show i + 1 + xs.length = (i + xs.length) + 1 from by omega]; simp
        · intro hc; rw [hc.2, this.2, show i + 1 + xs.length = (i + xs.length) + 1 from by omega]; simp
theorem mapO_some {β : Type} (f : α → Option β) (l : List α) : ∀ r, mapO f l = some r ↔ r.length = l.length ∧ ∀ (i : Nat) a, l[i]? = some a → ∃ b, f a = some b ∧ r[i]? = some b := by
  induction l with
  | nil => intro r; simp [mapO, lrec_nil, eq_comm]
  | cons a l ih =>
    intro r
    show obind (f a) (fun b => obind (mapO f l) fun bs => some (b :: bs)) = some r ↔ _
    unfold obind
    cases hf : f a with
    | none =>
      simp only [reduceCtorEq, false_iff]
      intro hc
      obtain ⟨b, hb, _⟩ := hc.2 0 a (by simp)
      rw [hf] at hb; cases hb
    | some b =>
      cases hm : mapO f l with
      | none =>
        simp only [reduceCtorEq, false_iff]
        intro hc
        cases r with
        | nil => simp at hc
        | cons b' r =>
          have := (ih r).2 ⟨by simpa using hc.1, fun i x hx => by
            obtain ⟨y, hy, hz⟩ := hc.2 (i + 1) x (by simpa using hx)
            exact ⟨y, hy, by simpa using hz⟩⟩
          rw [hm] at this; cases this
      | some bs =>
        have h := (ih bs).1 hm
        simp only [Option.some.injEq]
        constructor
        · intro e; subst e
          refine ⟨by simp [h.1], fun i x hx => ?_⟩
          cases i with
          | zero => simp at hx; subst hx; exact ⟨b, hf, by simp⟩
          | succ i => obtain ⟨y, hy, hz⟩ := h.2 i x (by simpa using hx); exact ⟨y, hy, by simpa using hz⟩
        · intro hc
          cases r with
          | nil => simp at hc
          | cons b' r =>
            obtain ⟨y, hy, hz⟩ := hc.2 0 a (by simp)
            rw [hf] at hy; cases hy
            simp at hz; subst hz
            congr 1
            refine List.ext_getElem? fun i => ?_
            by_cases hi : i < l.length
            · obtain ⟨y, hy, hz⟩ := hc.2 (i + 1) l[i] (by simp [hi])
              obtain ⟨y', hy', hz'⟩ := h.2 i l[i] (by simp [hi])
              rw [hy] at hy'; cases hy'
              rw [hz']; simpa using hz.symm
            · rw [List.getElem?_eq_none (by omega), List.getElem?_eq_none (by have := hc.1; simp at this; omega)]
theorem mapO_map {β γ : Type} (f : α → Option β) (g : β → γ) (k : α → γ) (hk : ∀ a b, f a = some b → k a = g b) {l : List α} {r : List β} (h : mapO f l = some r) : l.map k = r.map g := by
  obtain ⟨h1, h2⟩ := (mapO_some f l r).1 h
  refine List.ext_getElem? fun i => ?_
  by_cases hi : i < l.length
  · obtain ⟨b, hb, hr⟩ := h2 i l[i] (by simp [hi])
    simp [hr, hi, hk _ _ hb]
  · simp [List.getElem?_eq_none (Nat.le_of_not_lt hi), List.getElem?_eq_none (Nat.le_of_not_lt (by rw [h1]; exact hi) : r.length ≤ i)]
theorem rep_succ (x : List α) (n : Nat) : rep x (n + 1) = x ++ rep x n := rfl
theorem rep_length (x : List α) : ∀ n, (rep x n).length = n * x.length
  | 0 => by simp [rep, nrecF_zero]
  | n + 1 => by rw [rep_succ, List.length_append, rep_length x n, Nat.succ_mul]; omega
theorem rep_getElem (x : List α) : ∀ (n i : Nat), i < n * x.length → (rep x n)[i]? = x[i % x.length]?
  | 0, i, h => by simp at h
  | n + 1, i, h => by
    rw [rep_succ]
    by_cases hi : i < x.length
    · rw [List.getElem?_append_left hi, Nat.mod_eq_of_lt hi]
    · rw [List.getElem?_append_right (by omega), rep_getElem x n (i - x.length) (by rw [Nat.succ_mul] at h; omega)]
      rw [← Nat.mod_eq_sub_mod (by omega)]
end lists

theorem fwrap_eq (k : IntKind) (n : Int) : fwrap k n = k.wrap n := by
  cases k with
  | i64 =>
    cases n with
    | ofNat m =>
      show (match Nat.ble m 9223372036854775807 with | true => Int.ofNat m | false => IntKind.wrap .i64 (Int.ofNat m)) = _
      cases h : Nat.ble m 9223372036854775807 with
      | false => rfl
      | true =>
        have := Nat.le_of_ble_eq_true h
        exact (IntWalk.i64_in (Int.ofNat m) ⟨by simp only [Int.ofNat_eq_natCast]; omega, by simp only [Int.ofNat_eq_natCast]; omega⟩).symm
    | negSucc m =>
      show (match Nat.ble m 9223372036854775807 with | true => Int.negSucc m | false => IntKind.wrap .i64 (Int.negSucc m)) = _
      cases h : Nat.ble m 9223372036854775807 with
      | false => rfl
      | true =>
        have := Nat.le_of_ble_eq_true h
        exact (IntWalk.i64_in (Int.negSucc m) ⟨by rw [Int.negSucc_eq]; omega, by rw [Int.negSucc_eq]; omega⟩).symm
  | u8 =>
    cases n with
    | ofNat m =>
      show Int.ofNat (m % 256) = _
      simp only [IntKind.wrap, IntKind.bits, IntKind.signed, Int.ofNat_eq_natCast, Int.reducePow, Bool.false_and, Bool.false_eq_true, if_false]
      omega
    | negSucc m => rfl
  | u64 =>
    cases n with
    | ofNat m =>
      show Int.ofNat (m % 18446744073709551616) = _
      simp only [IntKind.wrap, IntKind.bits, IntKind.signed, Int.ofNat_eq_natCast, Int.reducePow, Bool.false_and, Bool.false_eq_true, if_false]
      omega
    | negSucc m => rfl
  | i8 => rfl
  | i16 => rfl
  | i32 => rfl
  | u16 => rfl
  | u32 => rfl
end Go.Ev
