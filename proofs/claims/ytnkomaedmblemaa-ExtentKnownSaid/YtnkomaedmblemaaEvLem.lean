import Derived.Test.YtnkomaedmblemaaEvDef
import Derived.IntWalk
set_option linter.unusedSimpArgs false
set_option linter.unusedVariables false
namespace Go.Ev

/-! ### Unfolding the recursors -/
theorem lrec_nil {α β : Type} (z : β) (f : α → List α → β → β) : lrec z f [] = z := rfl
theorem lrec_cons {α β : Type} (z : β) (f : α → List α → β → β) (a : α) (l : List α) : lrec z f (a :: l) = f a l (lrec z f l) := rfl
theorem nrecF_zero {α β : Type} (z : α → β) (f : Nat → (α → β) → α → β) (a : α) : nrecF z f 0 a = z a := rfl
theorem nrecF_succ {α β : Type} (z : α → β) (f : Nat → (α → β) → α → β) (n : Nat) (a : α) : nrecF z f (n + 1) a = f n (nrecF z f n) a := rfl

theorem brec_f {β : Type} (f t : β) : brec f t false = f := rfl
theorem brec_t {β : Type} (f t : β) : brec f t true = t := rfl
/-! ### The trie -/
def undg : Dg → Nat | .d0 => 0 | .d1 => 1 | .d2 => 2 | .d3 => 3 | .d4 => 4 | .d5 => 5 | .d6 => 6 | .d7 => 7
theorem undg_dg : ∀ n, n < 8 → undg (dg n) = n
  | 0, _ => rfl | 1, _ => rfl | 2, _ => rfl | 3, _ => rfl | 4, _ => rfl | 5, _ => rfl | 6, _ => rfl | 7, _ => rfl
  | n + 8, h => absurd h (by omega)
theorem dg_inj {a b : Nat} (ha : a < 8) (hb : b < 8) (h : dg a = dg b) : a = b := by
  rw [← undg_dg a ha, ← undg_dg b hb, h]
theorem Oct.get_put {α : Type} (d : Dg) (x : α) (r : Oct α) : (Oct.put d x r).get d = x := by cases r; cases d <;> rfl
theorem Oct.get_put_ne {α : Type} {d d' : Dg} (h : d' ≠ d) (x : α) (r : Oct α) : (Oct.put d x r).get d' = r.get d' := by
  cases r; cases d <;> cases d' <;> first | rfl | exact absurd rfl h
theorem Oct.get_putF {α : Type} (d : Dg) (x : Oct α) (r : Oct (Oct α)) : (Oct.putF d x r).get d = x := by cases r; cases x; cases d <;> rfl
theorem Oct.get_putF_ne {α : Type} {d d' : Dg} (h : d' ≠ d) (x : Oct α) (r : Oct (Oct α)) : (Oct.putF d x r).get d' = r.get d' := by
  cases r; cases x; cases d <;> cases d' <;> first | rfl | exact absurd rfl h
theorem Oct.get_all {α : Type} (d : Dg) (x : α) : (Oct.all x).get d = x := by cases d <;> rfl
namespace Tr
variable {α : Type}
theorem get_upd {β : Type} (d : Dg) (f : Oct β → Oct β) (t : Oct (Oct β)) : (upd d f t).get d = f (t.get d) := Oct.get_putF _ _ _
theorem get_upd_ne {β : Type} {d d' : Dg} (h : d' ≠ d) (f : Oct β → Oct β) (t : Oct (Oct β)) : (upd d f t).get d' = t.get d' := Oct.get_putF_ne h _ _
theorem ofLo_eq (mid : Oct (Oct (Oct (Oct (Oct (Oct (Option α))))))) (big : List (Nat × α)) (lo : Oct (Oct (Option α))) : ofLo mid big lo = ⟨lo, mid, big⟩ := by cases lo; rfl
theorem ofMid_eq (lo : Oct (Oct (Option α))) (big : List (Nat × α)) (mid : Oct (Oct (Oct (Oct (Oct (Oct (Option α))))))) : ofMid lo big mid = ⟨lo, mid, big⟩ := by cases mid; rfl
theorem blt_t {a b : Nat} (h : a < b) : Nat.blt a b = true := by rw [Nat.blt_eq]; exact h
theorem blt_f {a b : Nat} (h : ¬ a < b) : Nat.blt a b = false := by
  cases hb : Nat.blt a b with
  | false => rfl
  | true => rw [Nat.blt_eq] at hb; exact absurd hb h
theorem get_lo (t : Tr α) {k : Nat} (h : k < 64) : t.get k = getLo (dg (k / 8)) (dg (k % 8)) t := by unfold get; rw [blt_t h]; rfl
theorem get_mid (t : Tr α) {k : Nat} (h : ¬ k < 64) (h2 : k < 262144) : t.get k = getMid (dg (k / 32768)) (dg (k / 4096 % 8)) (dg (k / 512 % 8)) (dg (k / 64 % 8)) (dg (k / 8 % 8)) (dg (k % 8)) t := by
  unfold get; rw [blt_f h, blt_t h2]; rfl
theorem get_big (t : Tr α) {k : Nat} (h : ¬ k < 262144) : t.get k = getBig k t.big := by
  unfold get; rw [blt_f (show ¬ k < 64 from by omega), blt_f h]; rfl
theorem set_lo (t : Tr α) {k : Nat} (x : α) (h : k < 64) : t.set k x = setLo (dg (k / 8)) (dg (k % 8)) x t := by unfold set; rw [blt_t h]; rfl
theorem set_mid (t : Tr α) {k : Nat} (x : α) (h : ¬ k < 64) (h2 : k < 262144) : t.set k x = setMid (dg (k / 32768)) (dg (k / 4096 % 8)) (dg (k / 512 % 8)) (dg (k / 64 % 8)) (dg (k / 8 % 8)) (dg (k % 8)) x t := by
  unfold set; rw [blt_f h, blt_t h2]; rfl
theorem set_big (t : Tr α) {k : Nat} (x : α) (h : ¬ k < 262144) : t.set k x = setBig k x t := by
  unfold set; rw [blt_f (show ¬ k < 64 from by omega), blt_f h]; rfl
theorem get_nil (k : Nat) : (Tr.nil : Tr α).get k = none := by
  by_cases h : k < 64
  · rw [get_lo _ h]; unfold getLo nil; simp only [Oct.get_all]
  · by_cases h2 : k < 262144
    · rw [get_mid _ h h2]; unfold getMid nil; simp only [Oct.get_all]
    · rw [get_big _ h2]; rfl
theorem getBig_cons (k k' : Nat) (a : α) (l : List (Nat × α)) : getBig k ((k', a) :: l) = if k' = k then some a else getBig k l := by
  show brec (getBig k l) (some a) (Nat.beq k' k) = _
  by_cases h : k' = k
  · subst h; rw [if_pos rfl, show Nat.beq k' k' = true from Nat.beq_refl k']; rfl
  · rw [if_neg h]
    have : Nat.beq k' k = false := by
      cases hb : Nat.beq k' k with
      | false => rfl
      | true => exact absurd (Nat.eq_of_beq_eq_true hb) h
    rw [this]; rfl
theorem get_set (t : Tr α) (k : Nat) (x : α) (j : Nat) : (t.set k x).get j = if j = k then some x else t.get j := by
  by_cases hk : k < 64
  · rw [set_lo _ _ hk]
    have hs : setLo (dg (k / 8)) (dg (k % 8)) x t = ⟨Oct.putF (dg (k / 8)) (Oct.put (dg (k % 8)) (some x) (Oct.get (dg (k / 8)) t.lo)) t.lo, t.mid, t.big⟩ := by
      cases t; exact ofLo_eq _ _ _
    rw [hs]
    by_cases hj : j < 64
    · rw [get_lo _ hj, get_lo _ hj]
      unfold getLo
      by_cases e : j = k
      · subst e; rw [if_pos rfl]; simp only [Oct.get_putF, Oct.get_put]
      · rw [if_neg e]
        by_cases e1 : dg (j / 8) = dg (k / 8)
        · have h1 := dg_inj (by omega) (by omega) e1
          have e2 : dg (j % 8) ≠ dg (k % 8) := fun h => e (by have := dg_inj (by omega) (by omega) h; omega)
          rw [e1]; simp only [Oct.get_putF, Oct.get_put_ne e2]
        · simp only [Oct.get_putF_ne e1]
    · rw [if_neg (by omega)]
      by_cases hj2 : j < 262144
      · rw [get_mid _ hj hj2, get_mid _ hj hj2]; rfl
      · rw [get_big _ hj2, get_big _ hj2]
  · by_cases hk2 : k < 262144
    · rw [set_mid _ _ hk hk2]
      have hs : setMid (dg (k / 32768)) (dg (k / 4096 % 8)) (dg (k / 512 % 8)) (dg (k / 64 % 8)) (dg (k / 8 % 8)) (dg (k % 8)) x t =
          ⟨t.lo, upd (dg (k / 32768)) (upd (dg (k / 4096 % 8)) (upd (dg (k / 512 % 8)) (upd (dg (k / 64 % 8)) (upd (dg (k / 8 % 8)) (Oct.put (dg (k % 8)) (some x)))))) t.mid, t.big⟩ := by
        cases t; exact ofMid_eq _ _ _
      rw [hs]
      by_cases hj : j < 64
      · rw [if_neg (by omega), get_lo _ hj, get_lo _ hj]; rfl
      · by_cases hj2 : j < 262144
        · rw [get_mid _ hj hj2, get_mid _ hj hj2]
          unfold getMid
          by_cases e : j = k
          · subst e; rw [if_pos rfl]; simp only [get_upd, Oct.get_put]
          · rw [if_neg e]
            by_cases e1 : dg (j / 32768) = dg (k / 32768)
            · by_cases e2 : dg (j / 4096 % 8) = dg (k / 4096 % 8)
              · by_cases e3 : dg (j / 512 % 8) = dg (k / 512 % 8)
                · by_cases e4 : dg (j / 64 % 8) = dg (k / 64 % 8)
                  · by_cases e5 : dg (j / 8 % 8) = dg (k / 8 % 8)
                    · have h1 := dg_inj (by omega) (by omega) e1
                      have h2 := dg_inj (by omega) (by omega) e2
                      have h3 := dg_inj (by omega) (by omega) e3
                      have h4 := dg_inj (by omega) (by omega) e4
                      have h5 := dg_inj (by omega) (by omega) e5
                      have e6 : dg (j % 8) ≠ dg (k % 8) := fun h => e (by have := dg_inj (by omega) (by omega) h; omega)
                      simp only [e1, e2, e3, e4, e5, get_upd, Oct.get_put_ne e6]
                    · simp only [e1, e2, e3, e4, get_upd, get_upd_ne e5]
                  · simp only [e1, e2, e3, get_upd, get_upd_ne e4]
                · simp only [e1, e2, get_upd, get_upd_ne e3]
              · simp only [e1, get_upd, get_upd_ne e2]
            · simp only [get_upd_ne e1]
        · rw [if_neg (by omega), get_big _ hj2, get_big _ hj2]
    · rw [set_big _ _ hk2]
      have hs : setBig k x t = ⟨t.lo, t.mid, (k, x) :: t.big⟩ := by cases t; rfl
      rw [hs]
      by_cases hj : j < 64
      · rw [if_neg (by omega), get_lo _ hj, get_lo _ hj]; rfl
      · by_cases hj2 : j < 262144
        · rw [if_neg (by omega), get_mid _ hj hj2, get_mid _ hj hj2]; rfl
        · rw [get_big _ hj2, get_big _ hj2, getBig_cons]
          by_cases e : j = k
          · subst e; simp
          · rw [if_neg (Ne.symm e), if_neg e]
theorem get_set_self (t : Tr α) (k : Nat) (x : α) : (t.set k x).get k = some x := by rw [get_set, if_pos rfl]
theorem get_set_ne (t : Tr α) {k j : Nat} (x : α) (h : j ≠ k) : (t.set k x).get j = t.get j := by rw [get_set, if_neg h]
theorem ofList_aux (l : List α) : ∀ (k : Nat) (t : Tr α) (j : Nat),
    (lrec (β := Nat → Tr α → Tr α) (fun _ t => t) (fun x _ ih k t => ih (Nat.succ k) (t.set k x)) l k t).get j = if k ≤ j ∧ j < k + l.length then l[j - k]? else t.get j := by
  induction l with
  | nil => intro k t j; simp [lrec_nil]; omega
  | cons x l ih =>
    intro k t j
    rw [lrec_cons, ih, get_set]
    by_cases h : j = k
    · subst h; simp; omega
    · by_cases h2 : k + 1 ≤ j ∧ j < k + 1 + l.length
      · rw [if_pos h2, if_pos (by simp; omega)]
        obtain ⟨d, hd⟩ : ∃ d, j - k = d + 1 := ⟨j - k - 1, by omega⟩
        rw [hd, show j - Nat.succ k = d from by omega]; simp
      · rw [if_neg h2, if_neg h, if_neg (by simp; omega)]
theorem get_ofList (l : List α) (j : Nat) : (ofList l).get j = l[j]? := by
  unfold ofList
  rw [ofList_aux]
  by_cases h : j < l.length
  · rw [if_pos ⟨Nat.zero_le _, by omega⟩]; simp
  · rw [if_neg (by omega), get_nil, List.getElem?_eq_none (by omega)]
end Tr

/-! ### Lists -/
section lists
variable {α : Type}
theorem nth_eq (l : List α) : ∀ i, nth l i = l[i]? := by
  induction l with
  | nil => intro i; rfl
  | cons a l ih => intro i; cases i with | zero => rfl | succ j => show nth l j = _; rw [ih]; simp
theorem len_eq (l : List α) : len l = l.length := by
  induction l with
  | nil => rfl
  | cons a l ih => show Nat.succ (len l) = _; rw [ih]; simp
theorem dropN_eq (l : List α) : ∀ i, dropN l i = l.drop i := by
  induction l with
  | nil => intro i; cases i <;> rfl
  | cons a l ih => intro i; cases i with | zero => rfl | succ j => show dropN l j = _; rw [ih]; simp
theorem takeN_some (l : List α) : ∀ n l', takeN l n = some l' ↔ n ≤ l.length ∧ l' = l.take n := by
  induction l with
  | nil => intro n l'; cases n with | zero => simp [takeN, lrec_nil, eq_comm] | succ n => simp [takeN, lrec_nil]
  | cons a l ih =>
    intro n l'
    cases n with
    | zero => simp [takeN, lrec_cons, eq_comm]
    | succ n =>
      show (match takeN l n with | some l => some (a :: l) | none => none) = some l' ↔ _
      cases h : takeN l n with
      | none =>
        simp only [reduceCtorEq, false_iff]
        intro hc
        have := (ih n (l.take n)).2 ⟨by simpa using hc.1, rfl⟩
        rw [h] at this; cases this
      | some l2 =>
        have := (ih n l2).1 h
        simp only [Option.some.injEq]
        constructor
        · intro e; subst e; exact ⟨by simp; omega, by simp [this.2]⟩
        · intro hc; rw [hc.2, this.2]; simp
theorem sliceN_some (l : List α) (i n : Nat) (l' : List α) : sliceN l i n = some l' ↔ n ≤ l.length - i ∧ l' = (l.drop i).take n := by
  unfold sliceN; rw [dropN_eq, takeN_some]; simp
theorem sliceN_getElem {l l' : List α} {i n : Nat} (h : sliceN l i n = some l') : l'.length = n ∧ ∀ j, j < n → l'[j]? = l[i + j]? ∧ i + j < l.length := by
  obtain ⟨h1, h2⟩ := (sliceN_some l i n l').1 h
  subst h2
  refine ⟨by simp; omega, fun j hj => ⟨?_, by omega⟩⟩
  rw [List.getElem?_take_of_lt hj, List.getElem?_drop]
theorem over_some (xs : List α) : ∀ l l', over xs l = some l' ↔ xs.length ≤ l.length ∧ l' = xs ++ l.drop xs.length := by
  induction xs with
  | nil => intro l l'; simp [over, lrec_nil, eq_comm]
  | cons x xs ih =>
    intro l l'
    cases l with
    | nil => simp [over, lrec_cons]
    | cons a l =>
      show (match over xs l with | some l' => some (x :: l') | none => none) = some l' ↔ _
      cases h : over xs l with
      | none =>
        simp only [reduceCtorEq, false_iff]
        intro hc
        have := (ih l _).2 ⟨by simpa using hc.1, rfl⟩
        rw [h] at this; cases this
      | some l2 =>
        have := (ih l l2).1 h
        simp only [Option.some.injEq]
        constructor
        · intro e; subst e; exact ⟨by simp; omega, by simp [this.2]⟩
        · intro hc; rw [hc.2, this.2]; simp
theorem overAt_some (xs l : List α) : ∀ i l', overAt xs l i = some l' ↔ i + xs.length ≤ l.length ∧ l' = l.take i ++ xs ++ l.drop (i + xs.length) := by
  induction l with
  | nil =>
    intro i l'
    cases i with
    | zero => show over xs [] = some l' ↔ _; rw [over_some]; simp
    | succ i => simp [overAt, lrec_nil]
  | cons a l ih =>
    intro i l'
    cases i with
    | zero => show over xs (a :: l) = some l' ↔ _; rw [over_some]; simp
    | succ i =>
      show (match overAt xs l i with | some l' => some (a :: l') | none => none) = some l' ↔ _
      cases h : overAt xs l i with
      | none =>
        simp only [reduceCtorEq, false_iff]
        intro hc
        have := (ih i _).2 ⟨by simp at hc; omega, rfl⟩
        rw [h] at this; cases this
      | some l2 =>
        have := (ih i l2).1 h
        simp only [Option.some.injEq]
        constructor
        · intro e; subst e; refine ⟨by simp; omega, ?_⟩
          rw [this.2, show i + 1 + xs.length = (i + xs.length) + 1 from by omega]; simp
        · intro hc; rw [hc.2, this.2, show i + 1 + xs.length = (i + xs.length) + 1 from by omega]; simp
theorem mapO_some {β : Type} (f : α → Option β) (l : List α) : ∀ r, mapO f l = some r ↔ r.length = l.length ∧ ∀ (i : Nat) a, l[i]? = some a → ∃ b, f a = some b ∧ r[i]? = some b := by
  induction l with
  | nil => intro r; simp [mapO, lrec_nil, eq_comm]
  | cons a l ih =>
    intro r
    show obind (f a) (fun b => obind (mapO f l) fun bs => some (b :: bs)) = some r ↔ _
    unfold obind
    cases hf : f a with
    | none =>
      simp only [reduceCtorEq, false_iff]
      intro hc
      obtain ⟨b, hb, _⟩ := hc.2 0 a (by simp)
      rw [hf] at hb; cases hb
    | some b =>
      cases hm : mapO f l with
      | none =>
        simp only [reduceCtorEq, false_iff]
        intro hc
        cases r with
        | nil => simp at hc
        | cons b' r =>
          have := (ih r).2 ⟨by simpa using hc.1, fun i x hx => by
            obtain ⟨y, hy, hz⟩ := hc.2 (i + 1) x (by simpa using hx)
            exact ⟨y, hy, by simpa using hz⟩⟩
          rw [hm] at this; cases this
      | some bs =>
        have h := (ih bs).1 hm
        simp only [Option.some.injEq]
        constructor
        · intro e; subst e
          refine ⟨by simp [h.1], fun i x hx => ?_⟩
          cases i with
          | zero => simp at hx; subst hx; exact ⟨b, hf, by simp⟩
          | succ i => obtain ⟨y, hy, hz⟩ := h.2 i x (by simpa using hx); exact ⟨y, hy, by simpa using hz⟩
        · intro hc
          cases r with
          | nil => simp at hc
          | cons b' r =>
            obtain ⟨y, hy, hz⟩ := hc.2 0 a (by simp)
            rw [hf] at hy; cases hy
            simp at hz; subst hz
            congr 1
            refine List.ext_getElem? fun i => ?_
            by_cases hi : i < l.length
            · obtain ⟨y, hy, hz⟩ := hc.2 (i + 1) l[i] (by simp [hi])
              obtain ⟨y', hy', hz'⟩ := h.2 i l[i] (by simp [hi])
              rw [hy] at hy'; cases hy'
              rw [hz']; simpa using hz.symm
            · rw [List.getElem?_eq_none (by omega), List.getElem?_eq_none (by have := hc.1; simp at this; omega)]
theorem mapO_map {β γ : Type} (f : α → Option β) (g : β → γ) (k : α → γ) (hk : ∀ a b, f a = some b → k a = g b) {l : List α} {r : List β} (h : mapO f l = some r) : l.map k = r.map g := by
  obtain ⟨h1, h2⟩ := (mapO_some f l r).1 h
  refine List.ext_getElem? fun i => ?_
  by_cases hi : i < l.length
  · obtain ⟨b, hb, hr⟩ := h2 i l[i] (by simp [hi])
    simp [hr, hi, hk _ _ hb]
  · simp [List.getElem?_eq_none (Nat.le_of_not_lt hi), List.getElem?_eq_none (Nat.le_of_not_lt (by rw [h1]; exact hi) : r.length ≤ i)]
theorem rep_succ (x : List α) (n : Nat) : rep x (n + 1) = x ++ rep x n := rfl
theorem rep_length (x : List α) : ∀ n, (rep x n).length = n * x.length
  | 0 => by simp [rep, nrecF_zero]
  | n + 1 => by rw [rep_succ, List.length_append, rep_length x n, Nat.succ_mul]; omega
theorem rep_getElem (x : List α) : ∀ (n i : Nat), i < n * x.length → (rep x n)[i]? = x[i % x.length]?
  | 0, i, h => by simp at h
  | n + 1, i, h => by
    rw [rep_succ]
    by_cases hi : i < x.length
    · rw [List.getElem?_append_left hi, Nat.mod_eq_of_lt hi]
    · rw [List.getElem?_append_right (by omega), rep_getElem x n (i - x.length) (by rw [Nat.succ_mul] at h; omega)]
      rw [← Nat.mod_eq_sub_mod (by omega)]
end lists

theorem fwrap_eq (k : IntKind) (n : Int) : fwrap k n = k.wrap n := by
  cases k with
  | i64 =>
    cases n with
    | ofNat m =>
      show (match Nat.ble m 9223372036854775807 with | true => Int.ofNat m | false => IntKind.wrap .i64 (Int.ofNat m)) = _
      cases h : Nat.ble m 9223372036854775807 with
      | false => rfl
      | true =>
        have := Nat.le_of_ble_eq_true h
        exact (IntWalk.i64_in (Int.ofNat m) ⟨by simp only [Int.ofNat_eq_natCast]; omega, by simp only [Int.ofNat_eq_natCast]; omega⟩).symm
    | negSucc m =>
      show (match Nat.ble m 9223372036854775807 with | true => Int.negSucc m | false => IntKind.wrap .i64 (Int.negSucc m)) = _
      cases h : Nat.ble m 9223372036854775807 with
      | false => rfl
      | true =>
        have := Nat.le_of_ble_eq_true h
        exact (IntWalk.i64_in (Int.negSucc m) ⟨by rw [Int.negSucc_eq]; omega, by rw [Int.negSucc_eq]; omega⟩).symm
  | u8 =>
    cases n with
    | ofNat m =>
      show Int.ofNat (m % 256) = _
      simp only [IntKind.wrap, IntKind.bits, IntKind.signed, Int.ofNat_eq_natCast, Int.reducePow, Bool.false_and, Bool.false_eq_true, if_false]
      omega
    | negSucc m => rfl
  | u64 =>
    cases n with
    | ofNat m =>
      show Int.ofNat (m % 18446744073709551616) = _
      simp only [IntKind.wrap, IntKind.bits, IntKind.signed, Int.ofNat_eq_natCast, Int.reducePow, Bool.false_and, Bool.false_eq_true, if_false]
      omega
    | negSucc m => rfl
  | i8 => rfl
  | i16 => rfl
  | i32 => rfl
  | u16 => rfl
  | u32 => rfl
end Go.Ev
