import Derived.Test.YtnkomaedmblemaaExB
set_option linter.unusedSimpArgs false
set_option linter.unusedVariables false
set_option maxRecDepth 100000
namespace Go.Proofs.Ytnkomaedmblemaa
open Go.Ev Exl
open Ra Rb Rc Rd Re Rf Rg Rh Ri Rj Rk Rl Rm Rn Ro Rp Rq Rr

/-! ### Edges -/
abbrev Ed := Int × Bool
abbrev edG (l : List Ed) (k : Nat) : Ed := l.getD k (0, false)
theorem edG_get {l : List Ed} {k : Nat} (h : k < l.length) : l[k]? = some (edG l k) := by
  simp [edG, List.getD_eq_getElem?_getD, List.getElem?_eq_getElem h]

end Go.Proofs.Ytnkomaedmblemaa

set_option linter.unusedSimpArgs false
set_option linter.unusedVariables false
set_option maxRecDepth 100000
namespace Go.Proofs.Ytnkomaedmblemaa
open Go.Ev Exl
open Ra Rb Rc Rd Re Rf Rg Rh Ri Rj Rk Rl Rm Rn Ro Rp Rq Rr
end Go.Proofs.Ytnkomaedmblemaa

set_option linter.unusedSimpArgs false
set_option linter.unusedVariables false
set_option maxRecDepth 100000
namespace Go.Proofs.Ytnkomaedmblemaa
open Go.Ev Exl
open Ra Rb Rc Rd Re Rf Rg Rh Ri Rj Rk Rl Rm Rn Ro Rp Rq Rr

abbrev key (xs : List Ed) (s : Nat) : Int := (edG xs s).1
/-- Sorted from a on, ahead of b. -/
def srt (xs : List Ed) (a b : Nat) : Prop := ∀ s t, a ≤ s → s < t → t < b → key xs s ≤ key xs t
/-- The same elements; outside of [a, b) at their places. -/
structure Kp (xs ys : List Ed) (a b : Nat) : Prop where
  len : ys.length = xs.length
  perm : ys.Perm xs
  out : ∀ j, j < a ∨ b ≤ j → ys[j]? = xs[j]?
theorem Kp.refl (xs : List Ed) (a b : Nat) : Kp xs xs a b := ⟨rfl, List.Perm.refl _, fun _ _ => rfl⟩
theorem Kp.trans {xs ys zs : List Ed} {a b a1 b1 a2 b2 : Nat} (h : Kp xs ys a1 b1) (h' : Kp ys zs a2 b2) (h1 : a ≤ a1) (h2 : b1 ≤ b) (h3 : a ≤ a2) (h4 : b2 ≤ b) : Kp xs zs a b :=
  ⟨h'.len.trans h.len, h'.perm.trans h.perm, fun j hj => (h'.out j (by omega)).trans (h.out j (by omega))⟩
theorem Kp.key {xs ys : List Ed} {a b : Nat} (h : Kp xs ys a b) {j : Nat} (hj : j < a ∨ b ≤ j) : key ys j = key xs j := by
  unfold Go.Proofs.Ytnkomaedmblemaa.key edG
  rw [List.getD_eq_getElem?_getD, List.getD_eq_getElem?_getD, h.out j hj]
/-- Two elements put for each other. -/
def sw (xs : List Ed) (a b : Nat) : List Ed := (xs.set a (edG xs b)).set b (edG xs a)
theorem edG_el {xs : List Ed} {a : Nat} (h : a < xs.length) : edG xs a = xs[a] := by
  simp [edG, List.getD_eq_getElem?_getD, List.getElem?_eq_getElem h]
theorem sw_kp {xs : List Ed} {a b lo hi : Nat} (ha : a < xs.length) (hb : b < xs.length) (h1 : lo ≤ a) (h2 : a < hi) (h3 : lo ≤ b) (h4 : b < hi) : Kp xs (sw xs a b) lo hi := by
  refine ⟨by simp [sw], ?_, fun j hj => ?_⟩
  · unfold sw
    rw [edG_el ha, edG_el hb]
    exact List.set_set_perm ha hb
  · unfold sw
    rw [List.getElem?_set, if_neg (by omega), List.getElem?_set, if_neg (by omega)]
theorem sw_key {xs : List Ed} {a b : Nat} (ha : a < xs.length) (hb : b < xs.length) (j : Nat) : key (sw xs a b) j = if j = b then key xs a else if j = a then key xs b else key xs j := by
  unfold key sw edG
  rw [List.getD_eq_getElem?_getD, List.getElem?_set]
  by_cases hj : j = b
  · subst hj; rw [if_pos rfl, if_pos rfl, if_pos (by rw [List.length_set]; exact hb)]; rfl
  · rw [if_neg (fun h => hj h.symm), if_neg hj, List.getElem?_set]
    by_cases hj2 : j = a
    · subst hj2; rw [if_pos rfl, if_pos rfl, if_pos ha]; rfl
    · rw [if_neg (fun h => hj2 h.symm), if_neg hj2, List.getD_eq_getElem?_getD]
def Bd (xs : List Ed) : Prop := ∀ p ∈ xs, -100000 ≤ p.1 ∧ p.1 ≤ 100000
theorem Bd.at {xs : List Ed} (h : Bd xs) {k : Nat} (hk : k < xs.length) : -100000 ≤ (edG xs k).1 ∧ (edG xs k).1 ≤ 100000 := by
  rw [edG_el hk]; exact h _ (List.getElem_mem hk)
theorem Bd.kp {xs ys : List Ed} (h : Bd xs) {a b : Nat} (hk : Kp xs ys a b) : Bd ys := fun p hp => h p (hk.perm.mem_iff.1 hp)

end Go.Proofs.Ytnkomaedmblemaa

set_option linter.unusedSimpArgs false
set_option linter.unusedVariables false
set_option maxRecDepth 100000
namespace Go.Proofs.Ytnkomaedmblemaa
open Go.Ev Exl
open Ra Rb Rc Rd Re Rf Rg Rh Ri Rj Rk Rl Rm Rn Ro Rp Rq Rr

/-! ### Half of a sum -/
theorem fwu {n : Int} (h0 : 0 ≤ n) (h1 : n ≤ 9223372036854775807) : fw .u64 n = n := by
  rw [fw_eq]
  unfold IntKind.wrap
  simp [IntKind.bits, IntKind.signed]
  omega
/-! ### Plain law of the merge -/
theorem Kp.mid {xs ys : List Ed} {a b : Nat} (h : Kp xs ys a b) (hab : a ≤ b) (hb : b ≤ xs.length) : ((ys.drop a).take (b - a)).Perm ((xs.drop a).take (b - a)) := by
  have hl := h.len
  have e : ∀ zs : List Ed, zs = zs.take a ++ (zs.drop a).take (b - a) ++ zs.drop b := fun zs => by
    have h1 : (zs.drop a).take (b - a) ++ (zs.drop a).drop (b - a) = zs.drop a := List.take_append_drop _ _
    rw [List.drop_drop, show a + (b - a) = b from by omega] at h1
    rw [List.append_assoc, h1, List.take_append_drop]
  have e1 : ys.take a = xs.take a := List.ext_getElem? fun j => by
    by_cases hj : j < a
    · rw [List.getElem?_take_of_lt hj, List.getElem?_take_of_lt hj, h.out j (.inl hj)]
    · rw [List.getElem?_eq_none (by simp; omega), List.getElem?_eq_none (by simp; omega)]
  have e2 : ys.drop b = xs.drop b := List.ext_getElem? fun j => by
    rw [List.getElem?_drop, List.getElem?_drop, h.out _ (.inr (by omega))]
  have hp := h.perm
  rw [e ys, e xs, e1, e2] at hp
  exact (List.perm_append_left_iff _).1 ((List.perm_append_right_iff _).1 hp)
theorem srt_kp {xs ys : List Ed} {a b lo hi : Nat} (h : srt xs lo hi) (hk : Kp xs ys a b) (hd : hi ≤ a ∨ b ≤ lo) : srt ys lo hi := fun s t h1 h2 h3 => by
  rw [hk.key (by omega), hk.key (by omega)]; exact h s t h1 h2 h3
end Go.Proofs.Ytnkomaedmblemaa

set_option linter.unusedSimpArgs false
set_option linter.unusedVariables false
set_option maxRecDepth 100000
namespace Go.Proofs.Ytnkomaedmblemaa
open Go.Ev Exl
open Ra Rb Rc Rd Re Rf Rg Rh Ri Rj Rk Rl Rm Rn Ro Rp Rq Rr

/-- What stays in a call of symMerge. -/
structure Sy (T : Tr AV) (i n c a m b : Nat) (op : Bool) : Prop where
  t0 : gT T 0 = .sl i 0 n c op
  t1 : gT T 1 = .int .i64 a
  t2 : gT T 2 = .int .i64 m
  t3 : gT T 3 = .int .i64 b
  t4 : gT T 4 = .fn (.func 58) [] []

end Go.Proofs.Ytnkomaedmblemaa

set_option linter.unusedSimpArgs false
set_option linter.unusedVariables false
set_option maxRecDepth 100000
namespace Go.Proofs.Ytnkomaedmblemaa
open Go.Ev Exl
open Ra Rb Rc Rd Re Rf Rg Rh Ri Rj Rk Rl Rm Rn Ro Rp Rq Rr
end Go.Proofs.Ytnkomaedmblemaa

set_option linter.unusedSimpArgs false
set_option linter.unusedVariables false
set_option maxRecDepth 100000
namespace Go.Proofs.Ytnkomaedmblemaa
open Go.Ev Exl
open Ra Rb Rc Rd Re Rf Rg Rh Ri Rj Rk Rl Rm Rn Ro Rp Rq Rr
end Go.Proofs.Ytnkomaedmblemaa

set_option linter.unusedSimpArgs false
set_option linter.unusedVariables false
set_option maxRecDepth 100000
namespace Go.Proofs.Ytnkomaedmblemaa
open Go.Ev Exl
open Ra Rb Rc Rd Re Rf Rg Rh Ri Rj Rk Rl Rm Rn Ro Rp Rq Rr
structure St2 (T : Tr AV) (i n c : Nat) (op : Bool) : Prop where
  t0 : gT T 0 = .sl i 0 n c op
  t1 : gT T 1 = .int .i64 n
  t2 : gT T 2 = .fn (.func 58) [] []

end Go.Proofs.Ytnkomaedmblemaa

set_option linter.unusedSimpArgs false
set_option linter.unusedVariables false
set_option maxRecDepth 100000
namespace Go.Proofs.Ytnkomaedmblemaa
open Go.Ev Exl
open Ra Rb Rc Rd Re Rf Rg Rh Ri Rj Rk Rl Rm Rn Ro Rp Rq Rr
end Go.Proofs.Ytnkomaedmblemaa

set_option linter.unusedSimpArgs false
set_option linter.unusedVariables false
set_option maxRecDepth 100000
namespace Go.Proofs.Ytnkomaedmblemaa
open Go.Ev Exl
open Ra Rb Rc Rd Re Rf Rg Rh Ri Rj Rk Rl Rm Rn Ro Rp Rq Rr

/-! ### The edges of two lists -/
def edL (b : Bool) : List P → List Ed
  | [] => []
  | p :: l => (p.1, b) :: (p.1 + p.2, b) :: edL b l
theorem Ok.len {l : List P} : ∀ {fr : Int}, Ok fr l → fr ≤ 4097 → (l.length : Int) ≤ 4097 - fr := by
  induction l with
  | nil => intro fr _ h; simp; omega
  | cons p l ih =>
    intro fr h hfr
    obtain ⟨h1, h2, h3, h4, h5⟩ := h
    have := ih h5 (by omega)
    rw [List.length_cons, Int.natCast_add]; omega

end Go.Proofs.Ytnkomaedmblemaa

set_option linter.unusedSimpArgs false
set_option linter.unusedVariables false
set_option maxRecDepth 100000
namespace Go.Proofs.Ytnkomaedmblemaa
open Go.Ev Exl
open Ra Rb Rc Rd Re Rf Rg Rh Ri Rj Rk Rl Rm Rn Ro Rp Rq Rr

/-! ### Plain law of the sweep -/
/-- How often a side's edges are at most x: odd? -/
def pr (b : Bool) (x : Int) : List Ed → Bool
  | [] => false
  | e :: l => xor (e.2 == b && decide (e.1 ≤ x)) (pr b x l)
def pre (b : Bool) : List Ed → Bool
  | [] => false
  | e :: l => xor (e.2 == b) (pre b l)
theorem pr_app (b : Bool) (x : Int) (l m : List Ed) : pr b x (l ++ m) = xor (pr b x l) (pr b x m) := by
  induction l with
  | nil => simp [pr]
  | cons e l ih => simp only [List.cons_append, pr, ih, Bool.xor_assoc]
theorem pre_app (b : Bool) (l m : List Ed) : pre b (l ++ m) = xor (pre b l) (pre b m) := by
  induction l with
  | nil => simp [pre]
  | cons e l ih => simp only [List.cons_append, pre, ih, Bool.xor_assoc]
theorem pr_perm {b : Bool} {x : Int} {l m : List Ed} (h : l.Perm m) : pr b x l = pr b x m := by
  induction h with
  | nil => rfl
  | cons e _ ih => simp only [pr, ih]
  | swap e f l => simp only [pr]; rw [Bool.xor_left_comm]
  | trans _ _ ih1 ih2 => exact ih1.trans ih2
theorem pr_le {b : Bool} {x : Int} {l : List Ed} (h : ∀ e ∈ l, e.1 ≤ x) : pr b x l = pre b l := by
  induction l with
  | nil => rfl
  | cons e l ih =>
    simp only [pr, pre, ih (fun f hf => h f (List.mem_cons_of_mem _ hf)), decide_eq_true (h e (List.mem_cons_self ..)), Bool.and_true]
theorem pr_gt {b : Bool} {x : Int} {l : List Ed} (h : ∀ e ∈ l, x < e.1) : pr b x l = false := by
  induction l with
  | nil => rfl
  | cons e l ih =>
    have := h e (List.mem_cons_self ..)
    simp only [pr, ih (fun f hf => h f (List.mem_cons_of_mem _ hf)), decide_eq_false (show ¬ e.1 ≤ x by omega), Bool.and_false, Bool.xor_false]
def hasB (l : List P) (x : Int) : Bool := l.any fun p => decide (p.1 ≤ x) && decide (x < p.1 + p.2)
theorem hasB_iff (l : List P) (x : Int) : hasB l x = true ↔ Has l x := by
  unfold hasB Has
  rw [List.any_eq_true]
  simp only [Bool.and_eq_true, decide_eq_true_eq]
theorem hasB_cons (p : P) (l : List P) (x : Int) : hasB (p :: l) x = (decide (p.1 ≤ x) && decide (x < p.1 + p.2) || hasB l x) := rfl
theorem pr_own (b : Bool) (x : Int) {l : List P} : ∀ {fr : Int}, Ok fr l → pr b x (edL b l) = hasB l x := by
  induction l with
  | nil => intro fr _; rfl
  | cons p l ih =>
    intro fr h
    obtain ⟨h1, h2, h3, h4, h5⟩ := h
    have ih := ih h5
    have hh := fun g => Ok.has h5 x ((hasB_iff l x).1 g)
    rw [hasB_cons]
    show xor (b == b && decide (p.1 ≤ x)) (xor (b == b && decide (p.1 + p.2 ≤ x)) (pr b x (edL b l))) = _
    rw [ih, beq_self_eq_true, Bool.true_and, Bool.true_and]
    cases hb : hasB l x with
    | true =>
      have := hh hb
      rw [decide_eq_true (show p.1 ≤ x by omega), decide_eq_true (show p.1 + p.2 ≤ x by omega)]
      simp
    | false =>
      by_cases g1 : p.1 ≤ x
      · by_cases g2 : p.1 + p.2 ≤ x
        · rw [decide_eq_true g1, decide_eq_true g2, decide_eq_false (show ¬ x < p.1 + p.2 by omega)]; rfl
        · rw [decide_eq_true g1, decide_eq_false g2, decide_eq_true (show x < p.1 + p.2 by omega)]; rfl
      · rw [decide_eq_false g1, decide_eq_false (show ¬ p.1 + p.2 ≤ x by omega)]; rfl
theorem pr_other {b c : Bool} (hbc : (c == b) = false) (x : Int) (l : List P) : pr b x (edL c l) = false := by
  induction l with
  | nil => rfl
  | cons p l ih =>
    show xor (c == b && _) (xor (c == b && _) (pr b x (edL c l))) = _
    rw [ih, hbc]; rfl
theorem pr_l {l m : List P} {ys : List Ed} (hl : Ok 0 l) (h : ys.Perm (edL false l ++ edL true m)) (x : Int) : pr false x ys = hasB l x := by
  rw [pr_perm h, pr_app, pr_own false x hl, pr_other rfl x m, Bool.xor_false]
theorem pr_m {l m : List P} {ys : List Ed} (hm : Ok 0 m) (h : ys.Perm (edL false l ++ edL true m)) (x : Int) : pr true x ys = hasB m x := by
  rw [pr_perm h, pr_app, pr_own true x hm, pr_other rfl x l, Bool.false_xor]

/-- Where the next run may begin. -/
def endq : Int → List P → Int
  | fr, [] => fr
  | _, p :: l => endq (p.1 + p.2 + 1) l
theorem Ok_snoc {l : List P} {p : P} : ∀ {fr : Int}, Ok fr (l ++ [p]) ↔ Ok fr l ∧ endq fr l ≤ p.1 ∧ p.1 < 4096 ∧ 1 ≤ p.2 ∧ p.2 ≤ 4096 - p.1 := by
  induction l with
  | nil =>
    intro fr
    show (fr ≤ p.1 ∧ p.1 < 4096 ∧ 1 ≤ p.2 ∧ p.2 ≤ 4096 - p.1 ∧ True) ↔ True ∧ fr ≤ p.1 ∧ p.1 < 4096 ∧ 1 ≤ p.2 ∧ p.2 ≤ 4096 - p.1
    simp only [and_true, true_and]
  | cons q l ih =>
    intro fr
    show (fr ≤ q.1 ∧ q.1 < 4096 ∧ 1 ≤ q.2 ∧ q.2 ≤ 4096 - q.1 ∧ Ok (q.1 + q.2 + 1) (l ++ [p])) ↔ (fr ≤ q.1 ∧ q.1 < 4096 ∧ 1 ≤ q.2 ∧ q.2 ≤ 4096 - q.1 ∧ Ok (q.1 + q.2 + 1) l) ∧ endq (q.1 + q.2 + 1) l ≤ p.1 ∧ _
    rw [ih]
    simp only [and_assoc]
theorem endq_snoc {l : List P} {p : P} : ∀ {fr : Int}, endq fr (l ++ [p]) = p.1 + p.2 + 1 := by
  induction l with
  | nil => intro fr; rfl
  | cons q l ih => intro fr; exact ih
theorem Has_app (l : List P) (p : P) (x : Int) : Has (l ++ [p]) x ↔ Has l x ∨ (p.1 ≤ x ∧ x < p.1 + p.2) := by
  unfold Has
  constructor
  · rintro ⟨q, hq, h⟩
    rcases List.mem_append.1 hq with hq | hq
    · exact .inl ⟨q, hq, h⟩
    · rw [List.mem_singleton] at hq; subst hq; exact .inr h
  · rintro (⟨q, hq, h⟩ | h)
    · exact ⟨q, List.mem_append_left _ hq, h⟩
    · exact ⟨p, List.mem_append_right _ (List.mem_singleton.2 rfl), h⟩
theorem put_law {out : List P} {a s : Int} (h : Ok 0 out) (he : endq 0 out ≤ a + 1) (ha : 0 ≤ a) (hs : 1 ≤ s) (hu : a + s ≤ 4096) :
    Ok 0 (put out a s) ∧ endq 0 (put out a s) = a + s + 1 ∧ ∀ x, Has (put out a s) x ↔ Has out x ∨ (a ≤ x ∧ x < a + s) := by
  by_cases hn : out = []
  · subst hn
    rw [put_new (.inl rfl)]
    exact ⟨Ok_snoc.2 ⟨trivial, ha, by omega, hs, by omega⟩, endq_snoc, fun x => Has_app _ _ x⟩
  · obtain ⟨d, p, rfl⟩ : ∃ d p, out = d ++ [p] := ⟨out.dropLast, out.getLast hn, (List.dropLast_concat_getLast hn).symm⟩
    have e1 : exG (d ++ [p]) ((d ++ [p]).length - 1) = p := by simp [exG]
    rw [endq_snoc] at he
    by_cases hj : p.1 + p.2 = a
    · have e2 : put (d ++ [p]) a s = d ++ [(p.1, p.2 + s)] := by
        unfold put
        rw [e1, if_pos ⟨hn, hj⟩]
        simp
      rw [e2]
      obtain ⟨g1, g2, g3, g4, g5⟩ := Ok_snoc.1 h
      refine ⟨Ok_snoc.2 ⟨g1, g2, g3, by simp only; omega, by simp only; omega⟩, by rw [endq_snoc]; simp only; omega, fun x => ?_⟩
      rw [Has_app, Has_app]
      simp only
      constructor
      · rintro (h | h)
        · exact .inl (.inl h)
        · by_cases hx : x < p.1 + p.2
          · exact .inl (.inr ⟨h.1, hx⟩)
          · exact .inr (by omega)
      · rintro ((h | h) | h)
        · exact .inl h
        · exact .inr (by omega)
        · exact .inr (by omega)
    · have hle : lastE (d ++ [p]) < a := by unfold lastE; rw [e1]; omega
      rw [put_new (.inr hle)]
      exact ⟨Ok_snoc.2 ⟨h, by rw [endq_snoc]; simp only; omega, by simp only; omega, hs, by simp only; omega⟩, endq_snoc, fun x => Has_app _ _ x⟩
theorem edG_mem {l : List Ed} {k : Nat} (h : k < l.length) : edG l k ∈ l := by
  rw [edG_el h]; exact List.getElem_mem h
theorem ed_take (l : List Ed) {i : Nat} (h : i < l.length) : l.take (i + 1) = l.take i ++ [edG l i] := by
  rw [List.take_add_one, List.getElem?_eq_getElem h, edG_el h]; rfl
theorem ed_in_take {l : List Ed} {i : Nat} {e : Ed} (h : e ∈ l.take i) : ∃ j, j < i ∧ j < l.length ∧ edG l j = e := by
  obtain ⟨j, hj⟩ := List.mem_iff_getElem?.1 h
  have hjl := (List.getElem?_eq_some_iff.1 hj).1
  rw [List.length_take] at hjl
  rw [List.getElem?_take_of_lt (by omega), edG_get (by omega)] at hj
  exact ⟨j, by omega, by omega, Option.some.inj hj⟩
theorem ed_in_drop {l : List Ed} {i : Nat} {e : Ed} (h : e ∈ l.drop i) : ∃ j, i ≤ j ∧ j < l.length ∧ edG l j = e := by
  obtain ⟨j, hj⟩ := List.mem_iff_getElem?.1 h
  have hjl := (List.getElem?_eq_some_iff.1 hj).1
  rw [List.length_drop] at hjl
  rw [List.getElem?_drop, edG_get (by omega)] at hj
  exact ⟨i + j, by omega, by omega, Option.some.inj hj⟩

/-- What is so ahead of the i-th edge. -/
structure Swp (f : Bool → Bool → Bool) (ys : List Ed) (i : Nat) (at' : Int) (a b : Bool) (out : List P) : Prop where
  ok : Ok 0 out
  en : endq 0 out ≤ at' + 1
  lo : 0 ≤ at'
  hi : at' ≤ 4096
  le : ∀ j, j < i → key ys j ≤ at'
  ge : ∀ j, i ≤ j → j < ys.length → at' ≤ key ys j
  pa : a = pre false (ys.take i)
  pb : b = pre true (ys.take i)
  has : ∀ x, Has out x ↔ 0 ≤ x ∧ x < at' ∧ f (pr false x ys) (pr true x ys) = true
theorem pr_at {b : Bool} {x : Int} {ys : List Ed} {i : Nat} (h1 : ∀ j, j < i → key ys j ≤ x) (h2 : ∀ j, i ≤ j → j < ys.length → x < key ys j) : pr b x ys = pre b (ys.take i) := by
  have e : ys = ys.take i ++ ys.drop i := (List.take_append_drop i ys).symm
  rw [show pr b x ys = pr b x (ys.take i ++ ys.drop i) from by rw [← e], pr_app, pr_le (l := ys.take i), pr_gt (l := ys.drop i), Bool.xor_false]
  · intro e he
    obtain ⟨j, g1, g2, rfl⟩ := ed_in_drop he
    exact h2 j g1 g2
  · intro e he
    obtain ⟨j, g1, g2, rfl⟩ := ed_in_take he
    exact h1 j g1
theorem Swp.step {f : Bool → Bool → Bool} {ys : List Ed} {i : Nat} {at' : Int} {a b : Bool} {out : List P} (h : Swp f ys i at' a b out) (hi : i < ys.length) (hs : srt ys 0 ys.length) (hb : ∀ e ∈ ys, 0 ≤ e.1 ∧ e.1 ≤ 4096) :
    Swp f ys (i + 1) (edG ys i).1 (xor ((edG ys i).2 == false) a) (xor ((edG ys i).2 == true) b) (if at' < (edG ys i).1 ∧ f a b = true then put out at' ((edG ys i).1 - at') else out) := by
  have hge : at' ≤ (edG ys i).1 := h.ge i (Nat.le_refl _) hi
  have hbb := hb _ (edG_mem hi)
  have hgj : ∀ j, i ≤ j → j < ys.length → (edG ys i).1 ≤ key ys j := fun j hj hjl => by
    by_cases hji : j = i
    · subst hji; exact Int.le_refl _
    · exact hs i j (Nat.zero_le _) (by omega) hjl
  have hF : ∀ x, at' ≤ x → x < (edG ys i).1 → f (pr false x ys) (pr true x ys) = f a b := fun x hx1 hx2 => by
    rw [h.pa, h.pb, pr_at (i := i) (fun j hj => by have := h.le j hj; omega) (fun j hj hjl => by have := hgj j hj hjl; omega), pr_at (i := i) (fun j hj => by have := h.le j hj; omega) (fun j hj hjl => by have := hgj j hj hjl; omega)]
  have hle' : ∀ j, j < i + 1 → key ys j ≤ (edG ys i).1 := fun j hj => by
    by_cases hji : j = i
    · subst hji; exact Int.le_refl _
    · have := h.le j (by omega); omega
  have hpa : xor ((edG ys i).2 == false) a = pre false (ys.take (i + 1)) := by
    rw [ed_take ys hi, pre_app, ← h.pa]; show _ = xor a (xor _ false); rw [Bool.xor_false, Bool.xor_comm]
  have hpb : xor ((edG ys i).2 == true) b = pre true (ys.take (i + 1)) := by
    rw [ed_take ys hi, pre_app, ← h.pb]; show _ = xor b (xor _ false); rw [Bool.xor_false, Bool.xor_comm]
  by_cases hc : at' < (edG ys i).1 ∧ f a b = true
  · rw [if_pos hc]
    obtain ⟨p1, p2, p3⟩ := put_law (a := at') (s := (edG ys i).1 - at') h.ok h.en h.lo (by omega) (by omega)
    refine ⟨p1, by rw [p2]; omega, by omega, by omega, hle', fun j hj hjl => hgj j (by omega) hjl, hpa, hpb, fun x => ?_⟩
    rw [p3, h.has]
    constructor
    · rintro (⟨g1, g2, g3⟩ | ⟨g1, g2⟩)
      · exact ⟨g1, by omega, g3⟩
      · have := h.lo
        exact ⟨by omega, by omega, by rw [hF x g1 (by omega)]; exact hc.2⟩
    · rintro ⟨g1, g2, g3⟩
      by_cases hx : x < at'
      · exact .inl ⟨g1, hx, g3⟩
      · exact .inr ⟨by omega, by omega⟩
  · rw [if_neg hc]
    have := h.en
    have := h.lo
    refine ⟨h.ok, by omega, by omega, by omega, hle', fun j hj hjl => hgj j (by omega) hjl, hpa, hpb, fun x => ?_⟩
    rw [h.has]
    constructor
    · rintro ⟨g1, g2, g3⟩
      exact ⟨g1, by omega, g3⟩
    · rintro ⟨g1, g2, g3⟩
      by_cases hx : x < at'
      · exact ⟨g1, hx, g3⟩
      · rw [hF x (by omega) g2] at g3
        exact absurd ⟨by omega, g3⟩ hc
theorem Swp.fin {f : Bool → Bool → Bool} {l m : List P} {ys : List Ed} {at' : Int} {a b : Bool} {out : List P} (h : Swp f ys ys.length at' a b out) (hf : f false false = false) (hl : Ok 0 l) (hm : Ok 0 m) (hp : ys.Perm (edL false l ++ edL true m)) :
    Ok 0 out ∧ ∀ x, Has out x ↔ 0 ≤ x ∧ f (hasB l x) (hasB m x) = true := by
  have no : ∀ {q : List P}, Ok 0 q → ∀ x, 4096 ≤ x → hasB q x = false := fun {q} hq x hx => by
    cases hb : hasB q x with
    | false => rfl
    | true => have := Ok.has hq x ((hasB_iff q x).1 hb); omega
  refine ⟨h.ok, fun x => ?_⟩
  rw [h.has, pr_l hl hp, pr_m hm hp]
  constructor
  · rintro ⟨g1, _, g3⟩; exact ⟨g1, g3⟩
  · rintro ⟨g1, g3⟩
    refine ⟨g1, ?_, g3⟩
    by_cases hx : x < at'
    · exact hx
    · have hall : ∀ y, at' ≤ y → ∀ c, pr c y ys = pre c ys := fun y hy c => by
        have := pr_at (b := c) (x := y) (ys := ys) (i := ys.length) (fun j hj => by have := h.le j hj; omega) (fun j hj hjl => by omega)
        rw [List.take_length] at this; exact this
      have e1 := hall x (by omega) false
      have e2 := hall x (by omega) true
      have e3 := hall (max at' 4096) (by omega) false
      have e4 := hall (max at' 4096) (by omega) true
      rw [pr_l hl hp] at e1 e3
      rw [pr_m hm hp] at e2 e4
      rw [no hl _ (by omega)] at e3
      rw [no hm _ (by omega)] at e4
      rw [e1, e2, ← e3, ← e4, hf] at g3
      cases g3

end Go.Proofs.Ytnkomaedmblemaa
