
namespace Plc
def okRoom (free : List Int) (there : List Bool) (copies : Int) : Prop := 2 ≤ free.length ∧ free.length ≤ 8 ∧ there.length = free.length ∧ 1 ≤ copies ∧ copies ≤ 3 ∧ ∀ x ∈ free, 0 ≤ x ∧ x ≤ 4096
instance (free : List Int) (there : List Bool) (copies : Int) : Decidable (okRoom free there copies) := by unfold okRoom; exact inferInstance
def chk (free : List Int) (there : List Bool) (copies : Int) : Int := if okRoom free there copies then 0 else 2
theorem chk_ok {free : List Int} {there : List Bool} {copies : Int} (h : okRoom free there copies) : chk free there copies = 0 := if_pos h
theorem chk_no {free : List Int} {there : List Bool} {copies : Int} (h : ¬ okRoom free there copies) : chk free there copies = 2 := if_neg h
theorem mem_getD {free : List Int} {x : Int} (h : x ∈ free) : ∃ i, i < free.length ∧ free.getD i 0 = x := by
  obtain ⟨j, hj, he⟩ := List.getElem_of_mem h
  exact ⟨j, hj, by rw [List.getD_eq_getElem?_getD, List.getElem?_eq_getElem hj]; exact he⟩
theorem getD_mem {free : List Int} {i : Nat} (h : i < free.length) : free.getD i 0 ∈ free := by
  rw [List.getD_eq_getElem?_getD, List.getElem?_eq_getElem h]; exact List.getElem_mem h
end Plc
namespace Plc
/-- Of those looked at the best one, -1: none. -/
def bestTo (free : List Int) (there : List Bool) (cs : List Int) : Nat → Int
  | 0 => -1
  | k + 1 => if there.getD k false = true ∧ 0 < free.getD k 0 ∧ ¬ ((k : Int) ∈ cs) ∧ (bestTo free there cs k < 0 ∨ free.getD (bestTo free there cs k).toNat 0 < free.getD k 0) then (k : Int) else bestTo free there cs k
theorem bestTo_lo (free : List Int) (there : List Bool) (cs : List Int) (k : Nat) : -1 ≤ bestTo free there cs k ∧ bestTo free there cs k < k := by
  induction k with
  | zero => exact ⟨Int.le_refl _, by show (-1 : Int) < 0; decide⟩
  | succ k ih =>
    unfold bestTo
    split
    · omega
    · omega
end Plc
namespace Plc
def upTo (there : List Bool) : Nat → Nat
  | 0 => 0
  | k + 1 => if there.getD k false = true then upTo there k + 1 else upTo there k
theorem upTo_le (there : List Bool) (k : Nat) : upTo there k ≤ k := by
  induction k with
  | zero => exact Nat.le_refl _
  | succ k ih => unfold upTo; split <;> omega
def wantN (there : List Bool) (copies : Int) : Int := if ((upTo there there.length : Nat) : Int) < copies then (upTo there there.length : Nat) else copies
def refL (free : List Int) (there : List Bool) : Nat → Option (List Int)
  | 0 => some []
  | j + 1 => match refL free there j with
    | none => none
    | some out => if bestTo free there out free.length < 0 then none else some (out ++ [bestTo free there out free.length])
theorem refL_len {free : List Int} {there : List Bool} : ∀ {j : Nat} {out : List Int}, refL free there j = some out → out.length = j := by
  intro j
  induction j with
  | zero => intro out h; cases h; rfl
  | succ j ih =>
    intro out h
    unfold refL at h
    split at h
    · cases h
    · next o ho =>
      split at h
      · cases h
      · cases h; simp [ih ho]
theorem refL_none {free : List Int} {there : List Bool} {j : Nat} (h : refL free there j = none) : ∀ i, refL free there (j + i) = none := by
  intro i
  induction i with
  | zero => exact h
  | succ i ih => show refL free there (j + i + 1) = none; unfold refL; rw [ih]
def refChoose (free : List Int) (there : List Bool) (copies : Int) : Option (List Int) := if wantN there copies = 0 then none else refL free there (wantN there copies).toNat
end Plc

namespace Plc
abbrev fv (fr : List Int) (a : Int) : Int := fr.getD a.toNat 0
/-- The order of devices. -/
def R (fr : List Int) (a b : Int) : Prop := fv fr b < fv fr a ∨ (fv fr a = fv fr b ∧ a < b)
def dat (P : List Int) (x : Int) (rest : List Int) (m : Nat) : List Int := P.take m ++ x :: (P.drop m ++ rest)
theorem dat_len (P : List Int) (x : Int) (rest : List Int) (m : Nat) : (dat P x rest m).length = P.length + 1 + rest.length := by
  unfold dat
  simp
  omega
theorem dat_at {P : List Int} {x : Int} {rest : List Int} {m : Nat} (hm : m ≤ P.length) : (dat P x rest m)[m]? = some x := by
  unfold dat
  rw [List.getElem?_append_right (by simp; omega)]
  simp [Nat.min_eq_left hm]
theorem dat_pre {P : List Int} {x : Int} {rest : List Int} {m : Nat} (h1 : 1 ≤ m) (hm : m ≤ P.length) : (dat P x rest m)[m - 1]? = some (P.getD (m - 1) 0) := by
  unfold dat
  rw [List.getElem?_append_left (by simp; omega), List.getElem?_take_of_lt (by omega), List.getElem?_eq_getElem (by omega)]
  simp [List.getD_eq_getElem?_getD, List.getElem?_eq_getElem (show m - 1 < P.length by omega)]
theorem dat_swap {P : List Int} {x : Int} {rest : List Int} {m : Nat} (h1 : 1 ≤ m) (hm : m ≤ P.length) : ((dat P x rest m).set m (P.getD (m - 1) 0)).set (m - 1) x = dat P x rest (m - 1) := by
  obtain ⟨k, rfl⟩ : ∃ k, m = k + 1 := ⟨m - 1, by omega⟩
  have hk : k < P.length := by omega
  have hg : P.getD (k + 1 - 1) 0 = P[k] := by simp [List.getD_eq_getElem?_getD, hk]
  rw [hg]
  unfold dat
  simp only [Nat.add_sub_cancel]
  have ht : P.take (k + 1) = P.take k ++ [P[k]] := by rw [List.take_succ_eq_append_getElem hk]
  have hd : P.drop k = P[k] :: P.drop (k + 1) := List.drop_eq_getElem_cons hk
  have hl : (P.take k).length = k := by simp; omega
  rw [ht, hd]
  rw [List.set_append_right _ _ (by simp; omega)]
  simp only [List.length_append, hl, List.length_singleton, Nat.sub_self, List.set_cons_zero]
  rw [List.append_assoc, List.set_append_right _ _ (by omega)]
  rw [hl, Nat.sub_self]; rfl
theorem take_ge {fr P : List Int} (hP : P.Pairwise (R fr)) {m : Nat} (h1 : 1 ≤ m) (hm : m ≤ P.length) {y : Int} (hy : y ∈ P.take m) : fv fr (P.getD (m - 1) 0) ≤ fv fr y := by
  obtain ⟨j, hj, rfl⟩ := List.getElem_of_mem hy
  have hj' : j < m := by simp at hj; omega
  have hg : P.getD (m - 1) 0 = P[m - 1] := by simp [List.getD_eq_getElem?_getD, List.getElem?_eq_getElem (show m - 1 < P.length by omega)]
  rw [hg, List.getElem_take]
  rcases Nat.lt_or_ge j (m - 1) with h | h
  · have := (List.pairwise_iff_getElem.1 hP) j (m - 1) (by omega) (by omega) h
    unfold R at this
    omega
  · have : j = m - 1 := by omega
    subst this
    exact Int.le_refl _
theorem ins_pairwise {fr P : List Int} {x : Int} {m : Nat} (hP : P.Pairwise (R fr)) (hlt : ∀ y ∈ P, y < x) (hd : ∀ y ∈ P.drop m, fv fr y < fv fr x) (ht : m = 0 ∨ fv fr x ≤ fv fr (P.getD (m - 1) 0)) (hm : m ≤ P.length) :
    (P.take m ++ x :: P.drop m).Pairwise (R fr) := by
  have hsplit : (P.take m ++ P.drop m).Pairwise (R fr) := by rw [List.take_append_drop]; exact hP
  rw [List.pairwise_append] at hsplit ⊢
  obtain ⟨a1, a2, a3⟩ := hsplit
  refine ⟨a1, List.pairwise_cons.2 ⟨fun y hy => .inl (hd y hy), a2⟩, fun y hy z hz => ?_⟩
  rcases List.mem_cons.1 hz with rfl | hz
  · have hy1 := hlt y (List.mem_of_mem_take hy)
    rcases ht with rfl | ht
    · simp at hy
    · by_cases h1 : 1 ≤ m
      · have := take_ge hP h1 hm hy
        unfold R; omega
      · have : m = 0 := by omega
        subst this; simp at hy
  · exact a3 y hy z hz
theorem ins_perm (P : List Int) (x : Int) (m : Nat) : (P.take m ++ x :: P.drop m).Perm (P ++ [x]) := by
  refine List.perm_middle.trans ?_
  rw [List.take_append_drop]
  exact (List.perm_append_singleton x P).symm
end Plc
namespace Plc
def ableTo (free : List Int) (there : List Bool) : Nat → List Int
  | 0 => []
  | k + 1 => if there.getD k false = true ∧ 0 < free.getD k 0 then ableTo free there k ++ [(k : Int)] else ableTo free there k
theorem ableTo_mem {free : List Int} {there : List Bool} {k : Nat} {x : Int} : x ∈ ableTo free there k ↔ ∃ i : Nat, i < k ∧ x = i ∧ there.getD i false = true ∧ 0 < free.getD i 0 := by
  induction k with
  | zero => simp [ableTo]
  | succ k ih =>
    unfold ableTo
    split
    · next h =>
      rw [List.mem_append, ih, List.mem_singleton]
      constructor
      · rintro (⟨i, hi, hx⟩ | rfl)
        · exact ⟨i, by omega, hx⟩
        · exact ⟨k, by omega, rfl, h⟩
      · rintro ⟨i, hi, rfl, hx⟩
        rcases Nat.lt_succ_iff_lt_or_eq.1 hi with h' | rfl
        · exact .inl ⟨i, h', rfl, hx⟩
        · exact .inr rfl
    · next h =>
      rw [ih]
      constructor
      · rintro ⟨i, hi, hx⟩; exact ⟨i, by omega, hx⟩
      · rintro ⟨i, hi, rfl, hx⟩
        rcases Nat.lt_succ_iff_lt_or_eq.1 hi with h' | rfl
        · exact ⟨i, h', rfl, hx⟩
        · exact absurd hx h
theorem ableTo_inc (free : List Int) (there : List Bool) (k : Nat) : (ableTo free there k).Pairwise (· < ·) := by
  induction k with
  | zero => exact List.Pairwise.nil
  | succ k ih =>
    unfold ableTo
    split
    · rw [List.pairwise_append]
      refine ⟨ih, by simp, fun y hy z hz => ?_⟩
      rw [List.mem_singleton] at hz
      obtain ⟨i, hi, rfl, _⟩ := ableTo_mem.1 hy
      omega
    · exact ih
theorem ableTo_len (free : List Int) (there : List Bool) (k : Nat) : (ableTo free there k).length ≤ upTo there k := by
  induction k with
  | zero => exact Nat.le_refl _
  | succ k ih =>
    unfold ableTo upTo
    split
    · next h => rw [if_pos h.1]; simp; exact ih
    · split <;> omega
abbrev able (free : List Int) (there : List Bool) : List Int := ableTo free there free.length
/-- What the program's choice is. -/
def ChSpec (l : List Int) (m : List Bool) (W : Int) (res : Option (List Int)) : Prop :=
  (res = none ∧ (able l m = [] ∨ ((able l m).length : Int) < W)) ∨ (∃ l' : List Int, l'.Perm (able l m) ∧ l'.Pairwise (R l) ∧ able l m ≠ [] ∧ W ≤ (able l m).length ∧ res = some (l'.take W.toNat))
end Plc

namespace Plc
def cand (l : List Int) (m : List Bool) (cs : List Int) (i : Nat) : Prop := m.getD i false = true ∧ 0 < l.getD i 0 ∧ ¬ ((i : Int) ∈ cs)
theorem bestTo_spec (l : List Int) (m : List Bool) (cs : List Int) (k : Nat) :
    (bestTo l m cs k = -1 ∧ ∀ i, i < k → ¬ cand l m cs i) ∨ (∃ a : Nat, bestTo l m cs k = a ∧ a < k ∧ cand l m cs a ∧ ∀ i, i < k → cand l m cs i → i = a ∨ R l a i) := by
  induction k with
  | zero => exact .inl ⟨rfl, fun i hi => by omega⟩
  | succ k ih =>
    unfold bestTo
    rcases ih with ⟨he, hno⟩ | ⟨a, he, hak, hca, hall⟩
    · rw [he]
      split
      · next h =>
        exact .inr ⟨k, rfl, Nat.lt_succ_self _, ⟨h.1, h.2.1, h.2.2.1⟩, fun i hi hc => by
          rcases Nat.lt_succ_iff_lt_or_eq.1 hi with h' | rfl
          · exact absurd hc (hno i h')
          · exact .inl rfl⟩
      · next h =>
        refine .inl ⟨rfl, fun i hi hc => ?_⟩
        rcases Nat.lt_succ_iff_lt_or_eq.1 hi with h' | rfl
        · exact hno i h' hc
        · exact h ⟨hc.1, hc.2.1, hc.2.2, .inl (by decide)⟩
    · rw [he]
      split
      · next h =>
        obtain ⟨h1, h2, h3, h4⟩ := h
        have h4 : l.getD a 0 < l.getD k 0 := by
          rcases h4 with h4 | h4
          · omega
          · simpa using h4
        refine .inr ⟨k, rfl, Nat.lt_succ_self _, ⟨h1, h2, h3⟩, fun i hi hc => ?_⟩
        rcases Nat.lt_succ_iff_lt_or_eq.1 hi with h' | rfl
        · right
          have hfk : fv l (k : Int) = l.getD k 0 := by simp [fv]
          have hfa : fv l (a : Int) = l.getD a 0 := by simp [fv]
          have hfi : fv l (i : Int) = l.getD i 0 := by simp [fv]
          unfold R
          rw [hfk, hfi]
          rcases hall i h' hc with rfl | hR
          · left; exact h4
          · unfold R at hR
            rw [hfa, hfi] at hR
            left; omega
        · exact .inl rfl
      · next h =>
        refine .inr ⟨a, rfl, by omega, hca, fun i hi hc => ?_⟩
        rcases Nat.lt_succ_iff_lt_or_eq.1 hi with h' | rfl
        · exact hall i h' hc
        · right
          have hfa : fv l (a : Int) = l.getD a 0 := by simp [fv]
          have hfi : fv l (i : Int) = l.getD i 0 := by simp [fv]
          unfold R
          rw [hfa, hfi]
          have : ¬ l.getD a 0 < l.getD i 0 := fun hlt => h ⟨hc.1, hc.2.1, hc.2.2, .inr (by simpa using hlt)⟩
          omega
theorem R_asymm {l : List Int} {a b : Int} (h : R l a b) (h' : R l b a) : False := by unfold R at h h'; omega
theorem best_next {l : List Int} {m : List Bool} {S : List Int} (hp : S.Perm (able l m)) (hs : S.Pairwise (R l)) (j : Nat) :
    (j < S.length → bestTo l m (S.take j) l.length = S.getD j 0) ∧ (S.length ≤ j → bestTo l m (S.take j) l.length = -1) := by
  have hnd : S.Nodup := hs.imp fun {a b} h he => by subst he; exact R_asymm h h
  have hcand : ∀ i : Nat, i < l.length → (cand l m (S.take j) i ↔ (i : Int) ∈ S.drop j) := fun i hi => by
    have hmem : (i : Int) ∈ S ↔ m.getD i false = true ∧ 0 < l.getD i 0 := by
      rw [hp.mem_iff, ableTo_mem]
      constructor
      · rintro ⟨i', _, he, hh⟩
        have : i = i' := by omega
        subst this; exact hh
      · exact fun hh => ⟨i, hi, rfl, hh⟩
    have hsplit : (i : Int) ∈ S ↔ (i : Int) ∈ S.take j ∨ (i : Int) ∈ S.drop j := by
      rw [← List.mem_append, List.take_append_drop]
    have hdis : (i : Int) ∈ S.take j → (i : Int) ∈ S.drop j → False := fun h1 h2 => by
      rw [← List.take_append_drop j S, List.nodup_append] at hnd
      exact hnd.2.2 _ h1 _ h2 rfl
    unfold cand
    constructor
    · rintro ⟨a, b, c⟩
      exact (hsplit.1 (hmem.2 ⟨a, b⟩)).resolve_left c
    · intro h
      have := hmem.1 (hsplit.2 (.inr h))
      exact ⟨this.1, this.2, fun h' => hdis h' h⟩
  constructor
  · intro hj
    have hg : S.getD j 0 = S[j] := by simp [List.getD_eq_getElem?_getD, hj]
    have hd : S.drop j = S[j] :: S.drop (j + 1) := List.drop_eq_getElem_cons hj
    have hab : S[j] ∈ able l m := hp.mem_iff.1 (List.getElem_mem hj)
    obtain ⟨b, hb, hbe, _⟩ := ableTo_mem.1 hab
    rcases bestTo_spec l m (S.take j) l.length with ⟨he, hno⟩ | ⟨a, he, ha, hca, hall⟩
    · exact absurd ((hcand b hb).2 (by rw [hd, ← hbe]; exact List.mem_cons_self)) (hno b hb)
    · rw [he, hg]
      rcases hall b hb ((hcand b hb).2 (by rw [hd, ← hbe]; exact List.mem_cons_self)) with rfl | hR
      · exact hbe.symm
      · have ham := (hcand a ha).1 hca
        rw [hd] at ham
        rcases List.mem_cons.1 ham with h | h
        · exact h
        · exfalso
          have h2 : (S[j] :: S.drop (j + 1)).Pairwise (R l) := by rw [← hd]; exact hs.sublist (List.drop_sublist j S)
          exact R_asymm (hbe ▸ hR) ((List.pairwise_cons.1 h2).1 _ h)
  · intro hj
    rcases bestTo_spec l m (S.take j) l.length with ⟨he, _⟩ | ⟨a, he, ha, hca, _⟩
    · exact he
    · have := (hcand a ha).1 hca
      rw [List.drop_eq_nil_of_le hj] at this
      cases this
theorem refL_take {l : List Int} {m : List Bool} {S : List Int} (hp : S.Perm (able l m)) (hs : S.Pairwise (R l)) : ∀ j, j ≤ S.length → refL l m j = some (S.take j) := by
  intro j
  induction j with
  | zero => intro _; simp [refL]
  | succ j ih =>
    intro hj
    unfold refL
    rw [ih (by omega)]
    simp only
    have hb := (best_next hp hs j).1 (by omega)
    have hg : S.getD j 0 = S[j] := by simp [List.getD_eq_getElem?_getD, show j < S.length by omega]
    rw [hb, hg]
    have hab : S[j] ∈ able l m := hp.mem_iff.1 (List.getElem_mem _)
    obtain ⟨b, _, hbe, _⟩ := ableTo_mem.1 hab
    rw [if_neg (by omega)]
    simp
theorem refL_over {l : List Int} {m : List Bool} {S : List Int} (hp : S.Perm (able l m)) (hs : S.Pairwise (R l)) {j : Nat} (hj : S.length < j) : refL l m j = none := by
  have h1 : refL l m (S.length + 1) = none := by
    unfold refL
    rw [refL_take hp hs _ (Nat.le_refl _)]
    simp only
    rw [(best_next hp hs S.length).2 (Nat.le_refl _), if_pos (by decide)]
  have := refL_none h1 (j - (S.length + 1))
  rwa [show S.length + 1 + (j - (S.length + 1)) = j from by omega] at this
/-- There is a sorted list. -/
theorem insSort_ex (l P : List Int) (hinc : P.Pairwise (· < ·)) : ∃ S : List Int, S.Perm P ∧ S.Pairwise (R l) := by
  suffices h : ∀ q, q ≤ P.length → ∃ S : List Int, S.Perm (P.take q) ∧ S.Pairwise (R l) by
    have := h P.length (Nat.le_refl _)
    rwa [List.take_length] at this
  intro q
  induction q with
  | zero => intro _; exact ⟨[], by simp, List.Pairwise.nil⟩
  | succ q ih =>
    intro hq
    obtain ⟨S, hp, hs⟩ := ih (by omega)
    have hx : P.take (q + 1) = P.take q ++ [P[q]] := by rw [List.take_succ_eq_append_getElem (by omega)]
    have hlt : ∀ y ∈ S, y < P[q] := fun y hy => by
      have h := hinc
      rw [← List.take_append_drop q P, List.pairwise_append] at h
      exact h.2.2 y (hp.mem_iff.1 hy) _ (by rw [List.drop_eq_getElem_cons (by omega)]; exact List.mem_cons_self)
    -- where it goes
    have hm : ∀ t, t ≤ S.length → (∀ y ∈ S.drop t, fv l y < fv l P[q]) → ∃ m, m ≤ S.length ∧ (∀ y ∈ S.drop m, fv l y < fv l P[q]) ∧ (m = 0 ∨ fv l P[q] ≤ fv l (S.getD (m - 1) 0)) := by
      intro t
      induction t with
      | zero => intro h1 h2; exact ⟨0, h1, h2, .inl rfl⟩
      | succ t iht =>
        intro h1 h2
        by_cases hc : fv l P[q] ≤ fv l (S.getD t 0)
        · exact ⟨t + 1, h1, h2, .inr (by simpa using hc)⟩
        · refine iht (by omega) fun y hy => ?_
          rw [List.drop_eq_getElem_cons (show t < S.length by omega)] at hy
          rcases List.mem_cons.1 hy with rfl | hy
          · have : S.getD t 0 = S[t] := by simp [List.getD_eq_getElem?_getD, show t < S.length by omega]
            rw [this] at hc; omega
          · exact h2 y hy
    obtain ⟨mm, h1, h2, h3⟩ := hm S.length (Nat.le_refl _) (by simp)
    exact ⟨S.take mm ++ P[q] :: S.drop mm, (ins_perm S P[q] mm).trans (by rw [hx]; exact List.Perm.append_right _ hp), ins_pairwise hs hlt h2 h3 h1⟩
theorem wantN_nonneg {m : List Bool} {c : Int} (h : 1 ≤ c) : 0 ≤ wantN m c := by unfold wantN; split <;> omega
theorem chSpec_eq {l : List Int} {m : List Bool} {c : Int} {res : Option (List Int)} (hm : m.length = l.length) (hc : 1 ≤ c) (h : ChSpec l m (wantN m c) res) : res = refChoose l m c := by
  have hw0 := @wantN_nonneg m c hc
  have hal := ableTo_len l m l.length
  have hwz : wantN m c = 0 → able l m = [] := fun h0 => by
    have : upTo m m.length = 0 := by unfold wantN at h0; split at h0 <;> omega
    rw [hm] at this
    exact List.eq_nil_of_length_eq_zero (by show (ableTo l m l.length).length = 0; omega)
  unfold refChoose
  rcases h with ⟨rfl, h⟩ | ⟨S, hp, hs, hne, hw, rfl⟩
  · obtain ⟨S, hp, hs⟩ := insSort_ex l (able l m) (ableTo_inc l m l.length)
    split
    · rfl
    · next h0 =>
      symm
      refine refL_over hp hs ?_
      rw [hp.length_eq]
      rcases h with h | h
      · rw [h]; show 0 < _; omega
      · omega
  · rw [if_neg (fun h0 => hne (hwz h0))]
    exact (refL_take hp hs _ (by rw [hp.length_eq]; omega)).symm
end Plc

set_option linter.unusedVariables false
namespace Plc
theorem refChoose_props {l : List Int} {m : List Bool} {c : Int} {out : List Int} (hm : m.length = l.length) (hc : 1 ≤ c) (h : refChoose l m c = some out) :
    ∃ S : List Int, S.Perm (able l m) ∧ S.Pairwise (R l) ∧ out = S.take (wantN m c).toNat ∧ 1 ≤ wantN m c ∧ wantN m c ≤ (able l m).length := by
  obtain ⟨S, hp, hs⟩ := insSort_ex l (able l m) (ableTo_inc l m l.length)
  have hw0 := @wantN_nonneg m c hc
  unfold refChoose at h
  split at h
  · cases h
  · next h0 =>
    by_cases hle : (wantN m c).toNat ≤ S.length
    · rw [refL_take hp hs _ hle] at h
      cases h
      exact ⟨S, hp, hs, rfl, by omega, by rw [← hp.length_eq]; omega⟩
    · rw [refL_over hp hs (by omega)] at h
      cases h
theorem chosen {l : List Int} {m : List Bool} {c : Int} {out : List Int} (hm : m.length = l.length) (hc : 1 ≤ c) (h : refChoose l m c = some out) :
    out.Nodup ∧ (∀ x ∈ out, ∃ i : Nat, i < l.length ∧ x = i ∧ m.getD i false = true ∧ 0 < l.getD i 0) ∧ 1 ≤ out.length ∧ (out.length : Int) = wantN m c := by
  obtain ⟨S, hp, hs, rfl, h1, h2⟩ := refChoose_props hm hc h
  have hnd : S.Nodup := hs.imp fun {a b} h he => by subst he; exact R_asymm h h
  have hl : (S.take (wantN m c).toNat).length = (wantN m c).toNat := by rw [List.length_take, hp.length_eq]; omega
  refine ⟨hnd.sublist (List.take_sublist _ _), fun x hx => ableTo_mem.1 (hp.mem_iff.1 (List.mem_of_mem_take hx)), by rw [hl]; omega, by rw [hl]; omega⟩
/-- One sector less on each of these. -/
def decL (l : List Int) : List Int → List Int
  | [] => l
  | x :: xs => decL (l.set x.toNat (l.getD x.toNat 0 - 1)) xs
theorem decL_len (xs : List Int) : ∀ l, (decL l xs).length = l.length := by
  induction xs with
  | nil => intro l; rfl
  | cons x xs ih => intro l; show (decL _ xs).length = _; rw [ih]; simp
theorem decL_snoc (x : Int) (xs : List Int) : ∀ l, decL l (xs ++ [x]) = (decL l xs).set x.toNat ((decL l xs).getD x.toNat 0 - 1) := by
  induction xs with
  | nil => intro l; rfl
  | cons y xs ih => intro l; exact ih _
theorem getD_set (l : List Int) (i j : Nat) (v : Int) : (l.set i v).getD j 0 = if i = j ∧ i < l.length then v else l.getD j 0 := by
  simp only [List.getD_eq_getElem?_getD, List.getElem?_set]
  by_cases h : i = j
  · subst h
    by_cases h2 : i < l.length
    · simp [h2]
    · simp [h2]
  · simp [h]
theorem decL_get (xs : List Int) : ∀ l : List Int, xs.Nodup → (∀ x ∈ xs, ∃ i : Nat, i < l.length ∧ x = i) → ∀ i : Nat, (decL l xs).getD i 0 = l.getD i 0 - (if (i : Int) ∈ xs then 1 else 0) := by
  induction xs with
  | nil => intro l _ _ i; simp [decL]
  | cons x xs ih =>
    intro l hnd hv i
    obtain ⟨i0, hi0, rfl⟩ := hv x List.mem_cons_self
    obtain ⟨hx, hnd⟩ := List.nodup_cons.1 hnd
    show (decL _ xs).getD i 0 = _
    rw [ih _ hnd (fun y hy => by obtain ⟨j, hj, he⟩ := hv y (List.mem_cons_of_mem _ hy); exact ⟨j, by simpa using hj, he⟩) i]
    rw [getD_set, Int.toNat_natCast]
    by_cases h : i0 = i
    · subst h
      rw [if_pos ⟨rfl, hi0⟩, if_neg hx, if_pos List.mem_cons_self]; omega
    · rw [if_neg (fun hh => h hh.1)]
      have : ((i : Int) ∈ (i0 : Int) :: xs) ↔ (i : Int) ∈ xs := by
        rw [List.mem_cons]
        exact ⟨fun hh => hh.resolve_left (by omega), .inr⟩
      simp only [this]
def sumL : List Int → Int
  | [] => 0
  | x :: xs => x + sumL xs
theorem sumL_set : ∀ (l : List Int) (i : Nat) (v : Int), i < l.length → sumL (l.set i v) = sumL l - l.getD i 0 + v := by
  intro l
  induction l with
  | nil => intro i v h; simp at h
  | cons a l ih =>
    intro i v h
    cases i with
    | zero => simp [sumL]; omega
    | succ i =>
      have := ih i v (by simpa using h)
      simp only [List.set_cons_succ, sumL, this]
      simp
      omega
theorem sumL_dec (xs : List Int) : ∀ l : List Int, (∀ x ∈ xs, ∃ i : Nat, i < l.length ∧ x = i) → sumL (decL l xs) = sumL l - xs.length := by
  induction xs with
  | nil => intro l _; simp [decL]
  | cons x xs ih =>
    intro l hv
    obtain ⟨i0, hi0, rfl⟩ := hv x List.mem_cons_self
    show sumL (decL _ xs) = _
    rw [ih _ (fun y hy => by obtain ⟨j, hj, he⟩ := hv y (List.mem_cons_of_mem _ hy); exact ⟨j, by simpa using hj, he⟩)]
    rw [Int.toNat_natCast, sumL_set _ _ _ hi0]
    simp
    omega
theorem sumL_nonneg {l : List Int} (h : ∀ x ∈ l, 0 ≤ x) : 0 ≤ sumL l := by
  induction l with
  | nil => exact Int.le_refl _
  | cons a l ih =>
    have h1 := h a List.mem_cons_self
    have h2 := ih fun x hx => h x (List.mem_cons_of_mem _ hx)
    show 0 ≤ a + sumL l; omega
theorem sumL_le {l : List Int} (h : ∀ x ∈ l, x ≤ 4096) : sumL l ≤ 4096 * l.length := by
  induction l with
  | nil => exact Int.le_refl _
  | cons a l ih =>
    have h1 := h a List.mem_cons_self
    have h2 := ih fun x hx => h x (List.mem_cons_of_mem _ hx)
    show a + sumL l ≤ _; simp; omega
theorem okRoom_dec {l : List Int} {m : List Bool} {c : Int} {out : List Int} (hok : okRoom l m c) (h : refChoose l m c = some out) : okRoom (decL l out) m c := by
  obtain ⟨h1, h2, h3, h4, h5, h6⟩ := hok
  obtain ⟨hnd, hv, _, _⟩ := chosen h3 h4 h
  refine ⟨by rw [decL_len]; exact h1, by rw [decL_len]; exact h2, by rw [decL_len]; exact h3, h4, h5, fun x hx => ?_⟩
  obtain ⟨i, hi, rfl⟩ := mem_getD hx
  rw [decL_len] at hi
  rw [decL_get out l hnd (fun x hx => by obtain ⟨i, hi, he, _⟩ := hv x hx; exact ⟨i, hi, he⟩) i]
  have := h6 _ (getD_mem hi)
  split
  · next hm =>
    obtain ⟨i', _, he, _, hp⟩ := hv _ hm
    have : i = i' := by omega
    subst this
    omega
  · omega
/-- So often it can be chosen. -/
inductive ManyR (m : List Bool) (c : Int) : List Int → Nat → Prop where
  | stop {l} (h : refChoose l m c = none) : ManyR m c l 0
  | step {l out n} (h : refChoose l m c = some out) (hn : ManyR m c (decL l out) n) : ManyR m c l (n + 1)
theorem ManyR.uniq {m : List Bool} {c : Int} {l : List Int} {n n' : Nat} (h : ManyR m c l n) (h' : ManyR m c l n') : n = n' := by
  induction h generalizing n' with
  | stop h => cases h' with
    | stop => rfl
    | step h2 => rw [h] at h2; cases h2
  | step h hn ih => cases h' with
    | stop h2 => rw [h] at h2; cases h2
    | step h2 hn2 =>
      rw [h] at h2
      cases h2
      rw [ih hn2]
end Plc

set_option linter.unusedVariables false
namespace Plc
theorem choose_none_iff {l : List Int} {m : List Bool} {c : Int} (hc : 1 ≤ c) : refChoose l m c = none ↔ wantN m c = 0 ∨ ((able l m).length : Int) < wantN m c := by
  obtain ⟨S, hp, hs⟩ := insSort_ex l (able l m) (ableTo_inc l m l.length)
  have hw0 := @wantN_nonneg m c hc
  unfold refChoose
  by_cases h0 : wantN m c = 0
  · rw [if_pos h0]; exact ⟨fun _ => .inl h0, fun _ => rfl⟩
  · rw [if_neg h0]
    by_cases hle : (wantN m c).toNat ≤ S.length
    · rw [refL_take hp hs _ hle]
      rw [hp.length_eq] at hle
      constructor
      · intro h; cases h
      · rintro (h | h)
        · exact absurd h h0
        · omega
    · rw [refL_over hp hs (by omega)]
      rw [hp.length_eq] at hle
      exact ⟨fun _ => .inr (by omega), fun _ => rfl⟩
theorem choose_best {l : List Int} {m : List Bool} {c : Int} {out : List Int} (hm : m.length = l.length) (hc : 1 ≤ c) (h : refChoose l m c = some out) {i : Nat} (hi : i < l.length) (ht : m.getD i false = true) (hn : ¬ (i : Int) ∈ out) :
    ∀ x ∈ out, l.getD i 0 ≤ fv l x := by
  obtain ⟨S, hp, hs, rfl, h1, h2⟩ := refChoose_props hm hc h
  intro x hx
  have hxS := List.mem_of_mem_take hx
  obtain ⟨q, _, rfl, _, hq⟩ := ableTo_mem.1 (hp.mem_iff.1 hxS)
  have hfq : fv l (q : Int) = l.getD q 0 := by simp [fv]
  rw [hfq]
  by_cases hpos : 0 < l.getD i 0
  · have hiS : (i : Int) ∈ S := hp.mem_iff.2 (ableTo_mem.2 ⟨i, hi, rfl, ht, hpos⟩)
    rw [← List.take_append_drop (wantN m c).toNat S] at hiS
    have hid := (List.mem_append.1 hiS).resolve_left hn
    rw [← List.take_append_drop (wantN m c).toNat S, List.pairwise_append] at hs
    have hR := hs.2.2 _ hx _ hid
    unfold R at hR
    have hfi : fv l (i : Int) = l.getD i 0 := by simp [fv]
    rw [hfi, hfq] at hR
    omega
  · omega
def marks (d : Nat) (out : List Int) : List Bool := (List.range d).map fun (i : Nat) => decide ((i : Int) ∈ out)
theorem marks_len (d : Nat) (out : List Int) : (marks d out).length = d := by simp [marks]
theorem marks_get {d : Nat} {out : List Int} {i : Nat} (h : i < d) : (marks d out)[i]? = some (decide ((i : Int) ∈ out)) := by simp [marks, h]
theorem marks_set {d : Nat} {out : List Int} {q : Nat} (hq : q < d) : (marks d out).set q true = marks d (out ++ [(q : Int)]) := by
  refine List.ext_getElem? fun j => ?_
  rw [List.getElem?_set]
  by_cases hj : j < d
  · rw [marks_get hj, marks_get hj, marks_len]
    by_cases h : q = j
    · subst h; rw [if_pos rfl, if_pos hq]; simp
    · rw [if_neg h]
      have : ((j : Int) ∈ out ++ [(q : Int)]) ↔ (j : Int) ∈ out := by
        rw [List.mem_append, List.mem_singleton]
        exact ⟨fun hh => hh.resolve_right (by omega), .inl⟩
      simp only [this]
  · rw [if_neg (by omega), List.getElem?_eq_none (by rw [marks_len]; omega), List.getElem?_eq_none (by rw [marks_len]; omega)]
theorem marks_nil (d : Nat) : marks d [] = List.replicate d false := by
  refine List.ext_getElem? fun j => ?_
  by_cases hj : j < d
  · rw [marks_get hj]; simp [hj]
  · rw [List.getElem?_eq_none (by rw [marks_len]; omega), List.getElem?_eq_none (by simp; omega)]
end Plc
namespace Plc
theorem getD_get {l : List Int} {j : Nat} (h : j < l.length) : l.getD j 0 = l[j] := by simp [List.getD_eq_getElem?_getD, h]
theorem not_in_take {out : List Int} (hnd : out.Nodup) {j : Nat} (hlt : j < out.length) : ¬ out.getD j 0 ∈ out.take j := fun hin => by
  have hd : out.getD j 0 ∈ out.drop j := by rw [getD_get hlt, List.drop_eq_getElem_cons hlt]; exact List.mem_cons_self
  have h2 : (out.take j ++ out.drop j).Nodup := by rw [List.take_append_drop]; exact hnd
  rw [List.nodup_append] at h2
  exact h2.2.2 _ hin _ hd rfl
end Plc

set_option linter.unusedVariables false
namespace Plc
/-- Over those that are there. -/
def sumF (m : List Bool) (f : Nat → Int) : Nat → Int
  | 0 => 0
  | k + 1 => sumF m f k + (if m.getD k false = true then f k else 0)
theorem sumF_le {m : List Bool} {f g : Nat → Int} {k : Nat} (h : ∀ i, i < k → m.getD i false = true → f i ≤ g i) : sumF m f k ≤ sumF m g k := by
  induction k with
  | zero => exact Int.le_refl _
  | succ k ih =>
    have h1 := ih fun i hi => h i (by omega)
    unfold sumF
    split
    · next hm => have := h k (by omega) hm; omega
    · omega
theorem sumF_add (m : List Bool) (f g : Nat → Int) (k : Nat) : sumF m (fun i => f i + g i) k = sumF m f k + sumF m g k := by
  induction k with
  | zero => rfl
  | succ k ih => unfold sumF; rw [ih]; split <;> omega
theorem sumF_mul (m : List Bool) (f : Nat → Int) (c : Int) (k : Nat) : sumF m (fun i => c * f i) k = c * sumF m f k := by
  induction k with
  | zero => simp [sumF]
  | succ k ih => unfold sumF; rw [ih, Int.mul_add]; split <;> simp
def ind (out : List Int) (i : Nat) : Int := if (i : Int) ∈ out then 1 else 0
theorem sumF_one {m : List Bool} {q k : Nat} (hq : m.getD q false = true) : sumF m (fun i => if i = q then 1 else 0) k = if q < k then 1 else 0 := by
  induction k with
  | zero => rfl
  | succ k ih =>
    unfold sumF
    rw [ih]
    by_cases h2 : k = q
    · subst h2
      rw [if_neg (by omega), if_pos hq, if_pos rfl, if_pos (by omega)]; rfl
    · have e : (if m.getD k false = true then (if k = q then (1 : Int) else 0) else 0) = 0 := by
        rw [if_neg h2]; split <;> rfl
      rw [e]
      by_cases h : q < k
      · rw [if_pos h, if_pos (show q < k + 1 by omega)]; rfl
      · rw [if_neg h, if_neg (show ¬ q < k + 1 by omega)]; rfl
theorem sumF_ind {m : List Bool} {k : Nat} : ∀ {out : List Int}, out.Nodup → (∀ x ∈ out, ∃ i : Nat, i < k ∧ x = i ∧ m.getD i false = true) → sumF m (ind out) k = out.length := by
  intro out
  induction out with
  | nil =>
    intro _ _
    have : ∀ k, sumF m (ind []) k = 0 := fun k => by
      induction k with
      | zero => rfl
      | succ k ih => unfold sumF; rw [ih]; simp [ind]
    rw [this]; rfl
  | cons x xs ih =>
    intro hnd hv
    obtain ⟨q, hq, rfl, hm⟩ := hv x List.mem_cons_self
    obtain ⟨hx, hnd⟩ := List.nodup_cons.1 hnd
    have e : ∀ i, ind ((q : Int) :: xs) i = (if i = q then 1 else 0) + ind xs i := fun i => by
      unfold ind
      by_cases h : i = q
      · subst h
        rw [if_pos List.mem_cons_self, if_pos rfl, if_neg hx]; rfl
      · rw [if_neg h]
        have : ((i : Int) ∈ (q : Int) :: xs) ↔ (i : Int) ∈ xs := by
          rw [List.mem_cons]
          exact ⟨fun hh => hh.resolve_left (by omega), .inr⟩
        simp only [this]; omega
    have e2 : sumF m (ind ((q : Int) :: xs)) k = sumF m (fun i => (if i = q then 1 else 0) + ind xs i) k := by congr 1; funext i; exact e i
    rw [e2, sumF_add, sumF_one hm, if_pos hq, ih hnd fun y hy => hv y (List.mem_cons_of_mem _ hy)]
    simp
    omega
def mn (a b : Int) : Int := if a ≤ b then a else b
/-- How much can be taken in so many rounds. -/
def Sm (l : List Int) (m : List Bool) (n : Int) : Int := sumF m (fun i => mn (l.getD i 0) n) l.length
theorem nonneg_get {l : List Int} (h : ∀ x ∈ l, 0 ≤ x) (i : Nat) : 0 ≤ l.getD i 0 := by
  by_cases hi : i < l.length
  · exact h _ (getD_mem hi)
  · rw [List.getD_eq_getElem?_getD, List.getElem?_eq_none (by omega)]; exact Int.le_refl _
theorem greedy {l : List Int} {m : List Bool} {c : Int} (hok : okRoom l m c) {n : Int} (hn : 0 ≤ n) (hF : (n + 1) * wantN m c ≤ Sm l m (n + 1)) (hW : 1 ≤ wantN m c) :
    ∃ out, refChoose l m c = some out ∧ n * wantN m c ≤ Sm (decL l out) m n := by
  obtain ⟨h1, h2, hm, h4, h5, h6⟩ := id hok
  have hnn := nonneg_get fun x hx => (h6 x hx).1
  -- there are enough
  have hab : wantN m c ≤ (able l m).length := by
    have hnd : (able l m).Nodup := (ableTo_inc l m l.length).imp fun {a b} h => by omega
    have hcount := sumF_ind (m := m) (k := l.length) hnd fun x hx => by obtain ⟨i, hi, he, ht, _⟩ := ableTo_mem.1 hx; exact ⟨i, hi, he, ht⟩
    have hle : Sm l m (n + 1) ≤ (n + 1) * sumF m (ind (able l m)) l.length := by
      rw [← sumF_mul]
      refine sumF_le fun i hi ht => ?_
      have := hnn i
      unfold mn ind
      by_cases hp : 0 < l.getD i 0
      · rw [if_pos (ableTo_mem.2 ⟨i, hi, rfl, ht, hp⟩), Int.mul_one]
        split <;> omega
      · have h0 : l.getD i 0 = 0 := by omega
        rw [h0, if_pos (by omega)]
        split <;> omega
    rw [hcount] at hle
    have := Int.le_trans hF hle
    exact Int.le_of_mul_le_mul_left this (by omega)
  obtain ⟨out, hout⟩ : ∃ out, refChoose l m c = some out := by
    cases h : refChoose l m c with
    | some out => exact ⟨out, rfl⟩
    | none =>
      have := (choose_none_iff h4).1 h
      omega
  obtain ⟨hnd, hval, hol, howl⟩ := chosen hm h4 hout
  have hcnt := sumF_ind (m := m) (k := l.length) hnd fun x hx => by obtain ⟨i, hi, he, ht, _⟩ := hval x hx; exact ⟨i, hi, he, ht⟩
  have hget := decL_get out l hnd fun x hx => by obtain ⟨i, hi, he, _⟩ := hval x hx; exact ⟨i, hi, he⟩
  refine ⟨out, hout, ?_⟩
  have hSd : Sm (decL l out) m n = sumF m (fun i => mn (l.getD i 0 - ind out i) n) l.length := by
    unfold Sm
    rw [decL_len]
    congr 1
    funext i
    rw [hget]; rfl
  rw [hSd, ← howl, ← hcnt]
  by_cases hcase : ∃ a, a < l.length ∧ m.getD a false = true ∧ ¬ (a : Int) ∈ out ∧ n + 1 ≤ l.getD a 0
  · obtain ⟨a, ha, hta, hna, hla⟩ := hcase
    have hall := choose_best hm h4 hout ha hta hna
    rw [← sumF_mul]
    refine sumF_le fun i hi ht => ?_
    have := hnn i
    unfold ind
    split
    · next hin =>
      have := hall _ hin
      rw [show fv l (i : Int) = l.getD i 0 from by simp [fv]] at this
      unfold mn
      split <;> omega
    · unfold mn
      rw [Int.mul_zero]
      split <;> omega
  · have hle : ∀ i, i < l.length → m.getD i false = true → mn (l.getD i 0) (n + 1) + (-1) * ind out i ≤ mn (l.getD i 0 - ind out i) n := fun i hi ht => by
      have := hnn i
      unfold ind mn
      by_cases hin : (i : Int) ∈ out
      · rw [if_pos hin]
        split <;> split <;> omega
      · rw [if_neg hin]
        have : ¬ n + 1 ≤ l.getD i 0 := fun h => hcase ⟨i, hi, ht, hin, h⟩
        split <;> split <;> omega
    have h7 := sumF_le hle
    rw [sumF_add, sumF_mul] at h7
    have h8 : Sm l m (n + 1) = sumF m (fun i => mn (l.getD i 0) (n + 1)) l.length := rfl
    rw [← howl, ← hcnt] at hF
    rw [Int.add_mul] at hF
    omega
theorem many_feasible {m : List Bool} {c : Int} {l : List Int} {n : Nat} (h : ManyR m c l n) (hok : okRoom l m c) : (n : Int) * wantN m c ≤ Sm l m n := by
  induction h with
  | stop h =>
    rename_i l
    have hnn := nonneg_get fun x hx => (hok.2.2.2.2.2 x hx).1
    have : sumF m (fun _ => 0 * 0) l.length ≤ Sm l m ((0 : Nat) : Int) := sumF_le fun i hi _ => by
      have := hnn i
      unfold mn
      split <;> omega
    rw [sumF_mul] at this
    simpa using this
  | step h hn ih =>
    rename_i l out n
    obtain ⟨h1, h2, hm, h4, h5, h6⟩ := id hok
    have hokd := okRoom_dec hok h
    have ih := ih hokd
    obtain ⟨hnd, hval, hol, howl⟩ := chosen hm h4 h
    have hcnt := sumF_ind (m := m) (k := l.length) hnd fun x hx => by obtain ⟨i, hi, he, ht, _⟩ := hval x hx; exact ⟨i, hi, he, ht⟩
    have hget := decL_get out l hnd fun x hx => by obtain ⟨i, hi, he, _⟩ := hval x hx; exact ⟨i, hi, he⟩
    have hSd : Sm (decL l out) m n = sumF m (fun i => mn (l.getD i 0 - ind out i) n) l.length := by
      unfold Sm
      rw [decL_len]
      congr 1
      funext i
      rw [hget]; rfl
    rw [hSd] at ih
    have hle : sumF m (fun i => mn (l.getD i 0 - ind out i) n + ind out i) l.length ≤ Sm l m ((n + 1 : Nat) : Int) := sumF_le fun i hi ht => by
      unfold ind mn
      split <;> split <;> split <;> omega
    rw [sumF_add, hcnt, howl] at hle
    rw [Int.natCast_add, Int.add_mul] 
    have : ((1 : Nat) : Int) * wantN m c = wantN m c := by simp
    rw [this]
    exact Int.le_trans (by omega) hle
theorem feasible_many {m : List Bool} {c : Int} : ∀ (n : Nat) {l : List Int} {k : Nat}, okRoom l m c → (n : Int) * wantN m c ≤ Sm l m n → 1 ≤ wantN m c → ManyR m c l k → n ≤ k := by
  intro n
  induction n with
  | zero => intro l k _ _ _ _; omega
  | succ n ih =>
    intro l k hok hF hW h
    obtain ⟨out, hout, hF'⟩ := greedy hok (n := n) (by omega) (by rw [Int.natCast_add] at hF; exact hF) hW
    cases h with
    | stop h2 => rw [hout] at h2; cases h2
    | step h2 hn =>
      rw [hout] at h2
      cases h2
      have := ih (okRoom_dec hok hout) hF' hW hn
      omega
theorem many_zero {m : List Bool} {c : Int} {l : List Int} {n : Nat} (h : ManyR m c l n) (hW : wantN m c = 0) : n = 0 := by
  cases h with
  | stop => rfl
  | step h2 => unfold refChoose at h2; rw [if_pos hW] at h2; cases h2
/-- With more room it can be chosen as often. -/
theorem many_more {m : List Bool} {c : Int} {l l' : List Int} {n k : Nat} (hok : okRoom l m c) (hok' : okRoom l' m c) (hle : ∀ i, l.getD i 0 ≤ l'.getD i 0) (hll : l'.length = l.length) (h : ManyR m c l n) (h' : ManyR m c l' k) : n ≤ k := by
  have hw0 := @wantN_nonneg m c hok.2.2.2.1
  by_cases hW : wantN m c = 0
  · have := many_zero h hW; omega
  · refine feasible_many n hok' ?_ (by omega) h'
    refine Int.le_trans (many_feasible h hok) ?_
    unfold Sm
    rw [hll]
    refine sumF_le fun i hi ht => ?_
    have := hle i
    unfold mn
    split <;> split <;> omega
theorem many_sum {m : List Bool} {c : Int} {l : List Int} {n : Nat} (hok : okRoom l m c) (h : ManyR m c l n) : (n : Int) * wantN m c ≤ sumF m (fun i => l.getD i 0) l.length := by
  refine Int.le_trans (many_feasible h hok) ?_
  refine sumF_le fun i hi ht => ?_
  unfold mn
  split <;> omega
theorem many_pos {m : List Bool} {c : Int} {l : List Int} {n : Nat} (h : ManyR m c l n) : n = 0 ↔ refChoose l m c = none := by
  cases h with
  | stop h => exact ⟨fun _ => h, fun _ => rfl⟩
  | step h => rw [h]; exact ⟨fun h => by omega, fun h => by cases h⟩
theorem many_dec {m : List Bool} {c : Int} {l out : List Int} {n : Nat} (h : ManyR m c l n) (ho : refChoose l m c = some out) : ∃ k, n = k + 1 ∧ ManyR m c (decL l out) k := by
  cases h with
  | stop h => rw [ho] at h; cases h
  | step h hn => rw [ho] at h; cases h; exact ⟨_, rfl, hn⟩
end Plc

namespace Plc
/-- The first so many are taken by 201. -/
def modL (l : List Int) (i : Nat) : List Int := (List.range l.length).map fun j => if j < i then (l.getD j 0).tmod 201 else l.getD j 0
theorem modL_len (l : List Int) (i : Nat) : (modL l i).length = l.length := by simp [modL]
theorem modL_get {l : List Int} {i j : Nat} (h : j < l.length) : (modL l i).getD j 0 = if j < i then (l.getD j 0).tmod 201 else l.getD j 0 := by
  rw [List.getD_eq_getElem?_getD]
  unfold modL
  rw [List.getElem?_map, List.getElem?_range h]; rfl
theorem modL_zero (l : List Int) : modL l 0 = l := by
  refine List.ext_getElem? fun j => ?_
  by_cases h : j < l.length
  · unfold modL
    rw [List.getElem?_map, List.getElem?_range h]
    simp [h]
  · rw [List.getElem?_eq_none (by rw [modL_len]; omega), List.getElem?_eq_none (by omega)]
theorem modL_set {l : List Int} {i : Nat} (h : i < l.length) : (modL l i).set i ((l.getD i 0).tmod 201) = modL l (i + 1) := by
  refine List.ext_getElem? fun j => ?_
  rw [List.getElem?_set]
  by_cases hj : j < l.length
  · have e : ∀ t, (modL l t)[j]? = some (if j < t then (l.getD j 0).tmod 201 else l.getD j 0) := fun t => by unfold modL; rw [List.getElem?_map, List.getElem?_range hj]; rfl
    rw [e, e, modL_len]
    by_cases hij : i = j
    · subst hij
      rw [if_pos rfl, if_pos h, if_pos (by omega)]
    · rw [if_neg hij]
      by_cases h3 : j < i
      · rw [if_pos h3, if_pos (by omega)]
      · rw [if_neg h3, if_neg (by omega)]
  · rw [if_neg (by omega), List.getElem?_eq_none (by rw [modL_len]; omega), List.getElem?_eq_none (by rw [modL_len]; omega)]
theorem tmod201 {x : Int} (h : 0 ≤ x) : 0 ≤ x.tmod 201 ∧ x.tmod 201 ≤ 200 := by
  have h1 := Int.tmod_nonneg 201 h
  have h2 := Int.tmod_lt_of_pos x (show (0 : Int) < 201 by decide)
  omega
theorem sumF_bound {m : List Bool} {f : Nat → Int} {b : Int} {k : Nat} (h : ∀ i, i < k → 0 ≤ f i ∧ f i ≤ b) (hb : 0 ≤ b) : 0 ≤ sumF m f k ∧ sumF m f k ≤ b * k := by
  induction k with
  | zero => simp [sumF]
  | succ k ih =>
    have h1 := ih fun i hi => h i (by omega)
    have h2 := h k (by omega)
    unfold sumF
    rw [Int.natCast_add, Int.mul_add]
    split <;> omega
end Plc
