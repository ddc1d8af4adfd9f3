import Derived.Test.YtnkomaedmblemaaPqD
set_option linter.unusedSimpArgs false
set_option linter.unusedVariables false
set_option maxRecDepth 100000
namespace Go.Proofs.Ytnkomaedmblemaa
open Go.Ev Exl
namespace PQ

theorem SlR.hp {H H' : AH} {v : AV} {n : Nat} {f : Nat → AV} (h : SlR H v n f) {p : Nat → Prop} (hp : HP p H H') (hb : ∀ i o c op, v = .sl i o n c op → p i) : SlR H' v n f := by
  refine ⟨?_, fun k hk => ?_⟩
  · rcases h.is with h | ⟨i, o, c, op, hv, hi, cc, e, z, op', ro, hg, ho⟩
    · exact .inl h
    · exact .inr ⟨i, o, c, op, hv, Nat.lt_of_lt_of_le hi hp.next, cc, e, z, op', ro, by rw [hp.get hi (hb _ _ _ _ hv)]; exact hg, ho⟩
  · have h1 := h.el k hk
    rcases h.is with ⟨rfl, h0⟩ | ⟨i, o, c, op, rfl, hi, _⟩
    · omega
    · have h1 : ld1 (.ptr i (o + k * 1)) H = some (f k) := h1
      show ld1 (.ptr i (o + k * 1)) H' = _
      rw [ld1_get] at h1 ⊢
      unfold AH.read1 AH.row at h1 ⊢
      rw [hp.get hi (hb _ _ _ _ rfl)]; exact h1
theorem SlR.lt {H : AH} {v : AV} {n : Nat} {f : Nat → AV} (h : SlR H v n f) {i o m c : Nat} {op : Bool} (hv : v = .sl i o m c op) : i < H.next := by
  subst hv
  rcases h.is with ⟨h, _⟩ | ⟨i', o', c', op', h, hi, _⟩
  · cases h
  · cases h; exact hi
theorem SlR.one {H : AH} {v : AV} {n : Nat} {f : Nat → AV} (h : SlR H v n f) : v.oneCell = true := by
  rcases h.is with ⟨rfl, _⟩ | ⟨i, o, c, op, rfl, _⟩ <;> rfl
theorem apI {H : AH} {s : AV} {l : List Int} {N : Nat} (h : Ap H s l.length (iC l) 3 1 N) : SlI H s l :=
  h.slR fun k hk => by unfold iC; rw [List.getElem?_map, g_get hk]; rfl
theorem ListP.tup {H H' : AH} {l : List P} {r : AV} (h : ListP H l r H') : ∃ a e, r = .tup [a, .int .i64 e] := by
  rcases h.2 with ⟨_, rfl⟩ | ⟨_, o, rfl, _⟩ <;> exact ⟨_, _, rfl⟩
theorem OfP.tup {H H' : AH} {l : List Int} {r : AV} (h : OfP H l r H') : ∃ a e, r = .tup [a, .int .i64 e] := by
  rcases h.2 with ⟨_, rfl⟩ | ⟨_, o, _, rfl, _⟩ <;> exact ⟨_, _, rfl⟩
end PQ
end Go.Proofs.Ytnkomaedmblemaa

set_option linter.unusedSimpArgs false
set_option linter.unusedVariables false
set_option maxRecDepth 100000
namespace Go.Proofs.Ytnkomaedmblemaa
open Go.Ev Exl
namespace PQ

theorem sec_pw (a : Int) : ∀ n : Nat, List.Pairwise (· < ·) (sec a n)
  | 0 => List.Pairwise.nil
  | n + 1 => by
    rw [sec]
    refine List.pairwise_append.2 ⟨sec_pw a n, List.pairwise_singleton _ _, fun x hx y hy => ?_⟩
    rw [List.mem_singleton] at hy
    subst hy
    have := (sec_mem.1 hx).2
    exact this
theorem secs_pw {l : List P} : ∀ {fr : Int}, Ok fr l → List.Pairwise (· < ·) (secs l) ∧ ∀ x ∈ secs l, fr ≤ x := by
  induction l with
  | nil => intro fr _; exact ⟨List.Pairwise.nil, fun x hx => by cases hx⟩
  | cons p l ih =>
    intro fr h
    obtain ⟨h1, h2, h3, h4, h5⟩ := h
    obtain ⟨i1, i2⟩ := ih h5
    rw [secs]
    refine ⟨List.pairwise_append.2 ⟨sec_pw _ _, i1, fun x hx y hy => ?_⟩, fun x hx => ?_⟩
    · have q1 := (sec_mem.1 hx).2
      have q2 := i2 y hy
      omega
    · rcases List.mem_append.1 hx with hx | hx
      · have := (sec_mem.1 hx).1; omega
      · have := i2 x hx; omega
theorem secs_rise {l : List P} (h : Ok 0 l) : ∀ i, 1 ≤ i → i < (secs l).length → g (secs l) (i - 1) < g (secs l) i := fun i h1 h2 => by
  rw [g_el (by omega), g_el h2]
  exact (List.pairwise_iff_getElem.1 (secs_pw h).1) (i - 1) i (by omega) h2 (by omega)
theorem rising_ok (H : AH) (v : AV) (zs : List Int) (hs : SlI H v zs) (hz : ∀ i, 1 ≤ i → i < zs.length → g zs (i - 1) < g zs i) (hl : zs.length ≤ 1000000) : FnE look 38 [v] H fun r H' => r = .bool true ∧ H' = H := by
  refine fn_intro f38_eq (noext rfl) rfl ?_
  unfold f38c
  have hlen := fun H' => len_el (H' := H') u32 hs.is
  (repeat' (first | apply Z1 | apply Z2 | apply Z3 | apply Z4 | apply Z5 | apply Z6 | apply Z7 | apply Z8 | apply Z9 | apply Za | apply Zb | apply Zc | apply Zd | apply Ze | apply Zf | apply Zg | apply Zh | apply Zi | refine Zj (by decide) ?_ | ((first | apply Zk | apply Zl | apply Zm | apply Zn | apply Zo | apply Zp | apply Zq | apply Zr); (· (first | (simp (disch := omega) only [evl, Nat.reduceEqDiff, Nat.reduceAdd, reduceIte, reduceCtorEq] <;> exact rfl) | exact rfl)); all_goals try (refine fun (hb : _ = _) => ?_; try simp only [bvl, ne_eq, Bool.not_true, Bool.not_false, reduceCtorEq, not_true_eq_false] at hb)) | (apply Zs; · simp (disch := omega) only [evl, Nat.reduceEqDiff, reduceIte])))
  refine rc_loop (R := fun ex T' H' => ex = .exit 0 ∧ H' = H) ?_ ?_
  · refine lp_ind f38l0_eq (fun k T H' => ∃ i : Nat, k = zs.length - i ∧ 1 ≤ i ∧ gT T 0 = v ∧ gT T 3 = .int .i64 i ∧ i ≤ zs.length + 1 ∧ H' = H) _ ?_ (zs.length - 1) _ _ ?_
    · intro k T H1 hI
      obtain ⟨i, hk, hi, h0, h3, hi2, rfl⟩ := hI
      unfold f38l0
      by_cases hlt : i < zs.length
      · have hixA := ix_el hs.is (k := .i64) (e := (i : Int) - 1) (z := 1) (by omega) (by omega)
        rw [show ((i : Int) - 1).toNat = i - 1 from by omega] at hixA
        have hixB := ix_el hs.is (k := .i64) (e := (i : Int)) (z := 1) (by omega) (by omega)
        rw [Int.toNat_natCast] at hixB
        have hA : ld1 (elA 1 v (i - 1)) H1 = some (.int .i64 (g zs (i - 1))) := hs.el _ (by omega)
        have hB : ld1 (elA 1 v i) H1 = some (.int .i64 (g zs i)) := hs.el _ hlt
        have hlt2 := hz i hi hlt
        (repeat' (first | apply Z1 | apply Z2 | apply Z3 | apply Z4 | apply Z5 | apply Z6 | apply Z7 | apply Z8 | apply Z9 | apply Za | apply Zb | apply Zc | apply Zd | apply Ze | apply Zf | apply Zg | apply Zh | apply Zi | refine Zj (by decide) ?_ | ((first | apply Zk | apply Zl | apply Zm | apply Zn | apply Zo | apply Zp | apply Zq | apply Zr); (· (first | (simp (disch := omega) only [evl, Nat.reduceEqDiff, Nat.reduceAdd, reduceIte, reduceCtorEq, h0, h3, hlen, hixA, hixB, hA, hB] <;> exact rfl) | exact rfl)); all_goals try (refine fun (hb : _ = _) => ?_; try simp only [bvl, ne_eq, Bool.not_true, Bool.not_false, reduceCtorEq, not_true_eq_false] at hb)) | (apply Zs; · simp (disch := omega) only [evl, Nat.reduceEqDiff, reduceIte])))
        refine rn_nil ?_; refine lpq_n (zs.length - (i + 1)) (by omega) ?_
        exact ⟨i + 1, rfl, by omega, (by (first | (simp (disch := omega) only [evl, Nat.reduceEqDiff, Nat.reduceAdd, reduceIte, reduceCtorEq, h0] <;> exact rfl) | exact rfl)), (by (first | (simp (disch := omega) only [evl, Nat.reduceEqDiff, Nat.reduceAdd, reduceIte, reduceCtorEq] <;> exact rfl) | exact rfl)), by omega, rfl⟩
      · (repeat' (first | apply Z1 | apply Z2 | apply Z3 | apply Z4 | apply Z5 | apply Z6 | apply Z7 | apply Z8 | apply Z9 | apply Za | apply Zb | apply Zc | apply Zd | apply Ze | apply Zf | apply Zg | apply Zh | apply Zi | refine Zj (by decide) ?_ | ((first | apply Zk | apply Zl | apply Zm | apply Zn | apply Zo | apply Zp | apply Zq | apply Zr); (· (first | (simp (disch := omega) only [evl, Nat.reduceEqDiff, Nat.reduceAdd, reduceIte, reduceCtorEq, h0, h3, hlen] <;> exact rfl) | exact rfl)); all_goals try (refine fun (hb : _ = _) => ?_; try simp only [bvl, ne_eq, Bool.not_true, Bool.not_false, reduceCtorEq, not_true_eq_false] at hb)) | (apply Zs; · simp (disch := omega) only [evl, Nat.reduceEqDiff, reduceIte])))
        refine rn_nil ?_; refine lpq_e ?_
        exact ⟨rfl, rfl⟩
    · exact ⟨1, rfl, Nat.le_refl _, (by (first | (simp (disch := omega) only [evl, Nat.reduceEqDiff, Nat.reduceAdd, reduceIte, reduceCtorEq] <;> exact rfl) | exact rfl)), (by (first | (simp (disch := omega) only [evl, Nat.reduceEqDiff, Nat.reduceAdd, reduceIte, reduceCtorEq] <;> exact rfl) | exact rfl)), by omega, rfl⟩
  · rintro ex T' H' ⟨rfl, rfl⟩
    (repeat' (first | apply Z1 | apply Z2 | apply Z3 | apply Z4 | apply Z5 | apply Z6 | apply Z7 | apply Z8 | apply Z9 | apply Za | apply Zb | apply Zc | apply Zd | apply Ze | apply Zf | apply Zg | apply Zh | apply Zi | refine Zj (by decide) ?_ | ((first | apply Zk | apply Zl | apply Zm | apply Zn | apply Zo | apply Zp | apply Zq | apply Zr); (· (first | (simp (disch := omega) only [evl, Nat.reduceEqDiff, Nat.reduceAdd, reduceIte, reduceCtorEq] <;> exact rfl) | exact rfl)); all_goals try (refine fun (hb : _ = _) => ?_; try simp only [bvl, ne_eq, Bool.not_true, Bool.not_false, reduceCtorEq, not_true_eq_false] at hb)) | (apply Zs; · simp (disch := omega) only [evl, Nat.reduceEqDiff, reduceIte])))
    refine rn_nil ?_; refine fq_ret (resV_1 _ _) ⟨?_, rfl⟩
    (simp (disch := omega) only [evl, Nat.reduceEqDiff, Nat.reduceAdd, reduceIte, reduceCtorEq])
theorem among_ok (H : AH) (v : AV) (zs : List Int) (x : Int) (hs : SlI H v zs) (hx : x ∈ zs) (hl : zs.length ≤ 1000000) : FnE look 39 [v, .int .i64 x] H fun r H' => r = .bool true ∧ H' = H := by
  refine fn_intro f39_eq (noext rfl) rfl ?_
  unfold f39c
  have hlen := fun H' => len_el (H' := H') u32 hs.is
  obtain ⟨q, hq1, hq2⟩ := List.mem_iff_getElem.1 hx
  rw [← g_el hq1] at hq2
  (repeat' (first | apply Z1 | apply Z2 | apply Z3 | apply Z4 | apply Z5 | apply Z6 | apply Z7 | apply Z8 | apply Z9 | apply Za | apply Zb | apply Zc | apply Zd | apply Ze | apply Zf | apply Zg | apply Zh | apply Zi | refine Zj (by decide) ?_ | ((first | apply Zk | apply Zl | apply Zm | apply Zn | apply Zo | apply Zp | apply Zq | apply Zr); (· (first | (simp (disch := omega) only [evl, Nat.reduceEqDiff, Nat.reduceAdd, reduceIte, reduceCtorEq] <;> exact rfl) | exact rfl)); all_goals try (refine fun (hb : _ = _) => ?_; try simp only [bvl, ne_eq, Bool.not_true, Bool.not_false, reduceCtorEq, not_true_eq_false] at hb)) | (apply Zs; · simp (disch := omega) only [evl, Nat.reduceEqDiff, reduceIte])))
  refine rc_loop (R := fun ex T' H' => ex = .ret ∧ gT T' 4 = .bool true ∧ H' = H) ?_ ?_
  · refine lp_ind f39l0_eq (fun k T H' => ∃ i : Nat, k = q - i ∧ i ≤ q ∧ gT T 0 = v ∧ gT T 1 = .int .i64 x ∧ gT T 5 = .int .i64 i ∧ H' = H) _ ?_ q _ _ ?_
    · intro k T H1 hI
      obtain ⟨i, hk, hi, h0, h1, h5, rfl⟩ := hI
      unfold f39l0
      have hixB := ix_el hs.is (k := .i64) (e := (i : Int)) (z := 1) (by omega) (by omega)
      rw [Int.toNat_natCast] at hixB
      have hB : ld1 (elA 1 v i) H1 = some (.int .i64 (g zs i)) := hs.el _ (by omega)
      by_cases he : g zs i = x
      · (repeat' (first | apply Z1 | apply Z2 | apply Z3 | apply Z4 | apply Z5 | apply Z6 | apply Z7 | apply Z8 | apply Z9 | apply Za | apply Zb | apply Zc | apply Zd | apply Ze | apply Zf | apply Zg | apply Zh | apply Zi | refine Zj (by decide) ?_ | ((first | apply Zk | apply Zl | apply Zm | apply Zn | apply Zo | apply Zp | apply Zq | apply Zr); (· (first | (simp (disch := omega) only [evl, Nat.reduceEqDiff, Nat.reduceAdd, reduceIte, reduceCtorEq, h0, h1, h5, hlen, hixB, hB] <;> exact rfl) | exact rfl)); all_goals try (refine fun (hb : _ = _) => ?_; try simp only [bvl, ne_eq, Bool.not_true, Bool.not_false, reduceCtorEq, not_true_eq_false] at hb)) | (apply Zs; · simp (disch := omega) only [evl, Nat.reduceEqDiff, reduceIte])))
        refine rn_nil ?_; refine lpq_r ?_
        exact ⟨rfl, (by (first | (simp (disch := omega) only [evl, Nat.reduceEqDiff, Nat.reduceAdd, reduceIte, reduceCtorEq] <;> exact rfl) | exact rfl)), rfl⟩
      · have hiq : i < q := by
          by_cases e : i = q
          · rw [e] at he; exact absurd hq2 he
          · omega
        (repeat' (first | apply Z1 | apply Z2 | apply Z3 | apply Z4 | apply Z5 | apply Z6 | apply Z7 | apply Z8 | apply Z9 | apply Za | apply Zb | apply Zc | apply Zd | apply Ze | apply Zf | apply Zg | apply Zh | apply Zi | refine Zj (by decide) ?_ | ((first | apply Zk | apply Zl | apply Zm | apply Zn | apply Zo | apply Zp | apply Zq | apply Zr); (· (first | (simp (disch := omega) only [evl, Nat.reduceEqDiff, Nat.reduceAdd, reduceIte, reduceCtorEq, h0, h1, h5, hlen, hixB, hB] <;> exact rfl) | exact rfl)); all_goals try (refine fun (hb : _ = _) => ?_; try simp only [bvl, ne_eq, Bool.not_true, Bool.not_false, reduceCtorEq, not_true_eq_false] at hb)) | (apply Zs; · simp (disch := omega) only [evl, Nat.reduceEqDiff, reduceIte])))
        refine rn_nil ?_; refine lpq_n (q - (i + 1)) (by omega) ?_
        exact ⟨i + 1, rfl, by omega, (by (first | (simp (disch := omega) only [evl, Nat.reduceEqDiff, Nat.reduceAdd, reduceIte, reduceCtorEq, h0] <;> exact rfl) | exact rfl)), (by (first | (simp (disch := omega) only [evl, Nat.reduceEqDiff, Nat.reduceAdd, reduceIte, reduceCtorEq, h1] <;> exact rfl) | exact rfl)), (by (first | (simp (disch := omega) only [evl, Nat.reduceEqDiff, Nat.reduceAdd, reduceIte, reduceCtorEq] <;> exact rfl) | exact rfl)), rfl⟩
    · exact ⟨0, rfl, Nat.zero_le _, (by (first | (simp (disch := omega) only [evl, Nat.reduceEqDiff, Nat.reduceAdd, reduceIte, reduceCtorEq] <;> exact rfl) | exact rfl)), (by (first | (simp (disch := omega) only [evl, Nat.reduceEqDiff, Nat.reduceAdd, reduceIte, reduceCtorEq] <;> exact rfl) | exact rfl)), (by (first | (simp (disch := omega) only [evl, Nat.reduceEqDiff, Nat.reduceAdd, reduceIte, reduceCtorEq] <;> exact rfl) | exact rfl)), rfl⟩
  · rintro ex T' H' ⟨rfl, h4, rfl⟩
    (repeat' (first | apply Z1 | apply Z2 | apply Z3 | apply Z4 | apply Z5 | apply Z6 | apply Z7 | apply Z8 | apply Z9 | apply Za | apply Zb | apply Zc | apply Zd | apply Ze | apply Zf | apply Zg | apply Zh | apply Zi | refine Zj (by decide) ?_ | ((first | apply Zk | apply Zl | apply Zm | apply Zn | apply Zo | apply Zp | apply Zq | apply Zr); (· (first | (simp (disch := omega) only [evl, Nat.reduceEqDiff, Nat.reduceAdd, reduceIte, reduceCtorEq] <;> exact rfl) | exact rfl)); all_goals try (refine fun (hb : _ = _) => ?_; try simp only [bvl, ne_eq, Bool.not_true, Bool.not_false, reduceCtorEq, not_true_eq_false] at hb)) | (apply Zs; · simp (disch := omega) only [evl, Nat.reduceEqDiff, reduceIte])))
    refine rn_nil ?_; refine fq_ret (resV_1 _ _) ⟨?_, rfl⟩
    (simp (disch := omega) only [evl, Nat.reduceEqDiff, Nat.reduceAdd, reduceIte, reduceCtorEq, h4])
/-- A list of the sectors of a list is that list. -/
theorem back_list {l out : List P} (hl : Ok 0 l) (ho : Ok 0 out) (h : ∀ x, Has out x ↔ x ∈ secs l) : out = l := by
  have h2 : ∀ x, Has out x ↔ Has l x := fun x => by rw [h x, secs_mem hl.pos]
  let s : List Bool := (List.range 4096).map fun i => hasB l (i : Nat)
  have hs : ∀ i : Nat, i < 4096 → (s.getD i false = true ↔ Has l i) := fun i hi => by
    show ((List.range 4096).map fun i => hasB l (i : Nat)).getD i false = true ↔ _
    rw [List.getD_eq_getElem?_getD, List.getElem?_map, List.getElem?_range hi]
    exact hasB_iff l i
  have e1 := runs_eq hl hs
  have e2 := runs_eq ho (fun i hi => (hs i hi).trans (h2 i).symm)
  rw [← e1, ← e2]
/-- What is so of the sectors that came in. -/
structure BackC (H : AH) (u : AV) (zs : List Int) : Prop where
  hu : SlI H u zs
  hl : zs.length ≤ 500
theorem two_ok (T : Tr AV) (H : AH) (a b : AV) (xs ys : List Int) (hx : SlI H a xs) (hy : SlI H b ys) (hxy : ∀ x ∈ ys, x ∈ xs) (hlx : xs.length ≤ 100000) (hly : ys.length ≤ 100000) (t12 : gT T 12 = a) (t1 : gT T 1 = b) (t14 : gT T 14 = .int .i64 0) (T0 : Tr AV) (h5 : gT T 5 = gT T0 5) (h7 : gT T 7 = gT T0 7) (h0 : gT T 0 = gT T0 0) :
    LpE look f9b0 T H fun ex T' H' => ex = .exit 0 ∧ H' = H ∧ gT T' 12 = a ∧ gT T' 1 = b ∧ gT T' 5 = gT T0 5 ∧ gT T' 7 = gT T0 7 ∧ gT T' 0 = gT T0 0 := by
  have hlen := fun H' => len_el (H' := H') u32 hy.is
  refine lp_ind f9l0_eq (fun k T H' => ∃ i : Nat, k = ys.length - i ∧ i ≤ ys.length ∧ gT T 12 = a ∧ gT T 1 = b ∧ gT T 14 = .int .i64 i ∧ gT T 5 = gT T0 5 ∧ gT T 7 = gT T0 7 ∧ gT T 0 = gT T0 0 ∧ H' = H) _ ?_ ys.length _ _ ?_
  · intro k T H1 hI
    obtain ⟨i, hk, hi, h12, h1, h14, h5, h7, h0, rfl⟩ := hI
    unfold f9l0
    by_cases hlt : i < ys.length
    · have hixB := ix_el hy.is (k := .i64) (e := (i : Int)) (z := 1) (by omega) (by omega)
      rw [Int.toNat_natCast] at hixB
      have hB : ld1 (elA 1 b i) H1 = some (.int .i64 (g ys i)) := hy.el _ hlt
      (repeat' (first | apply Z1 | apply Z2 | apply Z3 | apply Z4 | apply Z5 | apply Z6 | apply Z7 | apply Z8 | apply Z9 | apply Za | apply Zb | apply Zc | apply Zd | apply Ze | apply Zf | apply Zg | apply Zh | apply Zi | refine Zj (by decide) ?_ | ((first | apply Zk | apply Zl | apply Zm | apply Zn | apply Zo | apply Zp | apply Zq | apply Zr); (· (first | (simp (disch := omega) only [evl, Nat.reduceEqDiff, Nat.reduceAdd, reduceIte, reduceCtorEq, h12, h1, h14, hlen, hixB, hB] <;> exact rfl) | exact rfl)); all_goals try (refine fun (hb : _ = _) => ?_; try simp only [bvl, ne_eq, Bool.not_true, Bool.not_false, reduceCtorEq, not_true_eq_false] at hb)) | (apply Zs; · simp (disch := omega) only [evl, Nat.reduceEqDiff, reduceIte])))
      refine rk_cl (by (simp (disch := omega) only [evl, Nat.reduceEqDiff, Nat.reduceAdd, reduceIte, reduceCtorEq, h12, h1, h14]); exact among_ok H1 a xs (g ys i) hx (hxy _ (g_mem hlt)) (by omega)) ?_
      rintro r H2 ⟨rfl, hH2⟩
      cases hH2
      simp only [hOut_f]
      (repeat' (first | apply Z1 | apply Z2 | apply Z3 | apply Z4 | apply Z5 | apply Z6 | apply Z7 | apply Z8 | apply Z9 | apply Za | apply Zb | apply Zc | apply Zd | apply Ze | apply Zf | apply Zg | apply Zh | apply Zi | refine Zj (by decide) ?_ | ((first | apply Zk | apply Zl | apply Zm | apply Zn | apply Zo | apply Zp | apply Zq | apply Zr); (· (first | (simp (disch := omega) only [evl, Nat.reduceEqDiff, Nat.reduceAdd, reduceIte, reduceCtorEq, h14] <;> exact rfl) | exact rfl)); all_goals try (refine fun (hb : _ = _) => ?_; try simp only [bvl, ne_eq, Bool.not_true, Bool.not_false, reduceCtorEq, not_true_eq_false] at hb)) | (apply Zs; · simp (disch := omega) only [evl, Nat.reduceEqDiff, reduceIte])))
      refine rn_nil ?_; refine lpq_n (ys.length - (i + 1)) (by omega) ?_
      exact ⟨i + 1, rfl, by omega, (by (first | (simp (disch := omega) only [evl, Nat.reduceEqDiff, Nat.reduceAdd, reduceIte, reduceCtorEq, h12] <;> exact rfl) | exact rfl)), (by (first | (simp (disch := omega) only [evl, Nat.reduceEqDiff, Nat.reduceAdd, reduceIte, reduceCtorEq, h1] <;> exact rfl) | exact rfl)), (by (first | (simp (disch := omega) only [evl, Nat.reduceEqDiff, Nat.reduceAdd, reduceIte, reduceCtorEq, h14] <;> exact rfl) | exact rfl)), (by (first | (simp (disch := omega) only [evl, Nat.reduceEqDiff, Nat.reduceAdd, reduceIte, reduceCtorEq, h5] <;> exact rfl) | exact rfl)), (by (first | (simp (disch := omega) only [evl, Nat.reduceEqDiff, Nat.reduceAdd, reduceIte, reduceCtorEq, h7] <;> exact rfl) | exact rfl)), (by (first | (simp (disch := omega) only [evl, Nat.reduceEqDiff, Nat.reduceAdd, reduceIte, reduceCtorEq, h0] <;> exact rfl) | exact rfl)), rfl⟩
    · (repeat' (first | apply Z1 | apply Z2 | apply Z3 | apply Z4 | apply Z5 | apply Z6 | apply Z7 | apply Z8 | apply Z9 | apply Za | apply Zb | apply Zc | apply Zd | apply Ze | apply Zf | apply Zg | apply Zh | apply Zi | refine Zj (by decide) ?_ | ((first | apply Zk | apply Zl | apply Zm | apply Zn | apply Zo | apply Zp | apply Zq | apply Zr); (· (first | (simp (disch := omega) only [evl, Nat.reduceEqDiff, Nat.reduceAdd, reduceIte, reduceCtorEq, h1, h14, hlen] <;> exact rfl) | exact rfl)); all_goals try (refine fun (hb : _ = _) => ?_; try simp only [bvl, ne_eq, Bool.not_true, Bool.not_false, reduceCtorEq, not_true_eq_false] at hb)) | (apply Zs; · simp (disch := omega) only [evl, Nat.reduceEqDiff, reduceIte])))
      refine rn_nil ?_; refine lpq_e ?_
      exact ⟨rfl, rfl, (by (first | (simp (disch := omega) only [evl, Nat.reduceEqDiff, Nat.reduceAdd, reduceIte, reduceCtorEq, h12] <;> exact rfl) | exact rfl)), (by (first | (simp (disch := omega) only [evl, Nat.reduceEqDiff, Nat.reduceAdd, reduceIte, reduceCtorEq, h1] <;> exact rfl) | exact rfl)), (by (first | (simp (disch := omega) only [evl, Nat.reduceEqDiff, Nat.reduceAdd, reduceIte, reduceCtorEq, h5] <;> exact rfl) | exact rfl)), (by (first | (simp (disch := omega) only [evl, Nat.reduceEqDiff, Nat.reduceAdd, reduceIte, reduceCtorEq, h7] <;> exact rfl) | exact rfl)), (by (first | (simp (disch := omega) only [evl, Nat.reduceEqDiff, Nat.reduceAdd, reduceIte, reduceCtorEq, h0] <;> exact rfl) | exact rfl))⟩
  · exact ⟨0, rfl, Nat.zero_le _, t12, t1, t14, h5, h7, h0, rfl⟩
theorem two2_ok (T : Tr AV) (H : AH) (a b : AV) (xs ys : List Int) (hx : SlI H a xs) (hy : SlI H b ys) (hxy : ∀ x ∈ xs, x ∈ ys) (hlx : xs.length ≤ 100000) (hly : ys.length ≤ 100000) (t12 : gT T 12 = a) (t1 : gT T 1 = b) (t15 : gT T 15 = .int .i64 0) (T0 : Tr AV) (h5 : gT T 5 = gT T0 5) (h7 : gT T 7 = gT T0 7) (h0 : gT T 0 = gT T0 0) :
    LpE look f9b1 T H fun ex T' H' => ex = .exit 2 ∧ H' = H ∧ gT T' 5 = gT T0 5 ∧ gT T' 7 = gT T0 7 ∧ gT T' 0 = gT T0 0 := by
  have hlen := fun H' => len_el (H' := H') u32 hx.is
  refine lp_ind f9l1_eq (fun k T H' => ∃ i : Nat, k = xs.length - i ∧ i ≤ xs.length ∧ gT T 12 = a ∧ gT T 1 = b ∧ gT T 15 = .int .i64 i ∧ gT T 5 = gT T0 5 ∧ gT T 7 = gT T0 7 ∧ gT T 0 = gT T0 0 ∧ H' = H) _ ?_ xs.length _ _ ?_
  · intro k T H1 hI
    obtain ⟨i, hk, hi, h12, h1, h14, h5, h7, h0, rfl⟩ := hI
    unfold f9l1
    by_cases hlt : i < xs.length
    · have hixB := ix_el hx.is (k := .i64) (e := (i : Int)) (z := 1) (by omega) (by omega)
      rw [Int.toNat_natCast] at hixB
      have hB : ld1 (elA 1 a i) H1 = some (.int .i64 (g xs i)) := hx.el _ hlt
      (repeat' (first | apply Z1 | apply Z2 | apply Z3 | apply Z4 | apply Z5 | apply Z6 | apply Z7 | apply Z8 | apply Z9 | apply Za | apply Zb | apply Zc | apply Zd | apply Ze | apply Zf | apply Zg | apply Zh | apply Zi | refine Zj (by decide) ?_ | ((first | apply Zk | apply Zl | apply Zm | apply Zn | apply Zo | apply Zp | apply Zq | apply Zr); (· (first | (simp (disch := omega) only [evl, Nat.reduceEqDiff, Nat.reduceAdd, reduceIte, reduceCtorEq, h12, h1, h14, hlen, hixB, hB] <;> exact rfl) | exact rfl)); all_goals try (refine fun (hb : _ = _) => ?_; try simp only [bvl, ne_eq, Bool.not_true, Bool.not_false, reduceCtorEq, not_true_eq_false] at hb)) | (apply Zs; · simp (disch := omega) only [evl, Nat.reduceEqDiff, reduceIte])))
      refine rk_cl (by (simp (disch := omega) only [evl, Nat.reduceEqDiff, Nat.reduceAdd, reduceIte, reduceCtorEq, h12, h1, h14]); exact among_ok H1 b ys (g xs i) hy (hxy _ (g_mem hlt)) (by omega)) ?_
      rintro r H2 ⟨rfl, hH2⟩
      cases hH2
      simp only [hOut_f]
      (repeat' (first | apply Z1 | apply Z2 | apply Z3 | apply Z4 | apply Z5 | apply Z6 | apply Z7 | apply Z8 | apply Z9 | apply Za | apply Zb | apply Zc | apply Zd | apply Ze | apply Zf | apply Zg | apply Zh | apply Zi | refine Zj (by decide) ?_ | ((first | apply Zk | apply Zl | apply Zm | apply Zn | apply Zo | apply Zp | apply Zq | apply Zr); (· (first | (simp (disch := omega) only [evl, Nat.reduceEqDiff, Nat.reduceAdd, reduceIte, reduceCtorEq, h14] <;> exact rfl) | exact rfl)); all_goals try (refine fun (hb : _ = _) => ?_; try simp only [bvl, ne_eq, Bool.not_true, Bool.not_false, reduceCtorEq, not_true_eq_false] at hb)) | (apply Zs; · simp (disch := omega) only [evl, Nat.reduceEqDiff, reduceIte])))
      refine rn_nil ?_; refine lpq_n (xs.length - (i + 1)) (by omega) ?_
      exact ⟨i + 1, rfl, by omega, (by (first | (simp (disch := omega) only [evl, Nat.reduceEqDiff, Nat.reduceAdd, reduceIte, reduceCtorEq, h12] <;> exact rfl) | exact rfl)), (by (first | (simp (disch := omega) only [evl, Nat.reduceEqDiff, Nat.reduceAdd, reduceIte, reduceCtorEq, h1] <;> exact rfl) | exact rfl)), (by (first | (simp (disch := omega) only [evl, Nat.reduceEqDiff, Nat.reduceAdd, reduceIte, reduceCtorEq, h14] <;> exact rfl) | exact rfl)), (by (first | (simp (disch := omega) only [evl, Nat.reduceEqDiff, Nat.reduceAdd, reduceIte, reduceCtorEq, h5] <;> exact rfl) | exact rfl)), (by (first | (simp (disch := omega) only [evl, Nat.reduceEqDiff, Nat.reduceAdd, reduceIte, reduceCtorEq, h7] <;> exact rfl) | exact rfl)), (by (first | (simp (disch := omega) only [evl, Nat.reduceEqDiff, Nat.reduceAdd, reduceIte, reduceCtorEq, h0] <;> exact rfl) | exact rfl)), rfl⟩
    · (repeat' (first | apply Z1 | apply Z2 | apply Z3 | apply Z4 | apply Z5 | apply Z6 | apply Z7 | apply Z8 | apply Z9 | apply Za | apply Zb | apply Zc | apply Zd | apply Ze | apply Zf | apply Zg | apply Zh | apply Zi | refine Zj (by decide) ?_ | ((first | apply Zk | apply Zl | apply Zm | apply Zn | apply Zo | apply Zp | apply Zq | apply Zr); (· (first | (simp (disch := omega) only [evl, Nat.reduceEqDiff, Nat.reduceAdd, reduceIte, reduceCtorEq, h12, h14, hlen] <;> exact rfl) | exact rfl)); all_goals try (refine fun (hb : _ = _) => ?_; try simp only [bvl, ne_eq, Bool.not_true, Bool.not_false, reduceCtorEq, not_true_eq_false] at hb)) | (apply Zs; · simp (disch := omega) only [evl, Nat.reduceEqDiff, reduceIte])))
      refine rn_nil ?_; refine lpq_e ?_
      exact ⟨rfl, rfl, (by (first | (simp (disch := omega) only [evl, Nat.reduceEqDiff, Nat.reduceAdd, reduceIte, reduceCtorEq, h5] <;> exact rfl) | exact rfl)), (by (first | (simp (disch := omega) only [evl, Nat.reduceEqDiff, Nat.reduceAdd, reduceIte, reduceCtorEq, h7] <;> exact rfl) | exact rfl)), (by (first | (simp (disch := omega) only [evl, Nat.reduceEqDiff, Nat.reduceAdd, reduceIte, reduceCtorEq, h0] <;> exact rfl) | exact rfl))⟩
  · exact ⟨0, rfl, Nat.zero_le _, t12, t1, t15, h5, h7, h0, rfl⟩
end PQ
end Go.Proofs.Ytnkomaedmblemaa

set_option linter.unusedSimpArgs false
set_option linter.unusedVariables false
set_option maxRecDepth 100000
namespace Go.Proofs.Ytnkomaedmblemaa
open Go.Ev Exl
namespace PQ

set_option maxHeartbeats 16000000 in
theorem back_ok (H : AH) (v u : AV) (l : List P) (zs : List Int) (hs : SlX H v l) (hu : SlI H u zs) (hh : H.hide = []) (hlo : H.lo ≤ H.next) (hl : l.length ≤ 9223372036854775807) (hz : zs.length ≤ 9223372036854775807) :
    FnE look 9 [v, u] H fun r H' => r = .bool true ∧ HX H H' := by
  refine fn_intro f9_eq (noext rfl) rfl ?_
  unfold f9c
  have hlen := fun H' => len_el (H' := H') u22 hs.is
  have hlen2 := fun H' => len_el (H' := H') u32 hu.is
  (repeat' (first | apply Z1 | apply Z2 | apply Z3 | apply Z4 | apply Z5 | apply Z6 | apply Z7 | apply Z8 | apply Z9 | apply Za | apply Zb | apply Zc | apply Zd | apply Ze | apply Zf | apply Zg | apply Zh | apply Zi | refine Zj (by decide) ?_ | ((first | apply Zk | apply Zl | apply Zm | apply Zn | apply Zo | apply Zp | apply Zq | apply Zr); (· (first | (simp (disch := omega) only [evl, Nat.reduceEqDiff, Nat.reduceAdd, reduceIte, reduceCtorEq] <;> exact rfl) | exact rfl)); all_goals try (refine fun (hb : _ = _) => ?_; try simp only [bvl, ne_eq, Bool.not_true, Bool.not_false, reduceCtorEq, not_true_eq_false] at hb)) | (apply Zs; · simp (disch := omega) only [evl, Nat.reduceEqDiff, reduceIte])))
  refine rk_cl (by (simp (disch := omega) only [evl, Nat.reduceEqDiff, Nat.reduceAdd, reduceIte, reduceCtorEq]); exact known_ok H) ?_
  rintro r H1 ⟨rfl, hH1⟩
  cases hH1
  simp only [hOut_f]
  by_cases hbig : 300 < l.length
  · (repeat' (first | apply Z1 | apply Z2 | apply Z3 | apply Z4 | apply Z5 | apply Z6 | apply Z7 | apply Z8 | apply Z9 | apply Za | apply Zb | apply Zc | apply Zd | apply Ze | apply Zf | apply Zg | apply Zh | apply Zi | refine Zj (by decide) ?_ | ((first | apply Zk | apply Zl | apply Zm | apply Zn | apply Zo | apply Zp | apply Zq | apply Zr); (· (first | (simp (disch := omega) only [evl, Nat.reduceEqDiff, Nat.reduceAdd, reduceIte, reduceCtorEq, hlen, hlen2] <;> exact rfl) | exact rfl)); all_goals try (refine fun (hb : _ = _) => ?_; try simp only [bvl, ne_eq, Bool.not_true, Bool.not_false, reduceCtorEq, not_true_eq_false] at hb)) | (apply Zs; · simp (disch := omega) only [evl, Nat.reduceEqDiff, reduceIte])))
    refine rn_nil ?_; refine fq_ret (resV_1 _ _) ⟨?_, HX.refl _⟩
    (simp (disch := omega) only [evl, Nat.reduceEqDiff, Nat.reduceAdd, reduceIte, reduceCtorEq])
  by_cases hbig2 : 500 < zs.length
  · (repeat' (first | apply Z1 | apply Z2 | apply Z3 | apply Z4 | apply Z5 | apply Z6 | apply Z7 | apply Z8 | apply Z9 | apply Za | apply Zb | apply Zc | apply Zd | apply Ze | apply Zf | apply Zg | apply Zh | apply Zi | refine Zj (by decide) ?_ | ((first | apply Zk | apply Zl | apply Zm | apply Zn | apply Zo | apply Zp | apply Zq | apply Zr); (· (first | (simp (disch := omega) only [evl, Nat.reduceEqDiff, Nat.reduceAdd, reduceIte, reduceCtorEq, hlen, hlen2] <;> exact rfl) | exact rfl)); all_goals try (refine fun (hb : _ = _) => ?_; try simp only [bvl, ne_eq, Bool.not_true, Bool.not_false, reduceCtorEq, not_true_eq_false] at hb)) | (apply Zs; · simp (disch := omega) only [evl, Nat.reduceEqDiff, reduceIte])))
    refine rn_nil ?_; refine fq_ret (resV_1 _ _) ⟨?_, HX.refl _⟩
    (simp (disch := omega) only [evl, Nat.reduceEqDiff, Nat.reduceAdd, reduceIte, reduceCtorEq])
  -- the second half
  have rest : ∀ (T : Tr AV) (H1 : AH) (e : Int), gT T 0 = v → gT T 1 = u → gT T 5 = .bool true → gT T 7 = .int .i64 e → ((Ok 0 l ∧ e = 0) ∨ (¬ Ok 0 l ∧ e = 2)) → HX H H1 →
      RC look (.seq (.reg f9r9)
  (.seq (.seq (.reg f9r10)
  (.cond (tO 64) (.seq (.reg f9r11)
  .ret) .skip))
  (.seq (.reg f9r12)
  (.seq (.seq (.reg f9r13)
  (.cond (tO 93) (.seq (.reg f9r14)
  .ret) .skip))
  (.seq (.seq (.reg f9r15)
  (.block 0 (.loop f9b0)))
  (.seq (.seq (.reg f9r20)
  (.block 2 (.loop f9b1)))
  (.seq (.reg f9r25)
  .ret))))))) [] T H1 (FnQ look [.tmp 4] fun r H' => r = .bool true ∧ HX H H') := by
    intro T H1 e t0 t1 t5 t7 he hx1
    have hn1 := hx1.next
    have hs1 : SlX H1 v l := hs.hx hx1
    have hu1 : SlI H1 u zs := hu.hx hx1
    have hh1 : H1.hide = [] := hx1.hide.trans hh
    have hlo1 : H1.lo ≤ H1.next := by rw [hx1.lo]; omega
    (repeat' (first | apply Z1 | apply Z2 | apply Z3 | apply Z4 | apply Z5 | apply Z6 | apply Z7 | apply Z8 | apply Z9 | apply Za | apply Zb | apply Zc | apply Zd | apply Ze | apply Zf | apply Zg | apply Zh | apply Zi | refine Zj (by decide) ?_ | ((first | apply Zk | apply Zl | apply Zm | apply Zn | apply Zo | apply Zp | apply Zq | apply Zr); (· (first | (simp (disch := omega) only [evl, Nat.reduceEqDiff, Nat.reduceAdd, reduceIte, reduceCtorEq, t0, t1] <;> exact rfl) | exact rfl)); all_goals try (refine fun (hb : _ = _) => ?_; try simp only [bvl, ne_eq, Bool.not_true, Bool.not_false, reduceCtorEq, not_true_eq_false] at hb)) | (apply Zs; · simp (disch := omega) only [evl, Nat.reduceEqDiff, reduceIte])))
    refine rk_cl (by (simp (disch := omega) only [evl, Nat.reduceEqDiff, Nat.reduceAdd, reduceIte, reduceCtorEq, t1]); exact of_ok H1 u zs hu1 (SlR.one hu1) hh1 hlo1 (by omega)) ?_
    rintro r H2 ⟨hx2, ⟨⟨x, hx, hxb⟩, rfl⟩ | ⟨hall, s, out, rfl, hap, hok, hhas⟩⟩
    · simp only [hOut_f]
      have hxA := hx1.trans hx2
      have hnA := hxA.next
      have hl0 : ∀ H', fstO (builtinF .len look [22] [.nilSl] H') = some (.int .i64 0) := fun H' => len_el (n := 0) u22 (.inl ⟨rfl, rfl⟩ : IsSl H .nilSl 0)
      (repeat' (first | apply Z1 | apply Z2 | apply Z3 | apply Z4 | apply Z5 | apply Z6 | apply Z7 | apply Z8 | apply Z9 | apply Za | apply Zb | apply Zc | apply Zd | apply Ze | apply Zf | apply Zg | apply Zh | apply Zi | refine Zj (by decide) ?_ | ((first | apply Zk | apply Zl | apply Zm | apply Zn | apply Zo | apply Zp | apply Zq | apply Zr); (· (first | (simp (disch := omega) only [evl, Nat.reduceEqDiff, Nat.reduceAdd, reduceIte, reduceCtorEq, t0, t5, t7] <;> exact rfl) | exact rfl)); all_goals try (refine fun (hb : _ = _) => ?_; try simp only [bvl, ne_eq, Bool.not_true, Bool.not_false, reduceCtorEq, not_true_eq_false] at hb)) | (apply Zs; · simp (disch := omega) only [evl, Nat.reduceEqDiff, reduceIte])))
      refine rk_cl (by (simp (disch := omega) only [evl, Nat.reduceEqDiff, Nat.reduceAdd, reduceIte, reduceCtorEq, t0]); exact check_ok H2 v l (hs.hx hxA) (hxA.hide.trans hh) (by rw [hxA.lo]; omega) (by omega)) ?_
      rintro r H3 ⟨hx3, hc⟩
      simp only [hOut_f]
      obtain rfl : r = .int .i64 e := by
        rcases hc with ⟨h, rfl⟩ | ⟨h, rfl⟩ <;> rcases he with ⟨h', rfl⟩ | ⟨h', rfl⟩
        · rfl
        · exact absurd h h'
        · exact absurd h' h
        · rfl
      clear hc
      (repeat' (first | apply Z1 | apply Z2 | apply Z3 | apply Z4 | apply Z5 | apply Z6 | apply Z7 | apply Z8 | apply Z9 | apply Za | apply Zb | apply Zc | apply Zd | apply Ze | apply Zf | apply Zg | apply Zh | apply Zi | refine Zj (by decide) ?_ | ((first | apply Zk | apply Zl | apply Zm | apply Zn | apply Zo | apply Zp | apply Zq | apply Zr); (· (first | (simp (disch := omega) only [evl, Nat.reduceEqDiff, Nat.reduceAdd, reduceIte, reduceCtorEq, t7, hl0] <;> exact rfl) | exact rfl)); all_goals try (refine fun (hb : _ = _) => ?_; try simp only [bvl, ne_eq, Bool.not_true, Bool.not_false, reduceCtorEq, not_true_eq_false] at hb)) | (apply Zs; · simp (disch := omega) only [evl, Nat.reduceEqDiff, reduceIte])))
      refine rn_nil ?_; refine fq_ret (resV_1 _ _) ⟨?_, hxA.trans hx3⟩
      (simp (disch := omega) only [evl, Nat.reduceEqDiff, Nat.reduceAdd, reduceIte, reduceCtorEq])
    · simp only [hOut_f]
      have hxA := hx1.trans hx2
      have hnA := hxA.next
      have hsm : SlX H2 s out := hap.slZ
      have hol := (Ok_bd2 hok (Int.le_refl _)).2
      (repeat' (first | apply Z1 | apply Z2 | apply Z3 | apply Z4 | apply Z5 | apply Z6 | apply Z7 | apply Z8 | apply Z9 | apply Za | apply Zb | apply Zc | apply Zd | apply Ze | apply Zf | apply Zg | apply Zh | apply Zi | refine Zj (by decide) ?_ | ((first | apply Zk | apply Zl | apply Zm | apply Zn | apply Zo | apply Zp | apply Zq | apply Zr); (· (first | (simp (disch := omega) only [evl, Nat.reduceEqDiff, Nat.reduceAdd, reduceIte, reduceCtorEq, t5, t7] <;> exact rfl) | exact rfl)); all_goals try (refine fun (hb : _ = _) => ?_; try simp only [bvl, ne_eq, Bool.not_true, Bool.not_false, reduceCtorEq, not_true_eq_false] at hb)) | (apply Zs; · simp (disch := omega) only [evl, Nat.reduceEqDiff, reduceIte])))
      refine rk_cl (by (simp (disch := omega) only [evl, Nat.reduceEqDiff, Nat.reduceAdd, reduceIte, reduceCtorEq]); exact list_ok H2 s out hsm (hxA.hide.trans hh) (by rw [hxA.lo]; omega) (by omega)) ?_
      rintro r H3 ⟨hx3, ⟨hno, _⟩ | ⟨_, o, rfl, hapo⟩⟩
      · exact absurd hok hno
      simp only [hOut_f]
      have hxB := hxA.trans hx3
      have hnB := hxB.next
      have hso : SlI H3 o (secs out) := apI hapo
      have hsl := secs_len hok.pos
      have htt := Ok.tot (by omega) hok
      (repeat' (first | apply Z1 | apply Z2 | apply Z3 | apply Z4 | apply Z5 | apply Z6 | apply Z7 | apply Z8 | apply Z9 | apply Za | apply Zb | apply Zc | apply Zd | apply Ze | apply Zf | apply Zg | apply Zh | apply Zi | refine Zj (by decide) ?_ | ((first | apply Zk | apply Zl | apply Zm | apply Zn | apply Zo | apply Zp | apply Zq | apply Zr); (· (first | (simp (disch := omega) only [evl, Nat.reduceEqDiff, Nat.reduceAdd, reduceIte, reduceCtorEq] <;> exact rfl) | exact rfl)); all_goals try (refine fun (hb : _ = _) => ?_; try simp only [bvl, ne_eq, Bool.not_true, Bool.not_false, reduceCtorEq, not_true_eq_false] at hb)) | (apply Zs; · simp (disch := omega) only [evl, Nat.reduceEqDiff, reduceIte])))
      refine rk_cl (by (simp (disch := omega) only [evl, Nat.reduceEqDiff, Nat.reduceAdd, reduceIte, reduceCtorEq]); exact check_ok H3 s out (hsm.hx hx3) (hxB.hide.trans hh) (by rw [hxB.lo]; omega) (by omega)) ?_
      rintro r H4 ⟨hx4, ⟨_, rfl⟩ | ⟨hno, _⟩⟩
      rotate_left
      · exact absurd hok hno
      simp only [hOut_f]
      have hxC := hxB.trans hx4
      have hnC := hxC.next
      have hso4 := hso.hx hx4
      (repeat' (first | apply Z1 | apply Z2 | apply Z3 | apply Z4 | apply Z5 | apply Z6 | apply Z7 | apply Z8 | apply Z9 | apply Za | apply Zb | apply Zc | apply Zd | apply Ze | apply Zf | apply Zg | apply Zh | apply Zi | refine Zj (by decide) ?_ | ((first | apply Zk | apply Zl | apply Zm | apply Zn | apply Zo | apply Zp | apply Zq | apply Zr); (· (first | (simp (disch := omega) only [evl, Nat.reduceEqDiff, Nat.reduceAdd, reduceIte, reduceCtorEq] <;> exact rfl) | exact rfl)); all_goals try (refine fun (hb : _ = _) => ?_; try simp only [bvl, ne_eq, Bool.not_true, Bool.not_false, reduceCtorEq, not_true_eq_false] at hb)) | (apply Zs; · simp (disch := omega) only [evl, Nat.reduceEqDiff, reduceIte])))
      refine rk_cl (by (simp (disch := omega) only [evl, Nat.reduceEqDiff, Nat.reduceAdd, reduceIte, reduceCtorEq]); exact rising_ok H4 o (secs out) hso4 (secs_rise hok) (by omega)) ?_
      rintro r H5 ⟨rfl, hH5⟩
      cases hH5
      simp only [hOut_f]
      have hmem : ∀ x, x ∈ secs out ↔ x ∈ zs := fun x => by rw [secs_mem hok.pos]; exact hhas x
      have hu4 : SlI H4 u zs := hu.hx hxC
      (repeat' (first | apply Z1 | apply Z2 | apply Z3 | apply Z4 | apply Z5 | apply Z6 | apply Z7 | apply Z8 | apply Z9 | apply Za | apply Zb | apply Zc | apply Zd | apply Ze | apply Zf | apply Zg | apply Zh | apply Zi | refine Zj (by decide) ?_ | ((first | apply Zk | apply Zl | apply Zm | apply Zn | apply Zo | apply Zp | apply Zq | apply Zr); (· (first | (simp (disch := omega) only [evl, Nat.reduceEqDiff, Nat.reduceAdd, reduceIte, reduceCtorEq] <;> exact rfl) | exact rfl)); all_goals try (refine fun (hb : _ = _) => ?_; try simp only [bvl, ne_eq, Bool.not_true, Bool.not_false, reduceCtorEq, not_true_eq_false] at hb)) | (apply Zs; · simp (disch := omega) only [evl, Nat.reduceEqDiff, reduceIte])))
      refine rc_loop (two_ok _ H4 o u (secs out) zs hso4 hu4 (fun x hx => (hmem x).2 hx) (by omega) (by omega) (by (first | (simp (disch := omega) only [evl, Nat.reduceEqDiff, Nat.reduceAdd, reduceIte, reduceCtorEq] <;> exact rfl) | exact rfl)) (by (first | (simp (disch := omega) only [evl, Nat.reduceEqDiff, Nat.reduceAdd, reduceIte, reduceCtorEq, t1] <;> exact rfl) | exact rfl)) (by (first | (simp (disch := omega) only [evl, Nat.reduceEqDiff, Nat.reduceAdd, reduceIte, reduceCtorEq] <;> exact rfl) | exact rfl)) T (by (first | (simp (disch := omega) only [evl, Nat.reduceEqDiff, Nat.reduceAdd, reduceIte, reduceCtorEq] <;> exact rfl) | exact rfl)) (by (first | (simp (disch := omega) only [evl, Nat.reduceEqDiff, Nat.reduceAdd, reduceIte, reduceCtorEq] <;> exact rfl) | exact rfl)) (by (first | (simp (disch := omega) only [evl, Nat.reduceEqDiff, Nat.reduceAdd, reduceIte, reduceCtorEq] <;> exact rfl) | exact rfl))) ?_
      rintro ex T1 H5 ⟨rfl, hH5, h12, h1, h5, h7, h0⟩
      cases hH5
      (repeat' (first | apply Z1 | apply Z2 | apply Z3 | apply Z4 | apply Z5 | apply Z6 | apply Z7 | apply Z8 | apply Z9 | apply Za | apply Zb | apply Zc | apply Zd | apply Ze | apply Zf | apply Zg | apply Zh | apply Zi | refine Zj (by decide) ?_ | ((first | apply Zk | apply Zl | apply Zm | apply Zn | apply Zo | apply Zp | apply Zq | apply Zr); (· (first | (simp (disch := omega) only [evl, Nat.reduceEqDiff, Nat.reduceAdd, reduceIte, reduceCtorEq] <;> exact rfl) | exact rfl)); all_goals try (refine fun (hb : _ = _) => ?_; try simp only [bvl, ne_eq, Bool.not_true, Bool.not_false, reduceCtorEq, not_true_eq_false] at hb)) | (apply Zs; · simp (disch := omega) only [evl, Nat.reduceEqDiff, reduceIte])))
      refine rc_loop (two2_ok _ H4 o u (secs out) zs hso4 hu4 (fun x hx => (hmem x).1 hx) (by omega) (by omega) (by (first | (simp (disch := omega) only [evl, Nat.reduceEqDiff, Nat.reduceAdd, reduceIte, reduceCtorEq, h12] <;> exact rfl) | exact rfl)) (by (first | (simp (disch := omega) only [evl, Nat.reduceEqDiff, Nat.reduceAdd, reduceIte, reduceCtorEq, h1] <;> exact rfl) | exact rfl)) (by (first | (simp (disch := omega) only [evl, Nat.reduceEqDiff, Nat.reduceAdd, reduceIte, reduceCtorEq] <;> exact rfl) | exact rfl)) T (by (first | (simp (disch := omega) only [evl, Nat.reduceEqDiff, Nat.reduceAdd, reduceIte, reduceCtorEq, h5] <;> exact rfl) | exact rfl)) (by (first | (simp (disch := omega) only [evl, Nat.reduceEqDiff, Nat.reduceAdd, reduceIte, reduceCtorEq, h7] <;> exact rfl) | exact rfl)) (by (first | (simp (disch := omega) only [evl, Nat.reduceEqDiff, Nat.reduceAdd, reduceIte, reduceCtorEq, h0] <;> exact rfl) | exact rfl))) ?_
      rintro ex T2 H5 ⟨rfl, hH5, h5', h7', h0'⟩
      cases hH5
      rw [t5] at h5'
      rw [t7] at h7'
      rw [t0] at h0'
      (repeat' (first | apply Z1 | apply Z2 | apply Z3 | apply Z4 | apply Z5 | apply Z6 | apply Z7 | apply Z8 | apply Z9 | apply Za | apply Zb | apply Zc | apply Zd | apply Ze | apply Zf | apply Zg | apply Zh | apply Zi | refine Zj (by decide) ?_ | ((first | apply Zk | apply Zl | apply Zm | apply Zn | apply Zo | apply Zp | apply Zq | apply Zr); (· (first | (simp (disch := omega) only [evl, Nat.reduceEqDiff, Nat.reduceAdd, reduceIte, reduceCtorEq, h0', h5', h7'] <;> exact rfl) | exact rfl)); all_goals try (refine fun (hb : _ = _) => ?_; try simp only [bvl, ne_eq, Bool.not_true, Bool.not_false, reduceCtorEq, not_true_eq_false] at hb)) | (apply Zs; · simp (disch := omega) only [evl, Nat.reduceEqDiff, reduceIte])))
      refine rk_cl (by (simp (disch := omega) only [evl, Nat.reduceEqDiff, Nat.reduceAdd, reduceIte, reduceCtorEq, h0']); exact check_ok H4 v l (hs.hx hxC) (hxC.hide.trans hh) (by rw [hxC.lo]; omega) (by omega)) ?_
      rintro r H6 ⟨hx6, hc⟩
      simp only [hOut_f]
      obtain rfl : r = .int .i64 e := by
        rcases hc with ⟨h, rfl⟩ | ⟨h, rfl⟩ <;> rcases he with ⟨h', rfl⟩ | ⟨h', rfl⟩
        · rfl
        · exact absurd h h'
        · exact absurd h' h
        · rfl
      clear hc
      (repeat' (first | apply Z1 | apply Z2 | apply Z3 | apply Z4 | apply Z5 | apply Z6 | apply Z7 | apply Z8 | apply Z9 | apply Za | apply Zb | apply Zc | apply Zd | apply Ze | apply Zf | apply Zg | apply Zh | apply Zi | refine Zj (by decide) ?_ | ((first | apply Zk | apply Zl | apply Zm | apply Zn | apply Zo | apply Zp | apply Zq | apply Zr); (· (first | (simp (disch := omega) only [evl, Nat.reduceEqDiff, Nat.reduceAdd, reduceIte, reduceCtorEq, h7'] <;> exact rfl) | exact rfl)); all_goals try (refine fun (hb : _ = _) => ?_; try simp only [bvl, ne_eq, Bool.not_true, Bool.not_false, reduceCtorEq, not_true_eq_false] at hb)) | (apply Zs; · simp (disch := omega) only [evl, Nat.reduceEqDiff, reduceIte])))
      refine rn_nil ?_; refine fq_ret (resV_1 _ _) ⟨?_, hxC.trans hx6⟩
      (simp (disch := omega) only [evl, Nat.reduceEqDiff, Nat.reduceAdd, reduceIte, reduceCtorEq])
  have Rest := Hd.mk rest
  clear rest
  (repeat' (first | apply Z1 | apply Z2 | apply Z3 | apply Z4 | apply Z5 | apply Z6 | apply Z7 | apply Z8 | apply Z9 | apply Za | apply Zb | apply Zc | apply Zd | apply Ze | apply Zf | apply Zg | apply Zh | apply Zi | refine Zj (by decide) ?_ | ((first | apply Zk | apply Zl | apply Zm | apply Zn | apply Zo | apply Zp | apply Zq | apply Zr); (· (first | (simp (disch := omega) only [evl, Nat.reduceEqDiff, Nat.reduceAdd, reduceIte, reduceCtorEq, hlen, hlen2] <;> exact rfl) | exact rfl)); all_goals try (refine fun (hb : _ = _) => ?_; try simp only [bvl, ne_eq, Bool.not_true, Bool.not_false, reduceCtorEq, not_true_eq_false] at hb)) | (apply Zs; · simp (disch := omega) only [evl, Nat.reduceEqDiff, reduceIte])))
  refine rk_cl (by (simp (disch := omega) only [evl, Nat.reduceEqDiff, Nat.reduceAdd, reduceIte, reduceCtorEq]); exact list_ok H v l hs hh hlo (by omega)) ?_
  rintro r H1 ⟨hx1, ⟨hno, rfl⟩ | ⟨hok, o, rfl, hapo⟩⟩
  · simp only [hOut_f]
    (repeat' (first | apply Z1 | apply Z2 | apply Z3 | apply Z5 | apply Z6 | apply Z7 | apply Z8 | apply Z9 | apply Za | apply Zb | apply Zc | apply Zd | apply Ze | apply Zf | apply Zg | apply Zh | apply Zi | refine Zj (by decide) ?_ | ((first | apply Zk | apply Zl | apply Zm | apply Zn | apply Zo | apply Zp | apply Zq | apply Zr); (· (first | (simp (disch := omega) only [evl, Nat.reduceEqDiff, Nat.reduceAdd, reduceIte, reduceCtorEq] <;> exact rfl) | exact rfl)); all_goals try (refine fun (hb : _ = _) => ?_; try simp only [bvl, ne_eq, Bool.not_true, Bool.not_false, reduceCtorEq, not_true_eq_false] at hb)) | (apply Zs; · simp (disch := omega) only [evl, Nat.reduceEqDiff, reduceIte])))
    refine rn_seq_n ?_
    (repeat' (first | apply Z1 | apply Z2 | apply Z3 | apply Z5 | apply Z6 | apply Z7 | apply Z8 | apply Z9 | apply Za | apply Zb | apply Zc | apply Zd | apply Ze | apply Zf | apply Zg | apply Zh | apply Zi | refine Zj (by decide) ?_ | ((first | apply Zk | apply Zl | apply Zm | apply Zn | apply Zo | apply Zp | apply Zq | apply Zr); (· (first | (simp (disch := omega) only [evl, Nat.reduceEqDiff, Nat.reduceAdd, reduceIte, reduceCtorEq] <;> exact rfl) | exact rfl)); all_goals try (refine fun (hb : _ = _) => ?_; try simp only [bvl, ne_eq, Bool.not_true, Bool.not_false, reduceCtorEq, not_true_eq_false] at hb)) | (apply Zs; · simp (disch := omega) only [evl, Nat.reduceEqDiff, reduceIte])))
    refine rn_seq_n ?_
    (repeat' (first | apply Z1 | apply Z2 | apply Z3 | apply Z5 | apply Z6 | apply Z7 | apply Z8 | apply Z9 | apply Za | apply Zb | apply Zc | apply Zd | apply Ze | apply Zf | apply Zg | apply Zh | apply Zi | refine Zj (by decide) ?_ | ((first | apply Zk | apply Zl | apply Zm | apply Zn | apply Zo | apply Zp | apply Zq | apply Zr); (· (first | (simp (disch := omega) only [evl, Nat.reduceEqDiff, Nat.reduceAdd, reduceIte, reduceCtorEq] <;> exact rfl) | exact rfl)); all_goals try (refine fun (hb : _ = _) => ?_; try simp only [bvl, ne_eq, Bool.not_true, Bool.not_false, reduceCtorEq, not_true_eq_false] at hb)) | (apply Zs; · simp (disch := omega) only [evl, Nat.reduceEqDiff, reduceIte])))
    refine rn_seq_n ?_
    exact Rest.out _ H1 2 (by (first | (simp (disch := omega) only [evl, Nat.reduceEqDiff, Nat.reduceAdd, reduceIte, reduceCtorEq] <;> exact rfl) | exact rfl)) (by (first | (simp (disch := omega) only [evl, Nat.reduceEqDiff, Nat.reduceAdd, reduceIte, reduceCtorEq] <;> exact rfl) | exact rfl)) (by (first | (simp (disch := omega) only [evl, Nat.reduceEqDiff, Nat.reduceAdd, reduceIte, reduceCtorEq] <;> exact rfl) | exact rfl)) (by (first | (simp (disch := omega) only [evl, Nat.reduceEqDiff, Nat.reduceAdd, reduceIte, reduceCtorEq] <;> exact rfl) | exact rfl)) (.inr ⟨hno, rfl⟩) hx1
  · simp only [hOut_f]
    have hn1 := hx1.next
    have hsl := secs_len hok.pos
    have htt := Ok.tot (by omega) hok
    have hso : SlI H1 o (secs l) := apI hapo
    have hlo1 : H1.lo ≤ H1.next := by rw [hx1.lo]; omega
    (repeat' (first | apply Z1 | apply Z2 | apply Z3 | apply Z5 | apply Z6 | apply Z7 | apply Z8 | apply Z9 | apply Za | apply Zb | apply Zc | apply Zd | apply Ze | apply Zf | apply Zg | apply Zh | apply Zi | refine Zj (by decide) ?_ | ((first | apply Zk | apply Zl | apply Zm | apply Zn | apply Zo | apply Zp | apply Zq | apply Zr); (· (first | (simp (disch := omega) only [evl, Nat.reduceEqDiff, Nat.reduceAdd, reduceIte, reduceCtorEq] <;> exact rfl) | exact rfl)); all_goals try (refine fun (hb : _ = _) => ?_; try simp only [bvl, ne_eq, Bool.not_true, Bool.not_false, reduceCtorEq, not_true_eq_false] at hb)) | (apply Zs; · simp (disch := omega) only [evl, Nat.reduceEqDiff, reduceIte])))
    refine rn_seq_n ?_
    (repeat' (first | apply Z1 | apply Z2 | apply Z3 | apply Z5 | apply Z6 | apply Z7 | apply Z8 | apply Z9 | apply Za | apply Zb | apply Zc | apply Zd | apply Ze | apply Zf | apply Zg | apply Zh | apply Zi | refine Zj (by decide) ?_ | ((first | apply Zk | apply Zl | apply Zm | apply Zn | apply Zo | apply Zp | apply Zq | apply Zr); (· (first | (simp (disch := omega) only [evl, Nat.reduceEqDiff, Nat.reduceAdd, reduceIte, reduceCtorEq] <;> exact rfl) | exact rfl)); all_goals try (refine fun (hb : _ = _) => ?_; try simp only [bvl, ne_eq, Bool.not_true, Bool.not_false, reduceCtorEq, not_true_eq_false] at hb)) | (apply Zs; · simp (disch := omega) only [evl, Nat.reduceEqDiff, reduceIte])))
    refine rn_seq_n ?_
    (repeat' (first | apply Z1 | apply Z2 | apply Z3 | apply Z5 | apply Z6 | apply Z7 | apply Z8 | apply Z9 | apply Za | apply Zb | apply Zc | apply Zd | apply Ze | apply Zf | apply Zg | apply Zh | apply Zi | refine Zj (by decide) ?_ | ((first | apply Zk | apply Zl | apply Zm | apply Zn | apply Zo | apply Zp | apply Zq | apply Zr); (· (first | (simp (disch := omega) only [evl, Nat.reduceEqDiff, Nat.reduceAdd, reduceIte, reduceCtorEq] <;> exact rfl) | exact rfl)); all_goals try (refine fun (hb : _ = _) => ?_; try simp only [bvl, ne_eq, Bool.not_true, Bool.not_false, reduceCtorEq, not_true_eq_false] at hb)) | (apply Zs; · simp (disch := omega) only [evl, Nat.reduceEqDiff, reduceIte])))
    refine rk_cl (by (simp (disch := omega) only [evl, Nat.reduceEqDiff, Nat.reduceAdd, reduceIte, reduceCtorEq]); exact of_ok H1 o (secs l) hso (SlR.one hso) (hx1.hide.trans hh) hlo1 (by omega)) ?_
    rintro r H2 ⟨hx2, ⟨⟨x, hx, hxb⟩, rfl⟩ | ⟨hall, s, out, rfl, hap, hoko, hhas⟩⟩
    · have := Ok.has hok x ((secs_mem hok.pos).1 hx)
      omega
    simp only [hOut_f]
    obtain rfl := back_list hok hoko hhas
    have hxA := hx1.trans hx2
    have hnA := hxA.next
    have hlens : ∀ H', fstO (builtinF .len look [32] [o] H') = some (.int .i64 (tot out)) := fun H' => by
      rw [← hsl]; exact len_el u32 hso.is
    (repeat' (first | apply Z1 | apply Z2 | apply Z3 | apply Z5 | apply Z6 | apply Z7 | apply Z8 | apply Z9 | apply Za | apply Zb | apply Zc | apply Zd | apply Ze | apply Zf | apply Zg | apply Zh | apply Zi | refine Zj (by decide) ?_ | ((first | apply Zk | apply Zl | apply Zm | apply Zn | apply Zo | apply Zp | apply Zq | apply Zr); (· (first | (simp (disch := omega) only [evl, Nat.reduceEqDiff, Nat.reduceAdd, reduceIte, reduceCtorEq] <;> exact rfl) | exact rfl)); all_goals try (refine fun (hb : _ = _) => ?_; try simp only [bvl, ne_eq, Bool.not_true, Bool.not_false, reduceCtorEq, not_true_eq_false] at hb)) | (apply Zs; · simp (disch := omega) only [evl, Nat.reduceEqDiff, reduceIte])))
    refine rn_seq_n ?_
    (repeat' (first | apply Z1 | apply Z2 | apply Z3 | apply Z5 | apply Z6 | apply Z7 | apply Z8 | apply Z9 | apply Za | apply Zb | apply Zc | apply Zd | apply Ze | apply Zf | apply Zg | apply Zh | apply Zi | refine Zj (by decide) ?_ | ((first | apply Zk | apply Zl | apply Zm | apply Zn | apply Zo | apply Zp | apply Zq | apply Zr); (· (first | (simp (disch := omega) only [evl, Nat.reduceEqDiff, Nat.reduceAdd, reduceIte, reduceCtorEq] <;> exact rfl) | exact rfl)); all_goals try (refine fun (hb : _ = _) => ?_; try simp only [bvl, ne_eq, Bool.not_true, Bool.not_false, reduceCtorEq, not_true_eq_false] at hb)) | (apply Zs; · simp (disch := omega) only [evl, Nat.reduceEqDiff, reduceIte])))
    refine rk_cl (by (simp (disch := omega) only [evl, Nat.reduceEqDiff, Nat.reduceAdd, reduceIte, reduceCtorEq]); exact sameX_ok H2 s v out out hap.slZ (hs.hx hxA) (by omega) (by omega)) ?_
    rintro r H3 ⟨rfl, hH3⟩
    cases hH3
    simp only [hOut_f, decide_true]
    (repeat' (first | apply Z1 | apply Z2 | apply Z3 | apply Z5 | apply Z6 | apply Z7 | apply Z8 | apply Z9 | apply Za | apply Zb | apply Zc | apply Zd | apply Ze | apply Zf | apply Zg | apply Zh | apply Zi | refine Zj (by decide) ?_ | ((first | apply Zk | apply Zl | apply Zm | apply Zn | apply Zo | apply Zp | apply Zq | apply Zr); (· (first | (simp (disch := omega) only [evl, Nat.reduceEqDiff, Nat.reduceAdd, reduceIte, reduceCtorEq, hlens] <;> exact rfl) | exact rfl)); all_goals try (refine fun (hb : _ = _) => ?_; try simp only [bvl, ne_eq, Bool.not_true, Bool.not_false, reduceCtorEq, not_true_eq_false] at hb)) | (apply Zs; · simp (disch := omega) only [evl, Nat.reduceEqDiff, reduceIte])))
    refine rk_cl (by (simp (disch := omega) only [evl, Nat.reduceEqDiff, Nat.reduceAdd, reduceIte, reduceCtorEq]); exact countX_ok H2 v out (hs.hx hxA) (hxA.hide.trans hh) (by rw [hxA.lo]; omega) (by omega)) ?_
    rintro r H3 ⟨hx3, ⟨hno, _⟩ | ⟨_, rfl⟩⟩
    · exact absurd hok hno
    simp only [hOut_f]
    have hxB := hxA.trans hx3
    have hneq : ∀ s : AV → AV → Option AV, binF .neq s (.int .i64 (tot out)) (.int .i64 (tot out)) = some (.bool false) := fun s => by rw [bin_neq]; simp
    (repeat' (first | apply Z1 | apply Z2 | apply Z3 | apply Z5 | apply Z6 | apply Z7 | apply Z8 | apply Z9 | apply Za | apply Zb | apply Zc | apply Zd | apply Ze | apply Zf | apply Zg | apply Zh | apply Zi | refine Zj (by decide) ?_ | ((first | apply Zk | apply Zl | apply Zm | apply Zn | apply Zo | apply Zp | apply Zq | apply Zr); (· (first | (simp (disch := omega) only [evl, Nat.reduceEqDiff, Nat.reduceAdd, reduceIte, reduceCtorEq, hlens, hneq] <;> exact rfl) | exact rfl)); all_goals try (refine fun (hb : _ = _) => ?_; try simp only [bvl, ne_eq, Bool.not_true, Bool.not_false, reduceCtorEq, not_true_eq_false] at hb)) | (apply Zs; · simp (disch := omega) only [evl, Nat.reduceEqDiff, reduceIte])))
    refine rk_cl (by (simp (disch := omega) only [evl, Nat.reduceEqDiff, Nat.reduceAdd, reduceIte, reduceCtorEq]); exact rising_ok H3 o (secs out) (hso.hx (hx2.trans hx3)) (secs_rise hok) (by omega)) ?_
    rintro r H4 ⟨rfl, hH4⟩
    cases hH4
    simp only [hOut_f]
    (repeat' (first | apply Z1 | apply Z2 | apply Z3 | apply Z5 | apply Z6 | apply Z7 | apply Z8 | apply Z9 | apply Za | apply Zb | apply Zc | apply Zd | apply Ze | apply Zf | apply Zg | apply Zh | apply Zi | refine Zj (by decide) ?_ | ((first | apply Zk | apply Zl | apply Zm | apply Zn | apply Zo | apply Zp | apply Zq | apply Zr); (· (first | (simp (disch := omega) only [evl, Nat.reduceEqDiff, Nat.reduceAdd, reduceIte, reduceCtorEq] <;> exact rfl) | exact rfl)); all_goals try (refine fun (hb : _ = _) => ?_; try simp only [bvl, ne_eq, Bool.not_true, Bool.not_false, reduceCtorEq, not_true_eq_false] at hb)) | (apply Zs; · simp (disch := omega) only [evl, Nat.reduceEqDiff, reduceIte])))
    refine rn_seq_n ?_
    (repeat' (first | apply Z1 | apply Z2 | apply Z3 | apply Z5 | apply Z6 | apply Z7 | apply Z8 | apply Z9 | apply Za | apply Zb | apply Zc | apply Zd | apply Ze | apply Zf | apply Zg | apply Zh | apply Zi | refine Zj (by decide) ?_ | ((first | apply Zk | apply Zl | apply Zm | apply Zn | apply Zo | apply Zp | apply Zq | apply Zr); (· (first | (simp (disch := omega) only [evl, Nat.reduceEqDiff, Nat.reduceAdd, reduceIte, reduceCtorEq] <;> exact rfl) | exact rfl)); all_goals try (refine fun (hb : _ = _) => ?_; try simp only [bvl, ne_eq, Bool.not_true, Bool.not_false, reduceCtorEq, not_true_eq_false] at hb)) | (apply Zs; · simp (disch := omega) only [evl, Nat.reduceEqDiff, reduceIte])))
    refine rn_seq_n ?_
    exact Rest.out _ H3 0 (by (first | (simp (disch := omega) only [evl, Nat.reduceEqDiff, Nat.reduceAdd, reduceIte, reduceCtorEq] <;> exact rfl) | exact rfl)) (by (first | (simp (disch := omega) only [evl, Nat.reduceEqDiff, Nat.reduceAdd, reduceIte, reduceCtorEq] <;> exact rfl) | exact rfl)) (by (first | (simp (disch := omega) only [evl, Nat.reduceEqDiff, Nat.reduceAdd, reduceIte, reduceCtorEq] <;> exact rfl) | exact rfl)) (by (first | (simp (disch := omega) only [evl, Nat.reduceEqDiff, Nat.reduceAdd, reduceIte, reduceCtorEq] <;> exact rfl) | exact rfl)) (.inl ⟨hok, rfl⟩) hxB
end PQ
end Go.Proofs.Ytnkomaedmblemaa
