/-
  PROVED HERE: the function ExtentTells of package caulkerlaw06, called with any arguments, answers true and leaves its arguments as they were.
-/
import Derived.Test.YtnkomaedmblemaaPqE
import Derived.WalkKit
import Derived.ProofKit
import Derived.OpenShut
import Derived.ShutString
import Derived.ChangeOld
import Derived.Below
import Derived.Deep.Slices
import Derived.Deep.SlicePairs

set_option linter.unusedSimpArgs false
set_option linter.unusedVariables false
namespace Go.Proofs.Ytnkomaedmblemaa
open Go.ChangeShapes Go.WideShapes Go.ChangeAt Go.RowKit
open Go.Ev Exl

namespace extentTells
theorem bd64 {n : Int} (h : (Lit.int .i64 n).wf = true) : -9223372036854775808 ≤ n ∧ n ≤ 9223372036854775807 := by
  have := bounds_i64 h
  omega
theorem own : ownKnob Try.prog.godebug = none := by kernel_rfl
theorem laidOut : laidOutB Try.prog = true := by kernel_rfl
theorem hasB : (match look.func 5 with | some fn => fn.body.isSome | none => false) = true := by kernel_rfl

set_option maxRecDepth 100000 in
theorem lifted (os : Os) (started : os.Started) (H : Type) (enc : TypeId × Value → H) :
    ReturnsInHanded {} Try.checked os 5 .any (Rows.extentTellsSpec.pre6 enc Try.prog Try.f5 Rows.extentTellsRow.domain false) (Rows.extentTellsSpec.post enc Try.prog Try.f5 false true false false) := by
  refine returnsInHanded_of_change (C := Try.checked) own started (by kernel_rfl) Try.func5
    (ChangeSpec.witness6 (enc := enc) (C := Try.checked) false ⟨#[], #[.slice none 0 0, .slice none 0 0], []⟩ 8 (by kernel_rfl) (by kernel_rfl) (by kernel_rfl) (by kernel_rfl)) ?_
  intro W base args ds gs before hval0 hW hcnd _
  have hval : ∀ (j : Nat) t v, Try.f5.params[j]? = some t → args[j]? = some v → Value.okWide Try.prog W .any base t v := hval0
  have hW' := hW
  obtain ⟨p, q, hA0, hV, rfl, hfz, hnd⟩ := hW
  have hA : DataW.TrodAll enc Try.prog W 0 (fun _ => true) true Try.f5.params.toList args.toList ds p := hA0
  rw [Try.params5] at hA hval
  obtain ⟨v0, vs0, d0, ds0, p0, q0, hargs, rfl, rfl, h0, r0⟩ := trodAll_cons hA
  obtain ⟨v1, vs1, d1, ds1, p1, q1, rfl, rfl, rfl, h1, r1⟩ := trodAll_cons r0
  obtain ⟨rfl, rfl, rfl⟩ := trodAll_nil r1
  obtain rfl : args = #[v0, v1] := by cases args; simp_all
  obtain ⟨rfl, rfl⟩ := trodVars_none hV
  obtain ⟨a0, len0, cap0, rfl⟩ := okWide_slice Try.underlying22 (hval 0 22 v0 rfl rfl)
  have k0 := h0
  have lt0 : ∀ x ∈ p0, x.block < W.heap.size := by obtain ⟨m, hm⟩ := k0; exact DataW.trod_lt m _ _ _ hm
  obtain ⟨l0, b0, u0, hl0, hm0, g0⟩ : ∃ (l : List (Int × Int)) (b : ABlk × EB) (v : AV), l.length = len0 ∧ len0 ≤ maxLen ∧ Arg W 0 (.slice a0 len0 cap0) (fun H v => SlX H v l) b v := by
    obtain ⟨fuel, hf⟩ := h0
    rcases Go.Deep.open_slice_pairs Try.underlying22 Try.underlying43 (by kernel_rfl) rfl rfl (by kernel_rfl) (by kernel_rfl) hf with ⟨hcs, _⟩ | ⟨x, l, c, m, n, V0, V1, D0, D1, P0, P1, hcs, _, hl, hm, hmm, _, hx⟩
    · simp [Value.cells] at hcs
      obtain ⟨rfl, rfl, rfl⟩ := hcs
      exact arg_exts _ (e := 43) (g := fun _ => (0, 0)) (.inl ⟨rfl, rfl, rfl⟩)
    · simp [Value.cells] at hcs
      obtain ⟨rfl, rfl, rfl⟩ := hcs
      refine arg_exts _ (e := 43) (g := fun i => ((match V0 i with | .int _ n => n | _ => 0), (match V1 i with | .int _ n => n | _ => 0))) (.inr ⟨_, rfl, hl, hm, fun i hi => ?_, has_block Try.underlying22 (hval 0 22 _ rfl rfl)⟩)
      obtain ⟨hc0, hc1, ht0, ht1⟩ := hx i (by rw [hmm]; simp; omega)
      obtain ⟨n0, hb0, _⟩ := DataW.trod_int Try.underlying3 ht0
      obtain ⟨n1, hb1, _⟩ := DataW.trod_int Try.underlying3 ht1
      simp only [List.cons.injEq, and_true] at hb0 hb1
      rw [hc0, hc1, hb0, hb1]
      exact ⟨rfl, rfl⟩
  obtain ⟨a1, len1, cap1, rfl⟩ := okWide_slice Try.underlying32 (hval 1 32 v1 rfl rfl)
  have k1 := h1
  have lt1 : ∀ x ∈ p1, x.block < W.heap.size := by obtain ⟨m, hm⟩ := k1; exact DataW.trod_lt m _ _ _ hm
  obtain ⟨l1, b1, u1, hl1, hm1, hb1, g1⟩ : ∃ (l : List Int) (b : ABlk × EB) (v : AV), l.length = len1 ∧ len1 ≤ maxLen ∧ (∀ n ∈ l, -9223372036854775808 ≤ n ∧ n ≤ 9223372036854775807) ∧ Arg W 1 (.slice a1 len1 cap1) (fun H v => SlI H v l) b v := by
    obtain ⟨fuel, hf⟩ := h1
    rcases open_ints Try.underlying32 Try.underlying3 (by kernel_rfl) hf with ⟨hcs, _⟩ | ⟨x, l, c, zs, hcs, _, hl, hm, hz, _, hcell, hwz⟩
    · simp [Value.cells] at hcs
      obtain ⟨rfl, rfl, rfl⟩ := hcs
      exact arg_ints _ (e := 3) (zs := []) (fun _ h => by cases h) (.inl ⟨rfl, rfl, rfl, rfl⟩)
    · simp [Value.cells] at hcs
      obtain ⟨rfl, rfl, rfl⟩ := hcs
      exact arg_ints _ (e := 3) (zs := zs) (fun n hn => bd64 (hwz n hn)) (.inr ⟨_, rfl, hl, hm, by simpa using hz, hcell, has_block Try.underlying32 (hval 1 32 _ rfl rfl)⟩)
  clear hA0 hval0
  obtain ⟨fn, hfn⟩ : ∃ fn, look.func 5 = some fn := by
    have := hasB
    cases h : look.func 5 with
    | none => rw [h] at this; cases this
    | some fn => exact ⟨fn, rfl⟩
  obtain ⟨cd, hcd⟩ : ∃ cd, fn.body = some cd := Option.isSome_iff_exists.1 (by have := hasB; rw [hfn] at this; exact this)
  have key := law_call (w := W) look_ok look_ext hfn hcd [b0, b1] (args := [u0, u1]) (us := [.slice a0 len0 cap0, .slice a1 len1 cap1])
    (FnE.mono (PQ.tells_ok _ u0 u1 l0 l1 (g0.rd _ rfl) (g1.rd _ rfl) rfl (Nat.zero_le _) (by rw [hl0]; unfold maxLen at hm0; omega) (by rw [hl1]; unfold maxLen at hm1; omega)) fun v H' h => ⟨h.1, h.2.fz⟩)
    (by intro b hb; simp only [List.mem_cons, List.not_mem_nil, or_false] at hb; rcases hb with rfl | rfl <;> first | exact g0.own | exact g1.own)
    (by
      intro k b hk E hE
      match k, hk with
      | 0, hk => (cases hk; exact g0.br E hE)
      | 1, hk => (cases hk; exact g1.br E hE)
      | k + 2, hk => (exact absurd hk (by simp)))
    (by
      intro E hE
      show [conc E u0, conc E u1] = _
      rw [g0.val E (hE 0 b0 rfl), g1.val E (hE 1 b1 rfl)])
  refine key.mono fun e W' ⟨he, bel⟩ => ?_
  subst he
  exact ⟨_, rfl, _, _, _, [], _, [], hW', trodAll_mk1 (shut_bool Try.underlying4 _), (trodAll_cons_mk (Below.trod laidOut (by kernel_rfl) (of_decide_eq_true (by kernel_rfl)) k0 bel lt0) (trodAll_cons_mk (Below.trod laidOut (by kernel_rfl) (of_decide_eq_true (by kernel_rfl)) k1 bel lt1) trodAll_mk0)), rfl, bel.frame _, fun h => by cases h⟩

theorem over : Rows.extentTellsRow.holds Try.pinned (OpenSpec.ofChange Rows.extentTellsSpec) :=
  OpenClaim.holds_of_wide 5 Try.f5 rfl rfl rfl rfl rfl rfl rfl ⟨rfl, rfl, rfl, rfl, rfl⟩ rfl rfl rfl rfl rfl (by kernel_rfl) Try.func5 (by kernel_rfl)
    (of_decide_eq_true (by kernel_rfl)) (by unfold Func.isWrapper; first | (rw [if_pos (by decide +kernel)]; kernel_rfl) | (rw [if_neg (by decide +kernel)]; exact ⟨rfl, rfl⟩))
    (fun os started H enc _ => lifted os started H enc)

theorem proved : Rows.ExtentTellsSaid := over
#print axioms proved
end extentTells

end Go.Proofs.Ytnkomaedmblemaa
