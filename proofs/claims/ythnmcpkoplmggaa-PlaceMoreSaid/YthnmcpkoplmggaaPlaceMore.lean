/-
  PROVED HERE: the function PlaceMore of package caulkerlaw07, called with any arguments, answers true and leaves its arguments as they were.
-/
import Derived.Test.YthnmcpkoplmggaaCtD
import Derived.Test.YthnmcpkoplmggaaEvG
import Derived.WalkKit
import Derived.ProofKit
import Derived.OpenShut
import Derived.ShutString
import Derived.ChangeOld
import Derived.Below
import Derived.Deep.Slices

set_option linter.unusedSimpArgs false
set_option linter.unusedVariables false
namespace Go.Proofs.Ythnmcpkoplmggaa
open Go.ChangeShapes Go.WideShapes Go.ChangeAt Go.RowKit
open Go.Ev Plc

namespace placeMore
theorem bd64 {n : Int} (h : (Lit.int .i64 n).wf = true) : -9223372036854775808 ≤ n ∧ n ≤ 9223372036854775807 := by
  have := bounds_i64 h
  omega
theorem own : ownKnob Try.prog.godebug = none := by kernel_rfl
theorem laidOut : laidOutB Try.prog = true := by kernel_rfl
theorem hasB : (match look.func 7 with | some fn => fn.body.isSome | none => false) = true := by kernel_rfl

set_option maxRecDepth 100000 in
theorem lifted (os : Os) (started : os.Started) (H : Type) (enc : TypeId × Value → H) :
    ReturnsInHanded {} Try.checked os 7 .any (Rows.placeMoreSpec.pre6 enc Try.prog Try.f7 Rows.placeMoreRow.domain false) (Rows.placeMoreSpec.post enc Try.prog Try.f7 false true false false) := by
  refine returnsInHanded_of_change (C := Try.checked) own started (by kernel_rfl) Try.func7
    (ChangeSpec.witness6 (enc := enc) (C := Try.checked) false ⟨#[], #[.int .i64 0, .slice none 0 0, .slice none 0 0, .int .i64 0, .int .i64 0, .int .i64 0], []⟩ 8 (by kernel_rfl) (by kernel_rfl) (by kernel_rfl) (by kernel_rfl)) ?_
  intro W base args ds gs before hval0 hW hcnd _
  have hval : ∀ (j : Nat) t v, Try.f7.params[j]? = some t → args[j]? = some v → Value.okWide Try.prog W .any base t v := hval0
  have hW' := hW
  obtain ⟨p, q, hA0, hV, rfl, hfz, hnd⟩ := hW
  have hA : DataW.TrodAll enc Try.prog W 0 (fun _ => true) true Try.f7.params.toList args.toList ds p := hA0
  rw [Try.params7] at hA hval
  obtain ⟨v0, vs0, d0, ds0, p0, q0, hargs, rfl, rfl, h0, r0⟩ := trodAll_cons hA
  obtain ⟨v1, vs1, d1, ds1, p1, q1, rfl, rfl, rfl, h1, r1⟩ := trodAll_cons r0
  obtain ⟨v2, vs2, d2, ds2, p2, q2, rfl, rfl, rfl, h2, r2⟩ := trodAll_cons r1
  obtain ⟨v3, vs3, d3, ds3, p3, q3, rfl, rfl, rfl, h3, r3⟩ := trodAll_cons r2
  obtain ⟨v4, vs4, d4, ds4, p4, q4, rfl, rfl, rfl, h4, r4⟩ := trodAll_cons r3
  obtain ⟨v5, vs5, d5, ds5, p5, q5, rfl, rfl, rfl, h5, r5⟩ := trodAll_cons r4
  obtain ⟨rfl, rfl, rfl⟩ := trodAll_nil r5
  obtain rfl : args = #[v0, v1, v2, v3, v4, v5] := by cases args; simp_all
  obtain ⟨rfl, rfl⟩ := trodVars_none hV
  obtain ⟨a0, rfl, rfl, rfl, w0⟩ := open_int Try.underlying3 (hval 0 3 v0 rfl rfl) h0
  obtain ⟨a1, len1, cap1, rfl⟩ := okWide_slice Try.underlying22 (hval 1 22 v1 rfl rfl)
  have k1 := h1
  have lt1 : ∀ x ∈ p1, x.block < W.heap.size := by obtain ⟨m, hm⟩ := k1; exact DataW.trod_lt m _ _ _ hm
  obtain ⟨l1, b1, u1, hl1, hm1, hb1, g1⟩ : ∃ (l : List Int) (b : ABlk × EB) (v : AV), l.length = len1 ∧ len1 ≤ maxLen ∧ (∀ n ∈ l, -9223372036854775808 ≤ n ∧ n ≤ 9223372036854775807) ∧ Arg W 0 (.slice a1 len1 cap1) (fun H v => SlI H v l) b v := by
    obtain ⟨fuel, hf⟩ := h1
    rcases open_ints Try.underlying22 Try.underlying3 (by kernel_rfl) hf with ⟨hcs, _⟩ | ⟨x, l, c, zs, hcs, _, hl, hm, hz, _, hcell, hwz⟩
    · simp [Value.cells] at hcs
      obtain ⟨rfl, rfl, rfl⟩ := hcs
      exact arg_ints _ (e := 3) (zs := []) (fun _ h => by cases h) (.inl ⟨rfl, rfl, rfl, rfl⟩)
    · simp [Value.cells] at hcs
      obtain ⟨rfl, rfl, rfl⟩ := hcs
      exact arg_ints _ (e := 3) (zs := zs) (fun n hn => bd64 (hwz n hn)) (.inr ⟨_, rfl, hl, hm, by simpa using hz, hcell, has_block Try.underlying22 (hval 1 22 _ rfl rfl)⟩)
  obtain ⟨a2, len2, cap2, rfl⟩ := okWide_slice Try.underlying23 (hval 2 23 v2 rfl rfl)
  have k2 := h2
  have lt2 : ∀ x ∈ p2, x.block < W.heap.size := by obtain ⟨m, hm⟩ := k2; exact DataW.trod_lt m _ _ _ hm
  obtain ⟨l2, b2, u2, hl2, hm2, g2⟩ : ∃ (l : List Bool) (b : ABlk × EB) (v : AV), l.length = len2 ∧ len2 ≤ maxLen ∧ Arg W 1 (.slice a2 len2 cap2) (fun H v => SlB H v l) b v := by
    obtain ⟨fuel, hf⟩ := h2
    rcases Go.Deep.open_slice1 Try.underlying23 (by kernel_rfl) hf with ⟨hcs, _⟩ | ⟨x, l, c, m, n, V, D, Pl, hcs, _, hl, hm, hmm, _, hx⟩
    · simp [Value.cells] at hcs
      obtain ⟨rfl, rfl, rfl⟩ := hcs
      exact arg_bools _ (e := 4) (g := fun _ => false) (.inl ⟨rfl, rfl, rfl⟩)
    · simp [Value.cells] at hcs
      obtain ⟨rfl, rfl, rfl⟩ := hcs
      refine arg_bools _ (e := 4) (g := fun i => match V i with | .bool b => b | _ => false) (.inr ⟨_, rfl, hl, hm, fun i hi => ?_, has_block Try.underlying23 (hval 2 23 _ rfl rfl)⟩)
      obtain ⟨hc, ht⟩ := hx i (by rw [hmm]; simp; omega)
      obtain ⟨b, hb, _⟩ := DataW.trod_bool Try.underlying4 ht
      simp only [List.cons.injEq, and_true] at hb
      rw [hc, hb]
  obtain ⟨a3, rfl, rfl, rfl, w3⟩ := open_int Try.underlying3 (hval 3 3 v3 rfl rfl) h3
  obtain ⟨a4, rfl, rfl, rfl, w4⟩ := open_int Try.underlying3 (hval 4 3 v4 rfl rfl) h4
  obtain ⟨a5, rfl, rfl, rfl, w5⟩ := open_int Try.underlying3 (hval 5 3 v5 rfl rfl) h5
  clear hA0 hval0
  obtain ⟨fn, hfn⟩ : ∃ fn, look.func 7 = some fn := by
    have := hasB
    cases h : look.func 7 with
    | none => rw [h] at this; cases this
    | some fn => exact ⟨fn, rfl⟩
  obtain ⟨cd, hcd⟩ : ∃ cd, fn.body = some cd := Option.isSome_iff_exists.1 (by have := hasB; rw [hfn] at this; exact this)
  have key := law_call (w := W) look_ok look_ext hfn hcd [b1, b2] (args := [.int .i64 a0, u1, u2, .int .i64 a3, .int .i64 a4, .int .i64 a5]) (us := [.int .i64 a0, .slice a1 len1 cap1, .slice a2 len2 cap2, .int .i64 a3, .int .i64 a4, .int .i64 a5])
    (placeMore_law _ a0 a3 a4 a5 u1 u2 l1 l2 (g1.rd _ rfl) (g2.rd _ rfl) rfl (Nat.zero_le _) rfl (by rw [hl1]; unfold maxLen at hm1; omega) (by rw [hl2]; unfold maxLen at hm2; omega) hb1 (bd64 w0) (bd64 w3) (bd64 w4) (bd64 w5))
    (by intro b hb; simp only [List.mem_cons, List.not_mem_nil, or_false] at hb; rcases hb with rfl | rfl <;> first | exact g1.own | exact g2.own)
    (by
      intro k b hk E hE
      match k, hk with
      | 0, hk => (cases hk; exact g1.br E hE)
      | 1, hk => (cases hk; exact g2.br E hE)
      | k + 2, hk => (exact absurd hk (by simp)))
    (by
      intro E hE
      show [Value.int .i64 a0, conc E u1, conc E u2, Value.int .i64 a3, Value.int .i64 a4, Value.int .i64 a5] = _
      rw [g1.val E (hE 0 b1 rfl), g2.val E (hE 1 b2 rfl)])
  refine key.mono fun e W' ⟨he, bel⟩ => ?_
  subst he
  exact ⟨_, rfl, _, _, _, [], _, [], hW', trodAll_mk1 (shut_bool Try.underlying4 _), (trodAll_cons_mk (shut_int Try.underlying3 w0) (trodAll_cons_mk (Below.trod laidOut (by kernel_rfl) (of_decide_eq_true (by kernel_rfl)) k1 bel lt1) (trodAll_cons_mk (Below.trod laidOut (by kernel_rfl) (of_decide_eq_true (by kernel_rfl)) k2 bel lt2) (trodAll_cons_mk (shut_int Try.underlying3 w3) (trodAll_cons_mk (shut_int Try.underlying3 w4) (trodAll_cons_mk (shut_int Try.underlying3 w5) trodAll_mk0)))))), rfl, bel.frame _, fun h => by cases h⟩

theorem over : Rows.placeMoreRow.holds Try.pinned (OpenSpec.ofChange Rows.placeMoreSpec) :=
  OpenClaim.holds_of_wide 7 Try.f7 rfl rfl rfl rfl rfl rfl rfl ⟨rfl, rfl, rfl, rfl, rfl⟩ rfl rfl rfl rfl rfl (by kernel_rfl) Try.func7 (by kernel_rfl)
    (of_decide_eq_true (by kernel_rfl)) (by unfold Func.isWrapper; first | (rw [if_pos (by decide +kernel)]; kernel_rfl) | (rw [if_neg (by decide +kernel)]; exact ⟨rfl, rfl⟩))
    (fun os started H enc _ => lifted os started H enc)

theorem proved : Rows.PlaceMoreSaid := over
#print axioms proved
end placeMore

end Go.Proofs.Ythnmcpkoplmggaa
