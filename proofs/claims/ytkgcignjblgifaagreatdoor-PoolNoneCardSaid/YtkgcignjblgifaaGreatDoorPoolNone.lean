/-
  PROVED HERE: the function PoolNone, called with any act, answers true and leaves the act as it was. The card of the given row: its listed variables are tied to the program's text (given).
-/
import Derived.Test.YtkgcignjblgifaaGreatDoorVAP
import Derived.Test.YtkgcignjblgifaaGreatDoorVAQ
import Derived.Test.YtkgcignjblgifaaGreatDoorRows
import Derived.Test.YtkgcignjblgifaaGreatDoorCards
import Derived.Test.YtkgcignjblgifaaGreatDoorTie
import Derived.WalkKit
import Derived.ProofKit
import Derived.OpenShut
import Derived.ShutString
import Derived.ChangeOld
import Derived.Below
import Derived.SevenTiedAt
import Derived.LaidMore
import Derived.Lay
import Derived.Stop.Joined
import Derived.Deep.Slices

set_option linter.unusedSimpArgs false
set_option linter.unusedVariables false
namespace Go.Proofs.YtkgcignjblgifaaGreatDoor
open Go.ChangeShapes Go.WideShapes Go.ChangeAt Go.RowKit
open Go.Ev HS
namespace poolNone
theorem own : ownKnob Tryz.prog.godebug = none := by kernel_rfl
theorem laidOut : laidOutB Tryz.prog = true := by kernel_rfl
theorem hasB : (match lookN.func 3 with | some fn => fn.body.isSome | none => false) = true := by kernel_rfl
theorem ct40 : Tryz.prog.cellTypes Tryz.prog.depth 40 = some [3, 3, 9, 5, 3, 9, 9, 3, 3, 22, 3, 3, 5, 5, 5, 5, 5, 5, 5, 5, 5, 5, 5, 5, 5, 5, 5, 5, 5, 5, 5, 5, 5, 5, 5, 5, 5, 5, 5, 5, 5, 5, 5, 5, 3, 29, 3, 3, 3, 3, 32, 3, 3, 3, 3, 5, 35, 36] := by kernel_rfl
theorem cells40 : Tryz.prog.cellsOf 40 = 58 := by kernel_rfl
theorem array58 {α : Type} {cs : Array α} (h : cs.size = 58) : ∃ c0 c1 c2 c3 c4 c5 c6 c7 c8 c9 c10 c11 c12 c13 c14 c15 c16 c17 c18 c19 c20 c21 c22 c23 c24 c25 c26 c27 c28 c29 c30 c31 c32 c33 c34 c35 c36 c37 c38 c39 c40 c41 c42 c43 c44 c45 c46 c47 c48 c49 c50 c51 c52 c53 c54 c55 c56 c57, cs = ⟨c0 :: c1 :: c2 :: c3 :: c4 :: c5 :: c6 :: c7 :: c8 :: c9 :: c10 :: c11 :: c12 :: c13 :: c14 :: c15 :: c16 :: c17 :: c18 :: c19 :: c20 :: c21 :: c22 :: c23 :: c24 :: c25 :: c26 :: c27 :: c28 :: c29 :: c30 :: c31 :: c32 :: c33 :: c34 :: c35 :: c36 :: c37 :: c38 :: c39 :: c40 :: c41 :: c42 :: c43 :: c44 :: c45 :: c46 :: c47 :: c48 :: c49 :: c50 :: c51 :: c52 :: c53 :: c54 :: c55 :: c56 :: c57 :: []⟩ := by
  obtain ⟨l⟩ := cs
  match l, h with
  | c0 :: c1 :: c2 :: c3 :: c4 :: c5 :: c6 :: c7 :: c8 :: c9 :: c10 :: c11 :: c12 :: c13 :: c14 :: c15 :: c16 :: c17 :: c18 :: c19 :: c20 :: c21 :: c22 :: c23 :: c24 :: c25 :: c26 :: c27 :: c28 :: c29 :: c30 :: c31 :: c32 :: c33 :: c34 :: c35 :: c36 :: c37 :: c38 :: c39 :: c40 :: c41 :: c42 :: c43 :: c44 :: c45 :: c46 :: c47 :: c48 :: c49 :: c50 :: c51 :: c52 :: c53 :: c54 :: c55 :: c56 :: c57 :: [], _ => exact ⟨c0, c1, c2, c3, c4, c5, c6, c7, c8, c9, c10, c11, c12, c13, c14, c15, c16, c17, c18, c19, c20, c21, c22, c23, c24, c25, c26, c27, c28, c29, c30, c31, c32, c33, c34, c35, c36, c37, c38, c39, c40, c41, c42, c43, c44, c45, c46, c47, c48, c49, c50, c51, c52, c53, c54, c55, c56, c57, rfl⟩

def LD : List (String × DataW Unit) := [("unicode/utf8.acceptRanges", Rows.laid_unicode_utf8_acceptRanges), ("caulker/uber.errField", Rows.laid_caulker_uber_errField), ("caulker/uber.errRoot", Rows.laid_caulker_uber_errRoot), ("unicode/utf8.first", Rows.laid_unicode_utf8_first)]
set_option maxRecDepth 100000 in
set_option maxHeartbeats 4000000 in
theorem lifted (os : Os) (started : os.Started) (H : Type) (enc : TypeId × Value → H) :
    ReturnsInHanded {} Tryz.checked os 3 .any (fun w args => (Rows.poolNoneSpec.pre enc Tryz.prog Tryz.f3 Rows.poolNoneRow.domain false w args ∧ laidMetH Tryz.prog LD w) ∧ sizedMet enc Tryz.prog Tryz.f3 (OpenSpec.ofChange Rows.poolNoneSpec) false w args) (Rows.poolNoneSpec.post enc Tryz.prog Tryz.f3 false true false false) := by
  refine returnsInHanded_of_change_and (C := Tryz.checked) (X := fun w _ => laidMetH Tryz.prog LD w) (fun _ _ _ hh h => h.of_heap hh) own started (by kernel_rfl) Tryz.func3
    (ChangeSpec.witness_shaped (enc := enc) (C := Tryz.checked) (os := os) (X := fun w _ => laidMetH Tryz.prog LD w) false (World.laidAll Tryz.prog os LD) #[.agg ⟨.int .i64 0 :: .int .i64 0 :: .string ByteArray.empty :: .int .u8 0 :: .int .i64 0 :: .string ByteArray.empty :: .string ByteArray.empty :: .int .i64 0 :: .int .i64 0 :: .slice none 0 0 :: .int .i64 0 :: .int .i64 0 :: .int .u8 0 :: .int .u8 0 :: .int .u8 0 :: .int .u8 0 :: .int .u8 0 :: .int .u8 0 :: .int .u8 0 :: .int .u8 0 :: .int .u8 0 :: .int .u8 0 :: .int .u8 0 :: .int .u8 0 :: .int .u8 0 :: .int .u8 0 :: .int .u8 0 :: .int .u8 0 :: .int .u8 0 :: .int .u8 0 :: .int .u8 0 :: .int .u8 0 :: .int .u8 0 :: .int .u8 0 :: .int .u8 0 :: .int .u8 0 :: .int .u8 0 :: .int .u8 0 :: .int .u8 0 :: .int .u8 0 :: .int .u8 0 :: .int .u8 0 :: .int .u8 0 :: .int .u8 0 :: .int .i64 0 :: .slice none 0 0 :: .int .i64 0 :: .int .i64 0 :: .int .i64 0 :: .int .i64 0 :: .slice none 0 0 :: .int .i64 0 :: .int .i64 0 :: .int .i64 0 :: .int .i64 0 :: .int .u8 0 :: .slice none 0 0 :: .slice none 0 0 :: []⟩] 12 (World.laidAll_os _ _ _)
      (World.shaped_of_ZipB (by as_aux_lemma => kernel_rfl) (by as_aux_lemma => kernel_rfl)) (by as_aux_lemma => kernel_rfl) (by as_aux_lemma => kernel_rfl) (by as_aux_lemma => kernel_rfl)
      (by rw [MakeChecks.laidMetH_plain _ _ _ (by kernel_rfl)]; exact laidMet_laidAll _ (by as_aux_lemma => kernel_rfl) (by as_aux_lemma => kernel_rfl))) ?_
  intro W base args ds gs before hval0 hW hcnd _ hL _
  have hval : ∀ (j : Nat) t v, Tryz.f3.params[j]? = some t → args[j]? = some v → Value.okWide Tryz.prog W .any base t v := hval0
  have hW' := hW
  obtain ⟨p, q, hA0, hV, rfl, hfz, hnd⟩ := hW
  have hAll : DataW.TrodAll enc Tryz.prog W 0 (fun _ => true) true Tryz.f3.params.toList args.toList ds p := hA0
  rw [Tryz.params3] at hAll hval
  obtain ⟨v0, vs0, d0, ds0, p0, q0, hargs, rfl, rfl, h0, r0⟩ := trodAll_cons hAll
  obtain ⟨rfl, rfl, rfl⟩ := trodAll_nil r0
  obtain rfl : args = #[v0] := by cases args; simp_all
  obtain ⟨rfl, rfl⟩ := trodVars_none hV
  have k0 := h0
  have lt0 : ∀ x ∈ p0, x.block < W.heap.size := by obtain ⟨m, hm⟩ := k0; exact DataW.trod_lt m _ _ _ hm
  have hv := hval 0 40 v0 rfl rfl
  simp only [Value.okWide, Tryz.underlying40] at hv
  obtain ⟨cs', rfl, hsz, ts, hts, _, hrow⟩ := hv
  rw [ct40] at hts
  cases hts
  obtain ⟨c0, c1, c2, c3, c4, c5, c6, c7, c8, c9, c10, c11, c12, c13, c14, c15, c16, c17, c18, c19, c20, c21, c22, c23, c24, c25, c26, c27, c28, c29, c30, c31, c32, c33, c34, c35, c36, c37, c38, c39, c40, c41, c42, c43, c44, c45, c46, c47, c48, c49, c50, c51, c52, c53, c54, c55, c56, c57, rfl⟩ := array58 (hsz.trans cells40)
  obtain ⟨fuel, hf⟩ := h0
  have hrec := act_recs hf
  obtain ⟨u0, q0, r0⟩ := hrow 0 c0 rfl
  cases q0
  obtain ⟨u1, q1, r1⟩ := hrow 1 c1 rfl
  cases q1
  obtain ⟨u2, q2, r2⟩ := hrow 2 c2 rfl
  cases q2
  obtain ⟨u3, q3, r3⟩ := hrow 3 c3 rfl
  cases q3
  obtain ⟨u4, q4, r4⟩ := hrow 4 c4 rfl
  cases q4
  obtain ⟨u5, q5, r5⟩ := hrow 5 c5 rfl
  cases q5
  obtain ⟨u6, q6, r6⟩ := hrow 6 c6 rfl
  cases q6
  obtain ⟨u7, q7, r7⟩ := hrow 7 c7 rfl
  cases q7
  obtain ⟨u8, q8, r8⟩ := hrow 8 c8 rfl
  cases q8
  obtain ⟨u9, q9, r9⟩ := hrow 9 c9 rfl
  cases q9
  obtain ⟨u10, q10, r10⟩ := hrow 10 c10 rfl
  cases q10
  obtain ⟨u11, q11, r11⟩ := hrow 11 c11 rfl
  cases q11
  obtain ⟨u12, q12, r12⟩ := hrow 12 c12 rfl
  cases q12
  obtain ⟨u13, q13, r13⟩ := hrow 13 c13 rfl
  cases q13
  obtain ⟨u14, q14, r14⟩ := hrow 14 c14 rfl
  cases q14
  obtain ⟨u15, q15, r15⟩ := hrow 15 c15 rfl
  cases q15
  obtain ⟨u16, q16, r16⟩ := hrow 16 c16 rfl
  cases q16
  obtain ⟨u17, q17, r17⟩ := hrow 17 c17 rfl
  cases q17
  obtain ⟨u18, q18, r18⟩ := hrow 18 c18 rfl
  cases q18
  obtain ⟨u19, q19, r19⟩ := hrow 19 c19 rfl
  cases q19
  obtain ⟨u20, q20, r20⟩ := hrow 20 c20 rfl
  cases q20
  obtain ⟨u21, q21, r21⟩ := hrow 21 c21 rfl
  cases q21
  obtain ⟨u22, q22, r22⟩ := hrow 22 c22 rfl
  cases q22
  obtain ⟨u23, q23, r23⟩ := hrow 23 c23 rfl
  cases q23
  obtain ⟨u24, q24, r24⟩ := hrow 24 c24 rfl
  cases q24
  obtain ⟨u25, q25, r25⟩ := hrow 25 c25 rfl
  cases q25
  obtain ⟨u26, q26, r26⟩ := hrow 26 c26 rfl
  cases q26
  obtain ⟨u27, q27, r27⟩ := hrow 27 c27 rfl
  cases q27
  obtain ⟨u28, q28, r28⟩ := hrow 28 c28 rfl
  cases q28
  obtain ⟨u29, q29, r29⟩ := hrow 29 c29 rfl
  cases q29
  obtain ⟨u30, q30, r30⟩ := hrow 30 c30 rfl
  cases q30
  obtain ⟨u31, q31, r31⟩ := hrow 31 c31 rfl
  cases q31
  obtain ⟨u32, q32, r32⟩ := hrow 32 c32 rfl
  cases q32
  obtain ⟨u33, q33, r33⟩ := hrow 33 c33 rfl
  cases q33
  obtain ⟨u34, q34, r34⟩ := hrow 34 c34 rfl
  cases q34
  obtain ⟨u35, q35, r35⟩ := hrow 35 c35 rfl
  cases q35
  obtain ⟨u36, q36, r36⟩ := hrow 36 c36 rfl
  cases q36
  obtain ⟨u37, q37, r37⟩ := hrow 37 c37 rfl
  cases q37
  obtain ⟨u38, q38, r38⟩ := hrow 38 c38 rfl
  cases q38
  obtain ⟨u39, q39, r39⟩ := hrow 39 c39 rfl
  cases q39
  obtain ⟨u40, q40, r40⟩ := hrow 40 c40 rfl
  cases q40
  obtain ⟨u41, q41, r41⟩ := hrow 41 c41 rfl
  cases q41
  obtain ⟨u42, q42, r42⟩ := hrow 42 c42 rfl
  cases q42
  obtain ⟨u43, q43, r43⟩ := hrow 43 c43 rfl
  cases q43
  obtain ⟨u44, q44, r44⟩ := hrow 44 c44 rfl
  cases q44
  obtain ⟨u45, q45, r45⟩ := hrow 45 c45 rfl
  cases q45
  obtain ⟨u46, q46, r46⟩ := hrow 46 c46 rfl
  cases q46
  obtain ⟨u47, q47, r47⟩ := hrow 47 c47 rfl
  cases q47
  obtain ⟨u48, q48, r48⟩ := hrow 48 c48 rfl
  cases q48
  obtain ⟨u49, q49, r49⟩ := hrow 49 c49 rfl
  cases q49
  obtain ⟨u50, q50, r50⟩ := hrow 50 c50 rfl
  cases q50
  obtain ⟨u51, q51, r51⟩ := hrow 51 c51 rfl
  cases q51
  obtain ⟨u52, q52, r52⟩ := hrow 52 c52 rfl
  cases q52
  obtain ⟨u53, q53, r53⟩ := hrow 53 c53 rfl
  cases q53
  obtain ⟨u54, q54, r54⟩ := hrow 54 c54 rfl
  cases q54
  obtain ⟨u55, q55, r55⟩ := hrow 55 c55 rfl
  cases q55
  obtain ⟨u56, q56, r56⟩ := hrow 56 c56 rfl
  cases q56
  obtain ⟨u57, q57, r57⟩ := hrow 57 c57 rfl
  cases q57
  obtain ⟨n0, e0⟩ := cell_int Tryz.underlying3 r0
  obtain ⟨n1, e1⟩ := cell_int Tryz.underlying3 r1
  obtain ⟨n2, e2⟩ := cell_str Tryz.underlying9 r2
  obtain ⟨n3, e3⟩ := cell_int Tryz.underlying5 r3
  obtain ⟨n4, e4⟩ := cell_int Tryz.underlying3 r4
  obtain ⟨n5, e5⟩ := cell_str Tryz.underlying9 r5
  obtain ⟨n6, e6⟩ := cell_str Tryz.underlying9 r6
  obtain ⟨n7, e7⟩ := cell_int Tryz.underlying3 r7
  obtain ⟨n8, e8⟩ := cell_int Tryz.underlying3 r8
  obtain ⟨n10, e10⟩ := cell_int Tryz.underlying3 r10
  obtain ⟨n11, e11⟩ := cell_int Tryz.underlying3 r11
  obtain ⟨n12, e12⟩ := cell_int Tryz.underlying5 r12
  obtain ⟨n13, e13⟩ := cell_int Tryz.underlying5 r13
  obtain ⟨n14, e14⟩ := cell_int Tryz.underlying5 r14
  obtain ⟨n15, e15⟩ := cell_int Tryz.underlying5 r15
  obtain ⟨n16, e16⟩ := cell_int Tryz.underlying5 r16
  obtain ⟨n17, e17⟩ := cell_int Tryz.underlying5 r17
  obtain ⟨n18, e18⟩ := cell_int Tryz.underlying5 r18
  obtain ⟨n19, e19⟩ := cell_int Tryz.underlying5 r19
  obtain ⟨n20, e20⟩ := cell_int Tryz.underlying5 r20
  obtain ⟨n21, e21⟩ := cell_int Tryz.underlying5 r21
  obtain ⟨n22, e22⟩ := cell_int Tryz.underlying5 r22
  obtain ⟨n23, e23⟩ := cell_int Tryz.underlying5 r23
  obtain ⟨n24, e24⟩ := cell_int Tryz.underlying5 r24
  obtain ⟨n25, e25⟩ := cell_int Tryz.underlying5 r25
  obtain ⟨n26, e26⟩ := cell_int Tryz.underlying5 r26
  obtain ⟨n27, e27⟩ := cell_int Tryz.underlying5 r27
  obtain ⟨n28, e28⟩ := cell_int Tryz.underlying5 r28
  obtain ⟨n29, e29⟩ := cell_int Tryz.underlying5 r29
  obtain ⟨n30, e30⟩ := cell_int Tryz.underlying5 r30
  obtain ⟨n31, e31⟩ := cell_int Tryz.underlying5 r31
  obtain ⟨n32, e32⟩ := cell_int Tryz.underlying5 r32
  obtain ⟨n33, e33⟩ := cell_int Tryz.underlying5 r33
  obtain ⟨n34, e34⟩ := cell_int Tryz.underlying5 r34
  obtain ⟨n35, e35⟩ := cell_int Tryz.underlying5 r35
  obtain ⟨n36, e36⟩ := cell_int Tryz.underlying5 r36
  obtain ⟨n37, e37⟩ := cell_int Tryz.underlying5 r37
  obtain ⟨n38, e38⟩ := cell_int Tryz.underlying5 r38
  obtain ⟨n39, e39⟩ := cell_int Tryz.underlying5 r39
  obtain ⟨n40, e40⟩ := cell_int Tryz.underlying5 r40
  obtain ⟨n41, e41⟩ := cell_int Tryz.underlying5 r41
  obtain ⟨n42, e42⟩ := cell_int Tryz.underlying5 r42
  obtain ⟨n43, e43⟩ := cell_int Tryz.underlying5 r43
  obtain ⟨n44, e44⟩ := cell_int Tryz.underlying3 r44
  obtain ⟨n46, e46⟩ := cell_int Tryz.underlying3 r46
  obtain ⟨n47, e47⟩ := cell_int Tryz.underlying3 r47
  obtain ⟨n48, e48⟩ := cell_int Tryz.underlying3 r48
  obtain ⟨n49, e49⟩ := cell_int Tryz.underlying3 r49
  obtain ⟨n51, e51⟩ := cell_int Tryz.underlying3 r51
  obtain ⟨n52, e52⟩ := cell_int Tryz.underlying3 r52
  obtain ⟨n53, e53⟩ := cell_int Tryz.underlying3 r53
  obtain ⟨n54, e54⟩ := cell_int Tryz.underlying3 r54
  obtain ⟨n55, e55⟩ := cell_int Tryz.underlying5 r55
  subst e0 e1 e2 e3 e4 e5 e6 e7 e8 e10 e11 e12 e13 e14 e15 e16 e17 e18 e19 e20 e21 e22 e23 e24 e25 e26 e27 e28 e29 e30 e31 e32 e33 e34 e35 e36 e37 e38 e39 e40 e41 e42 e43 e44 e46 e47 e48 e49 e51 e52 e53 e54 e55
  obtain ⟨a9, len9, cap9, b9, u9, e9, g9⟩ := cell_arg 1 Tryz.underlying22 r9
  obtain ⟨a50, len50, cap50, b50, u50, e50, g50⟩ := cell_arg 2 Tryz.underlying32 r50
  obtain ⟨a56, len56, cap56, b56, u56, e56, g56⟩ := cell_arg 3 Tryz.underlying35 r56
  obtain ⟨a57, len57, cap57, b57, u57, e57, g57⟩ := cell_arg 4 Tryz.underlying36 r57
  obtain ⟨a45, len45, cap45, hm45, e45, ss, va, na, b45, w45, g45⟩ : ∃ (a : Option Addr) (len cap : Nat), len ≤ maxLen ∧ c45 = .slice a len cap ∧ ∃ (ss : Nat → ByteArray) (va : Nat → AV) (na : Nat → Nat) (b : ABlk × EB) (v : AV), Arg W 0 (.slice a len cap) (fun H v => RecR H v len ss va na) b v := by
    rcases hrec with hr | ⟨a, len, cap, hr, hl, hm, hx⟩
    · obtain rfl : c45 = .slice none 0 0 := by simpa [Value.cells] using hr
      obtain ⟨ss, va, na, b, v, h⟩ := arg_recs 0 (w := W) (a := none) (len := 0) (cap := 0) (.inl ⟨rfl, rfl, rfl⟩)
      exact ⟨none, 0, 0, Nat.zero_le _, rfl, ss, va, na, b, v, h⟩
    · obtain rfl : c45 = .slice (some a) len cap := by simpa [Value.cells] using hr
      rcases cell_slice Tryz.underlying29 r45 with h | ⟨x, l, c, h, _, _, hsp, hb⟩
      · cases h
      · cases h
        obtain ⟨ss, va, na, b, v, h⟩ := arg_recs 0 (w := W) (a := some a) (len := len) (cap := cap) (.inr ⟨a, rfl, ⟨hsp, hb⟩, hx⟩)
        exact ⟨some a, len, cap, by omega, rfl, ss, va, na, b, v, h⟩
  subst e45 e9 e50 e56 e57
  clear hA0 hval0
  obtain ⟨fn, hfn⟩ : ∃ fn, lookN.func 3 = some fn := by
    have := hasB
    cases h : lookN.func 3 with
    | none => rw [h] at this; cases this
    | some fn => exact ⟨fn, rfl⟩
  obtain ⟨cd, hcd⟩ : ∃ cd, fn.body = some cd := Option.isSome_iff_exists.1 (by have := hasB; rw [hfn] at this; exact this)
  let B : Nat → ABlk := fun i => match i with | 0 => b45.1 | 1 => b9.1 | 2 => b50.1 | 3 => b56.1 | 4 => b57.1 | _ => .defd
  let x : ActA := ⟨n0, n1, n2, n3, n4, n5, n6, n7, n8, u9, n10, n11, fun j => match j with | 0 => n12 | 1 => n13 | 2 => n14 | 3 => n15 | 4 => n16 | 5 => n17 | 6 => n18 | 7 => n19 | 8 => n20 | 9 => n21 | 10 => n22 | 11 => n23 | 12 => n24 | 13 => n25 | 14 => n26 | 15 => n27 | 16 => n28 | 17 => n29 | 18 => n30 | 19 => n31 | 20 => n32 | 21 => n33 | 22 => n34 | 23 => n35 | 24 => n36 | 25 => n37 | 26 => n38 | 27 => n39 | 28 => n40 | 29 => n41 | 30 => n42 | _ => n43, n44, w45, n46, n47, n48, n49, u50, n51, n52, n53, n54, n55, u56, u57⟩
  let bs : List (ABlk × EB) := [b45, b9, b50, b56, b57, (.defd, ⟨0, 0, 0⟩), (.defd, ⟨0, 0, 0⟩), (.defd, ⟨0, 0, 0⟩), (.defd, ⟨0, 0, 0⟩), (.defd, ⟨0, 0, 0⟩), (.defd, ⟨0, 0, 0⟩), (.defd, ⟨0, 0, 0⟩), (.defd, ⟨0, 0, 0⟩), (.defd, ⟨0, 0, 0⟩), (.defd, ⟨0, 0, 0⟩), (.defd, ⟨0, 0, 0⟩), (.defd, ⟨0, 0, 0⟩), (.defd, ⟨0, 0, 0⟩), (.defd, ⟨0, 0, 0⟩), (.defd, ⟨0, 0, 0⟩), (.defd, ⟨0, 0, 0⟩), (.defd, ⟨0, 0, 0⟩), (.defd, ⟨0, 0, 0⟩), (.defd, ⟨0, 0, 0⟩), (.defd, ⟨0, 0, 0⟩), (.defd, ⟨0, 0, 0⟩)]
  have hbs : hA (bs.map Prod.fst) = h5 B := rfl
  have key := law_callZ (w := W) lookN_ok (fun B => lookN_ext B) hfn hcd bs (args := [.agg (actL x)]) (us := [.agg ⟨.int .i64 n0 :: .int .i64 n1 :: .string n2 :: .int .u8 n3 :: .int .i64 n4 :: .string n5 :: .string n6 :: .int .i64 n7 :: .int .i64 n8 :: .slice a9 len9 cap9 :: .int .i64 n10 :: .int .i64 n11 :: .int .u8 n12 :: .int .u8 n13 :: .int .u8 n14 :: .int .u8 n15 :: .int .u8 n16 :: .int .u8 n17 :: .int .u8 n18 :: .int .u8 n19 :: .int .u8 n20 :: .int .u8 n21 :: .int .u8 n22 :: .int .u8 n23 :: .int .u8 n24 :: .int .u8 n25 :: .int .u8 n26 :: .int .u8 n27 :: .int .u8 n28 :: .int .u8 n29 :: .int .u8 n30 :: .int .u8 n31 :: .int .u8 n32 :: .int .u8 n33 :: .int .u8 n34 :: .int .u8 n35 :: .int .u8 n36 :: .int .u8 n37 :: .int .u8 n38 :: .int .u8 n39 :: .int .u8 n40 :: .int .u8 n41 :: .int .u8 n42 :: .int .u8 n43 :: .int .i64 n44 :: .slice a45 len45 cap45 :: .int .i64 n46 :: .int .i64 n47 :: .int .i64 n48 :: .int .i64 n49 :: .slice a50 len50 cap50 :: .int .i64 n51 :: .int .i64 n52 :: .int .i64 n53 :: .int .i64 n54 :: .int .u8 n55 :: .slice a56 len56 cap56 :: .slice a57 len57 cap57 :: []⟩])
    (by
      rw [hbs]
      exact poolNone_law x B len45 len50 len9 len56 len57 ss va na (g45.rd _ rfl) (g50.rd _ rfl) (g9.rd _ rfl) (g56.rd _ rfl) (g57.rd _ rfl) (by unfold maxLen at hm45; omega))
    (by
      intro b hb
      simp only [bs, List.mem_cons, List.not_mem_nil, or_false] at hb
      rcases hb with rfl | rfl | rfl | rfl | rfl | hb
      · exact g45.own
      · exact g9.own
      · exact g50.own
      · exact g56.own
      · exact g57.own
      · have : b = (.defd, ⟨0, 0, 0⟩) := by simpa using hb
        rw [this]; rfl)
    (by
      intro k b hk E hE
      match k, hk with
      | 0, hk => (cases hk; exact g45.br E hE)
      | 1, hk => (cases hk; exact g9.br E hE)
      | 2, hk => (cases hk; exact g50.br E hE)
      | 3, hk => (cases hk; exact g56.br E hE)
      | 4, hk => (cases hk; exact g57.br E hE)
      | k + 5, hk =>
        have : b = (.defd, ⟨0, 0, 0⟩) := by
          have h : (List.replicate 21 ((.defd, ⟨0, 0, 0⟩) : ABlk × EB))[k]? = some b := hk
          exact (List.mem_replicate.1 (List.mem_of_getElem? h)).2
        rw [this]; trivial)
    (by
      intro E hE
      have z45 := g45.val E (hE 0 b45 rfl)
      have z9 := g9.val E (hE 1 b9 rfl)
      have z50 := g50.val E (hE 2 b50 rfl)
      have z56 := g56.val E (hE 3 b56 rfl)
      have z57 := g57.val E (hE 4 b57 rfl)
      show [Value.agg ⟨.int .i64 n0 :: .int .i64 n1 :: .string n2 :: .int .u8 n3 :: .int .i64 n4 :: .string n5 :: .string n6 :: .int .i64 n7 :: .int .i64 n8 :: conc E u9 :: .int .i64 n10 :: .int .i64 n11 :: .int .u8 n12 :: .int .u8 n13 :: .int .u8 n14 :: .int .u8 n15 :: .int .u8 n16 :: .int .u8 n17 :: .int .u8 n18 :: .int .u8 n19 :: .int .u8 n20 :: .int .u8 n21 :: .int .u8 n22 :: .int .u8 n23 :: .int .u8 n24 :: .int .u8 n25 :: .int .u8 n26 :: .int .u8 n27 :: .int .u8 n28 :: .int .u8 n29 :: .int .u8 n30 :: .int .u8 n31 :: .int .u8 n32 :: .int .u8 n33 :: .int .u8 n34 :: .int .u8 n35 :: .int .u8 n36 :: .int .u8 n37 :: .int .u8 n38 :: .int .u8 n39 :: .int .u8 n40 :: .int .u8 n41 :: .int .u8 n42 :: .int .u8 n43 :: .int .i64 n44 :: conc E w45 :: .int .i64 n46 :: .int .i64 n47 :: .int .i64 n48 :: .int .i64 n49 :: conc E u50 :: .int .i64 n51 :: .int .i64 n52 :: .int .i64 n53 :: .int .i64 n54 :: .int .u8 n55 :: conc E u56 :: conc E u57 :: []⟩] = _
      rw [z9, z45, z50, z56, z57])
  refine key.mono fun e W' ⟨he, bel⟩ => ?_
  subst he
  exact ⟨_, rfl, _, _, _, [], _, [], hW', trodAll_mk1 (shut_bool Tryz.underlying4 _), (trodAll_cons_mk (Below.trod laidOut (by kernel_rfl) (of_decide_eq_true (by kernel_rfl)) k0 bel lt0) trodAll_mk0), rfl, bel.frame _, fun h => by cases h⟩

theorem over : Rows.poolNoneRow.holds Tryz.pinned (OpenSpec.ofChange Rows.poolNoneSpec) :=
  OpenClaim.holds_of_wide 3 Tryz.f3 rfl rfl rfl rfl rfl rfl rfl ⟨rfl, rfl, rfl, rfl, rfl⟩ rfl rfl rfl rfl rfl cf1 Tryz.func3 jf cf2 cf3
    (fun os started H enc _ => lifted os started H enc)

theorem proved : Rows.PoolNoneCardSaid :=
  Claim7.holds_tied_plain_at .later [] [.data, .sentinel, .sentinel, .pinned] true (true, "cbb7302e7709ae8de86530219339a063e1d96191601844cbf93c27ad55cd13e3") true
    over (fun _ h => by cases h) cf4 (fun _ h => by cases h) poolNone_row_tie rfl ⟨rfl, rfl⟩ cf5 rfl
    (fun f fn hf hfn => by
      obtain rfl : f = 3 := Option.some.inj (cf1.symm.trans hf) |>.symm
      obtain rfl : fn = Tryz.f3 := (Option.some.inj (Tryz.func3.symm.trans hfn)).symm
      exact ⟨cf6, fun j t ht => by
        rw [Tryz.params3] at ht
        have hm : t ∈ [40] := by simpa using Array.mem_of_getElem? ht
        exact (show Tryz.prog.wantsStandIn t = false by simpa using List.all_eq_true.1 cf8 t hm)⟩)
    cf7
#print axioms proved
end poolNone

end Go.Proofs.YtkgcignjblgifaaGreatDoor
