/-
  PROVED HERE: the function AdminNone, called with any act, answers true and leaves the act as it was. The card of the given row: its listed variables are tied to the program's text (given).
-/
import Derived.Test.YtgmediofcifhlaaGreatDoorVAAY
import Derived.Test.YtgmediofcifhlaaGreatDoorVABD
import Derived.Test.YtgmediofcifhlaaGreatDoorRows
import Derived.Test.YtgmediofcifhlaaGreatDoorCards
import Derived.Test.YtgmediofcifhlaaGreatDoorTie
import Derived.WalkKit
import Derived.ProofKit
import Derived.OpenShut
import Derived.ShutString
import Derived.ChangeOld
import Derived.Below
import Derived.SevenTiedAt
import Derived.LaidMore
import Derived.Lay
import Derived.Stop.Joined
import Derived.Deep.Slices
set_option maxHeartbeats 8000000
set_option linter.unusedSimpArgs false
set_option linter.unusedVariables false
namespace Go.Proofs.YtgmediofcifhlaaGreatDoor
open Go.ChangeShapes Go.WideShapes Go.ChangeAt Go.RowKit
open Go.Ev HS
namespace adminNone
theorem own : ownKnob Tryz.prog.godebug = none := by kernel_rfl
theorem laidOut : laidOutB Tryz.prog = true := by kernel_rfl
theorem hasB : (match lookN.func 3 with | some fn => fn.body.isSome | none => false) = true := by kernel_rfl
theorem ctV : Tryz.prog.cellTypes Tryz.prog.depth 37 = some [3, 3, 3, 9, 9, 22, 3, 3, 3, 9, 23, 3, 9, 9, 3, 3, 24, 3, 3, 5, 5, 5, 5, 5, 5, 5, 5, 5, 5, 5, 5, 5, 5, 5, 5, 5, 5, 5, 5, 5, 5, 5, 5, 5, 5, 5, 5, 5, 5, 5, 5, 3, 3, 3, 3, 5, 23, 31] := by kernel_rfl
theorem cellsV : Tryz.prog.cellsOf 37 = 58 := by kernel_rfl
theorem array58 {α : Type} {cs : Array α} (h : cs.size = 58) : ∃ c0 c1 c2 c3 c4 c5 c6 c7 c8 c9 c10 c11 c12 c13 c14 c15 c16 c17 c18 c19 c20 c21 c22 c23 c24 c25 c26 c27 c28 c29 c30 c31 c32 c33 c34 c35 c36 c37 c38 c39 c40 c41 c42 c43 c44 c45 c46 c47 c48 c49 c50 c51 c52 c53 c54 c55 c56 c57, cs = ⟨c0 :: c1 :: c2 :: c3 :: c4 :: c5 :: c6 :: c7 :: c8 :: c9 :: c10 :: c11 :: c12 :: c13 :: c14 :: c15 :: c16 :: c17 :: c18 :: c19 :: c20 :: c21 :: c22 :: c23 :: c24 :: c25 :: c26 :: c27 :: c28 :: c29 :: c30 :: c31 :: c32 :: c33 :: c34 :: c35 :: c36 :: c37 :: c38 :: c39 :: c40 :: c41 :: c42 :: c43 :: c44 :: c45 :: c46 :: c47 :: c48 :: c49 :: c50 :: c51 :: c52 :: c53 :: c54 :: c55 :: c56 :: c57 :: []⟩ := by
  obtain ⟨l⟩ := cs
  match l, h with
  | c0 :: c1 :: c2 :: c3 :: c4 :: c5 :: c6 :: c7 :: c8 :: c9 :: c10 :: c11 :: c12 :: c13 :: c14 :: c15 :: c16 :: c17 :: c18 :: c19 :: c20 :: c21 :: c22 :: c23 :: c24 :: c25 :: c26 :: c27 :: c28 :: c29 :: c30 :: c31 :: c32 :: c33 :: c34 :: c35 :: c36 :: c37 :: c38 :: c39 :: c40 :: c41 :: c42 :: c43 :: c44 :: c45 :: c46 :: c47 :: c48 :: c49 :: c50 :: c51 :: c52 :: c53 :: c54 :: c55 :: c56 :: c57 :: [], _ => exact ⟨c0, c1, c2, c3, c4, c5, c6, c7, c8, c9, c10, c11, c12, c13, c14, c15, c16, c17, c18, c19, c20, c21, c22, c23, c24, c25, c26, c27, c28, c29, c30, c31, c32, c33, c34, c35, c36, c37, c38, c39, c40, c41, c42, c43, c44, c45, c46, c47, c48, c49, c50, c51, c52, c53, c54, c55, c56, c57, rfl⟩
def LD : List (String × DataW Unit) := [("unicode/utf8.acceptRanges", Rows.laid_unicode_utf8_acceptRanges), ("unicode/utf8.first", Rows.laid_unicode_utf8_first)]
set_option maxRecDepth 100000 in
theorem lifted (os : Os) (started : os.Started) (H : Type) (enc : TypeId × Value → H) :
    ReturnsInHanded {} Tryz.checked os 3 .any (fun w args => (Rows.adminNoneSpec.pre enc Tryz.prog Tryz.f3 Rows.adminNoneRow.domain false w args ∧ laidMetH Tryz.prog LD w) ∧ sizedMet enc Tryz.prog Tryz.f3 (OpenSpec.ofChange Rows.adminNoneSpec) false w args) (Rows.adminNoneSpec.post enc Tryz.prog Tryz.f3 false true false false) := by
  refine returnsInHanded_of_change_and (C := Tryz.checked) (X := fun w _ => laidMetH Tryz.prog LD w) (fun _ _ _ hh h => h.of_heap hh) own started (by kernel_rfl) Tryz.func3
    (ChangeSpec.witness_shaped (enc := enc) (C := Tryz.checked) (os := os) (X := fun w _ => laidMetH Tryz.prog LD w) false (World.laidAll Tryz.prog os LD) #[.agg ⟨.int .i64 0 :: .int .i64 0 :: .int .i64 0 :: .string ByteArray.empty :: .string ByteArray.empty :: .slice none 0 0 :: .int .i64 0 :: .int .i64 0 :: .int .i64 0 :: .string ByteArray.empty :: .slice none 0 0 :: .int .i64 0 :: .string ByteArray.empty :: .string ByteArray.empty :: .int .i64 0 :: .int .i64 0 :: .slice none 0 0 :: .int .i64 0 :: .int .i64 0 :: .int .u8 0 :: .int .u8 0 :: .int .u8 0 :: .int .u8 0 :: .int .u8 0 :: .int .u8 0 :: .int .u8 0 :: .int .u8 0 :: .int .u8 0 :: .int .u8 0 :: .int .u8 0 :: .int .u8 0 :: .int .u8 0 :: .int .u8 0 :: .int .u8 0 :: .int .u8 0 :: .int .u8 0 :: .int .u8 0 :: .int .u8 0 :: .int .u8 0 :: .int .u8 0 :: .int .u8 0 :: .int .u8 0 :: .int .u8 0 :: .int .u8 0 :: .int .u8 0 :: .int .u8 0 :: .int .u8 0 :: .int .u8 0 :: .int .u8 0 :: .int .u8 0 :: .int .u8 0 :: .int .i64 0 :: .int .i64 0 :: .int .i64 0 :: .int .i64 0 :: .int .u8 0 :: .slice none 0 0 :: .slice none 0 0 :: []⟩] 12 (World.laidAll_os _ _ _)
      (World.shaped_of_ZipB (by as_aux_lemma => kernel_rfl) (by as_aux_lemma => kernel_rfl)) (by as_aux_lemma => kernel_rfl) (by as_aux_lemma => kernel_rfl) (by as_aux_lemma => kernel_rfl)
      (by rw [MakeChecks.laidMetH_plain _ _ _ (by kernel_rfl)]; exact laidMet_laidAll _ (by as_aux_lemma => kernel_rfl) (by as_aux_lemma => kernel_rfl))) ?_
  intro W base args ds gs before hval0 hW hcnd _ hL _
  have hval : ∀ (j : Nat) t v, Tryz.f3.params[j]? = some t → args[j]? = some v → Value.okWide Tryz.prog W .any base t v := hval0
  have hW' := hW
  obtain ⟨p, q, hA0, hV, rfl, hfz, hnd⟩ := hW
  have hAll : DataW.TrodAll enc Tryz.prog W 0 (fun _ => true) true Tryz.f3.params.toList args.toList ds p := hA0
  rw [Tryz.params3] at hAll hval
  obtain ⟨v0, vs0, d0, ds0, p0, q0, hargs, rfl, rfl, h0, r0⟩ := trodAll_cons hAll
  obtain ⟨rfl, rfl, rfl⟩ := trodAll_nil r0
  obtain rfl : args = #[v0] := by cases args; simp_all
  obtain ⟨rfl, rfl⟩ := trodVars_none hV
  have k0 := h0
  have lt0 : ∀ x ∈ p0, x.block < W.heap.size := by obtain ⟨m, hm⟩ := k0; exact DataW.trod_lt m _ _ _ hm
  obtain ⟨fuel, hf⟩ := h0
  have hv := hval 0 37 v0 rfl rfl
  simp only [Value.okWide, Tryz.underlying37] at hv
  obtain ⟨cs', rfl, hsz, ts, hts, _, hrow⟩ := hv
  rw [ctV] at hts
  cases hts
  obtain ⟨c0, c1, c2, c3, c4, c5, c6, c7, c8, c9, c10, c11, c12, c13, c14, c15, c16, c17, c18, c19, c20, c21, c22, c23, c24, c25, c26, c27, c28, c29, c30, c31, c32, c33, c34, c35, c36, c37, c38, c39, c40, c41, c42, c43, c44, c45, c46, c47, c48, c49, c50, c51, c52, c53, c54, c55, c56, c57, rfl⟩ := array58 (hsz.trans cellsV)
  obtain ⟨u0, q0, r0⟩ := hrow 0 c0 rfl
  cases q0
  obtain ⟨u1, q1, r1⟩ := hrow 1 c1 rfl
  cases q1
  obtain ⟨u2, q2, r2⟩ := hrow 2 c2 rfl
  cases q2
  obtain ⟨u3, q3, r3⟩ := hrow 3 c3 rfl
  cases q3
  obtain ⟨u4, q4, r4⟩ := hrow 4 c4 rfl
  cases q4
  obtain ⟨u5, q5, r5⟩ := hrow 5 c5 rfl
  cases q5
  obtain ⟨u6, q6, r6⟩ := hrow 6 c6 rfl
  cases q6
  obtain ⟨u7, q7, r7⟩ := hrow 7 c7 rfl
  cases q7
  obtain ⟨u8, q8, r8⟩ := hrow 8 c8 rfl
  cases q8
  obtain ⟨u9, q9, r9⟩ := hrow 9 c9 rfl
  cases q9
  obtain ⟨u10, q10, r10⟩ := hrow 10 c10 rfl
  cases q10
  obtain ⟨u11, q11, r11⟩ := hrow 11 c11 rfl
  cases q11
  obtain ⟨u12, q12, r12⟩ := hrow 12 c12 rfl
  cases q12
  obtain ⟨u13, q13, r13⟩ := hrow 13 c13 rfl
  cases q13
  obtain ⟨u14, q14, r14⟩ := hrow 14 c14 rfl
  cases q14
  obtain ⟨u15, q15, r15⟩ := hrow 15 c15 rfl
  cases q15
  obtain ⟨u16, q16, r16⟩ := hrow 16 c16 rfl
  cases q16
  obtain ⟨u17, q17, r17⟩ := hrow 17 c17 rfl
  cases q17
  obtain ⟨u18, q18, r18⟩ := hrow 18 c18 rfl
  cases q18
  obtain ⟨u19, q19, r19⟩ := hrow 19 c19 rfl
  cases q19
  obtain ⟨u20, q20, r20⟩ := hrow 20 c20 rfl
  cases q20
  obtain ⟨u21, q21, r21⟩ := hrow 21 c21 rfl
  cases q21
  obtain ⟨u22, q22, r22⟩ := hrow 22 c22 rfl
  cases q22
  obtain ⟨u23, q23, r23⟩ := hrow 23 c23 rfl
  cases q23
  obtain ⟨u24, q24, r24⟩ := hrow 24 c24 rfl
  cases q24
  obtain ⟨u25, q25, r25⟩ := hrow 25 c25 rfl
  cases q25
  obtain ⟨u26, q26, r26⟩ := hrow 26 c26 rfl
  cases q26
  obtain ⟨u27, q27, r27⟩ := hrow 27 c27 rfl
  cases q27
  obtain ⟨u28, q28, r28⟩ := hrow 28 c28 rfl
  cases q28
  obtain ⟨u29, q29, r29⟩ := hrow 29 c29 rfl
  cases q29
  obtain ⟨u30, q30, r30⟩ := hrow 30 c30 rfl
  cases q30
  obtain ⟨u31, q31, r31⟩ := hrow 31 c31 rfl
  cases q31
  obtain ⟨u32, q32, r32⟩ := hrow 32 c32 rfl
  cases q32
  obtain ⟨u33, q33, r33⟩ := hrow 33 c33 rfl
  cases q33
  obtain ⟨u34, q34, r34⟩ := hrow 34 c34 rfl
  cases q34
  obtain ⟨u35, q35, r35⟩ := hrow 35 c35 rfl
  cases q35
  obtain ⟨u36, q36, r36⟩ := hrow 36 c36 rfl
  cases q36
  obtain ⟨u37, q37, r37⟩ := hrow 37 c37 rfl
  cases q37
  obtain ⟨u38, q38, r38⟩ := hrow 38 c38 rfl
  cases q38
  obtain ⟨u39, q39, r39⟩ := hrow 39 c39 rfl
  cases q39
  obtain ⟨u40, q40, r40⟩ := hrow 40 c40 rfl
  cases q40
  obtain ⟨u41, q41, r41⟩ := hrow 41 c41 rfl
  cases q41
  obtain ⟨u42, q42, r42⟩ := hrow 42 c42 rfl
  cases q42
  obtain ⟨u43, q43, r43⟩ := hrow 43 c43 rfl
  cases q43
  obtain ⟨u44, q44, r44⟩ := hrow 44 c44 rfl
  cases q44
  obtain ⟨u45, q45, r45⟩ := hrow 45 c45 rfl
  cases q45
  obtain ⟨u46, q46, r46⟩ := hrow 46 c46 rfl
  cases q46
  obtain ⟨u47, q47, r47⟩ := hrow 47 c47 rfl
  cases q47
  obtain ⟨u48, q48, r48⟩ := hrow 48 c48 rfl
  cases q48
  obtain ⟨u49, q49, r49⟩ := hrow 49 c49 rfl
  cases q49
  obtain ⟨u50, q50, r50⟩ := hrow 50 c50 rfl
  cases q50
  obtain ⟨u51, q51, r51⟩ := hrow 51 c51 rfl
  cases q51
  obtain ⟨u52, q52, r52⟩ := hrow 52 c52 rfl
  cases q52
  obtain ⟨u53, q53, r53⟩ := hrow 53 c53 rfl
  cases q53
  obtain ⟨u54, q54, r54⟩ := hrow 54 c54 rfl
  cases q54
  obtain ⟨u55, q55, r55⟩ := hrow 55 c55 rfl
  cases q55
  obtain ⟨u56, q56, r56⟩ := hrow 56 c56 rfl
  cases q56
  obtain ⟨u57, q57, r57⟩ := hrow 57 c57 rfl
  cases q57
  obtain ⟨n0, e0⟩ := zia Tryz.underlying3 r0
  obtain ⟨n1, e1⟩ := zia Tryz.underlying3 r1
  obtain ⟨n2, e2⟩ := zia Tryz.underlying3 r2
  obtain ⟨n3, e3⟩ := zik Tryz.underlying9 r3
  obtain ⟨n4, e4⟩ := zik Tryz.underlying9 r4
  obtain ⟨n6, e6⟩ := zia Tryz.underlying3 r6
  obtain ⟨n7, e7⟩ := zia Tryz.underlying3 r7
  obtain ⟨n8, e8⟩ := zia Tryz.underlying3 r8
  obtain ⟨n9, e9⟩ := zik Tryz.underlying9 r9
  obtain ⟨n11, e11⟩ := zia Tryz.underlying3 r11
  obtain ⟨n12, e12⟩ := zik Tryz.underlying9 r12
  obtain ⟨n13, e13⟩ := zik Tryz.underlying9 r13
  obtain ⟨n14, e14⟩ := zia Tryz.underlying3 r14
  obtain ⟨n15, e15⟩ := zia Tryz.underlying3 r15
  obtain ⟨n17, e17⟩ := zia Tryz.underlying3 r17
  obtain ⟨n18, e18⟩ := zia Tryz.underlying3 r18
  obtain ⟨n19, e19⟩ := zia Tryz.underlying5 r19
  obtain ⟨n20, e20⟩ := zia Tryz.underlying5 r20
  obtain ⟨n21, e21⟩ := zia Tryz.underlying5 r21
  obtain ⟨n22, e22⟩ := zia Tryz.underlying5 r22
  obtain ⟨n23, e23⟩ := zia Tryz.underlying5 r23
  obtain ⟨n24, e24⟩ := zia Tryz.underlying5 r24
  obtain ⟨n25, e25⟩ := zia Tryz.underlying5 r25
  obtain ⟨n26, e26⟩ := zia Tryz.underlying5 r26
  obtain ⟨n27, e27⟩ := zia Tryz.underlying5 r27
  obtain ⟨n28, e28⟩ := zia Tryz.underlying5 r28
  obtain ⟨n29, e29⟩ := zia Tryz.underlying5 r29
  obtain ⟨n30, e30⟩ := zia Tryz.underlying5 r30
  obtain ⟨n31, e31⟩ := zia Tryz.underlying5 r31
  obtain ⟨n32, e32⟩ := zia Tryz.underlying5 r32
  obtain ⟨n33, e33⟩ := zia Tryz.underlying5 r33
  obtain ⟨n34, e34⟩ := zia Tryz.underlying5 r34
  obtain ⟨n35, e35⟩ := zia Tryz.underlying5 r35
  obtain ⟨n36, e36⟩ := zia Tryz.underlying5 r36
  obtain ⟨n37, e37⟩ := zia Tryz.underlying5 r37
  obtain ⟨n38, e38⟩ := zia Tryz.underlying5 r38
  obtain ⟨n39, e39⟩ := zia Tryz.underlying5 r39
  obtain ⟨n40, e40⟩ := zia Tryz.underlying5 r40
  obtain ⟨n41, e41⟩ := zia Tryz.underlying5 r41
  obtain ⟨n42, e42⟩ := zia Tryz.underlying5 r42
  obtain ⟨n43, e43⟩ := zia Tryz.underlying5 r43
  obtain ⟨n44, e44⟩ := zia Tryz.underlying5 r44
  obtain ⟨n45, e45⟩ := zia Tryz.underlying5 r45
  obtain ⟨n46, e46⟩ := zia Tryz.underlying5 r46
  obtain ⟨n47, e47⟩ := zia Tryz.underlying5 r47
  obtain ⟨n48, e48⟩ := zia Tryz.underlying5 r48
  obtain ⟨n49, e49⟩ := zia Tryz.underlying5 r49
  obtain ⟨n50, e50⟩ := zia Tryz.underlying5 r50
  obtain ⟨n51, e51⟩ := zia Tryz.underlying3 r51
  obtain ⟨n52, e52⟩ := zia Tryz.underlying3 r52
  obtain ⟨n53, e53⟩ := zia Tryz.underlying3 r53
  obtain ⟨n54, e54⟩ := zia Tryz.underlying3 r54
  obtain ⟨n55, e55⟩ := zia Tryz.underlying5 r55
  subst e0 e1 e2 e3 e4 e6 e7 e8 e9 e11 e12 e13 e14 e15 e17 e18 e19 e20 e21 e22 e23 e24 e25 e26 e27 e28 e29 e30 e31 e32 e33 e34 e35 e36 e37 e38 e39 e40 e41 e42 e43 e44 e45 e46 e47 e48 e49 e50 e51 e52 e53 e54 e55
  obtain ⟨a10, len10, cap10, b10, u10, e10, g10⟩ := zvm 1 Tryz.underlying23 r10
  obtain ⟨a16, len16, cap16, b16, u16, e16, g16⟩ := zvm 2 Tryz.underlying24 r16
  obtain ⟨a56, len56, cap56, b56, u56, e56, g56⟩ := zvm 3 Tryz.underlying23 r56
  obtain ⟨a57, len57, cap57, b57, u57, e57, g57⟩ := zvm 4 Tryz.underlying31 r57
  subst e10 e16 e56 e57
  obtain ⟨mL, yL, tL⟩ := act_l hf
  have tL : DataW.trod enc Tryz.prog W 0 (fun _ => true) true mL 22 [c5] = some yL := tL
  obtain ⟨a5, len5, cap5, ss, b5, u5, e5, g5⟩ : ∃ (a : Option Addr) (len cap : Nat) (ss : Nat → ByteArray) (b : ABlk × EB) (v : AV), c5 = .slice a len cap ∧ Arg W 0 (.slice a len cap) (fun H v => SlR H v len (fun k => .str (ss k))) b v := by
    rcases Go.Deep.open_strs Tryz.underlying22 Tryz.underlying9 (by kernel_rfl) tL with ⟨hcs, _⟩ | ⟨x, l, c, m, Sx, hcs, _, hl, hm, hmm, _, hx⟩
    · simp only [List.cons.injEq, and_true] at hcs
      subst hcs
      obtain ⟨ss, b, v, h1, h2⟩ := zba1 0 (w := W) (a := none) (len := 0) (cap := 0) (e := 9) (Sx := fun _ => ByteArray.empty) (.inl ⟨rfl, rfl, rfl⟩)
      exact ⟨_, _, _, ss, b, v, rfl, h2⟩
    · simp only [List.cons.injEq, and_true] at hcs
      subst hcs
      rcases zqo Tryz.underlying22 r5 with h | ⟨x', l', c', h, _, _, hsp, hb⟩
      · cases h
      · cases h
        obtain ⟨ss, b, v, h1, h2⟩ := zba1 0 (w := W) (a := some x) (len := l) (cap := c) (e := 9) (Sx := Sx) (.inr ⟨x, rfl, hl, hm, fun i hi => (hx i (by rw [hmm]; simp; omega)).1, hsp, hb⟩)
        exact ⟨_, _, _, ss, b, v, rfl, h2⟩
  subst e5
  clear hA0 hval0
  obtain ⟨fn, hfn⟩ : ∃ fn, lookN.func 3 = some fn := by
    have := hasB
    cases h : lookN.func 3 with
    | none => rw [h] at this; cases this
    | some fn => exact ⟨fn, rfl⟩
  obtain ⟨cd, hcd⟩ : ∃ cd, fn.body = some cd := Option.isSome_iff_exists.1 (by have := hasB; rw [hfn] at this; exact this)
  let B : Nat → ABlk := fun i => match i with | 0 => b5.1 | 1 => b10.1 | 2 => b16.1 | 3 => b56.1 | _ => b57.1
  let x : ActA := ⟨n0, n1, n2, n3, n4, u5, n6, n7, n8, n9, u10, n11, n12, n13, n14, n15, u16, n17, n18, fun j => match j with | 0 => n19 | 1 => n20 | 2 => n21 | 3 => n22 | 4 => n23 | 5 => n24 | 6 => n25 | 7 => n26 | 8 => n27 | 9 => n28 | 10 => n29 | 11 => n30 | 12 => n31 | 13 => n32 | 14 => n33 | 15 => n34 | 16 => n35 | 17 => n36 | 18 => n37 | 19 => n38 | 20 => n39 | 21 => n40 | 22 => n41 | 23 => n42 | 24 => n43 | 25 => n44 | 26 => n45 | 27 => n46 | 28 => n47 | 29 => n48 | 30 => n49 | _ => n50, n51, n52, n53, n54, n55, u56, u57⟩
  let bs : List (ABlk × EB) := [b5, b10, b16, b56, b57]
  have hbs : hA (bs.map Prod.fst) = h5 B := rfl
  have key := zkc1 (w := W) zyj1 (fun B => zvd1 B) hfn hcd bs (args := [.agg (actL x)]) (us := [.agg ⟨.int .i64 n0 :: .int .i64 n1 :: .int .i64 n2 :: .string n3 :: .string n4 :: .slice a5 len5 cap5 :: .int .i64 n6 :: .int .i64 n7 :: .int .i64 n8 :: .string n9 :: .slice a10 len10 cap10 :: .int .i64 n11 :: .string n12 :: .string n13 :: .int .i64 n14 :: .int .i64 n15 :: .slice a16 len16 cap16 :: .int .i64 n17 :: .int .i64 n18 :: .int .u8 n19 :: .int .u8 n20 :: .int .u8 n21 :: .int .u8 n22 :: .int .u8 n23 :: .int .u8 n24 :: .int .u8 n25 :: .int .u8 n26 :: .int .u8 n27 :: .int .u8 n28 :: .int .u8 n29 :: .int .u8 n30 :: .int .u8 n31 :: .int .u8 n32 :: .int .u8 n33 :: .int .u8 n34 :: .int .u8 n35 :: .int .u8 n36 :: .int .u8 n37 :: .int .u8 n38 :: .int .u8 n39 :: .int .u8 n40 :: .int .u8 n41 :: .int .u8 n42 :: .int .u8 n43 :: .int .u8 n44 :: .int .u8 n45 :: .int .u8 n46 :: .int .u8 n47 :: .int .u8 n48 :: .int .u8 n49 :: .int .u8 n50 :: .int .i64 n51 :: .int .i64 n52 :: .int .i64 n53 :: .int .i64 n54 :: .int .u8 n55 :: .slice a56 len56 cap56 :: .slice a57 len57 cap57 :: []⟩])
    (by
      rw [hbs]
      exact zpo x B len5 len10 len16 len56 len57 ss (g5.rd _ rfl) (g10.rd _ rfl) (g16.rd _ rfl) (g56.rd _ rfl) (g57.rd _ rfl))
    (by
      intro b hb
      simp only [bs, List.mem_cons, List.not_mem_nil, or_false] at hb
      rcases hb with rfl | rfl | rfl | rfl | rfl
      · exact g5.own
      · exact g10.own
      · exact g16.own
      · exact g56.own
      · exact g57.own)
    (by
      intro k b hk E hE
      match k, hk with
      | 0, hk => (cases hk; exact g5.br E hE)
      | 1, hk => (cases hk; exact g10.br E hE)
      | 2, hk => (cases hk; exact g16.br E hE)
      | 3, hk => (cases hk; exact g56.br E hE)
      | 4, hk => (cases hk; exact g57.br E hE)
      | k + 5, hk => (exact absurd hk (by simp [bs])))
    (by
      intro E hE
      have z5 := g5.val E (hE 0 b5 rfl)
      have z10 := g10.val E (hE 1 b10 rfl)
      have z16 := g16.val E (hE 2 b16 rfl)
      have z56 := g56.val E (hE 3 b56 rfl)
      have z57 := g57.val E (hE 4 b57 rfl)
      show [Value.agg ⟨.int .i64 n0 :: .int .i64 n1 :: .int .i64 n2 :: .string n3 :: .string n4 :: conc E u5 :: .int .i64 n6 :: .int .i64 n7 :: .int .i64 n8 :: .string n9 :: conc E u10 :: .int .i64 n11 :: .string n12 :: .string n13 :: .int .i64 n14 :: .int .i64 n15 :: conc E u16 :: .int .i64 n17 :: .int .i64 n18 :: .int .u8 n19 :: .int .u8 n20 :: .int .u8 n21 :: .int .u8 n22 :: .int .u8 n23 :: .int .u8 n24 :: .int .u8 n25 :: .int .u8 n26 :: .int .u8 n27 :: .int .u8 n28 :: .int .u8 n29 :: .int .u8 n30 :: .int .u8 n31 :: .int .u8 n32 :: .int .u8 n33 :: .int .u8 n34 :: .int .u8 n35 :: .int .u8 n36 :: .int .u8 n37 :: .int .u8 n38 :: .int .u8 n39 :: .int .u8 n40 :: .int .u8 n41 :: .int .u8 n42 :: .int .u8 n43 :: .int .u8 n44 :: .int .u8 n45 :: .int .u8 n46 :: .int .u8 n47 :: .int .u8 n48 :: .int .u8 n49 :: .int .u8 n50 :: .int .i64 n51 :: .int .i64 n52 :: .int .i64 n53 :: .int .i64 n54 :: .int .u8 n55 :: conc E u56 :: conc E u57 :: []⟩] = _
      rw [z5, z10, z16, z56, z57])
  refine key.mono fun e W' ⟨he, bel⟩ => ?_
  subst he
  exact ⟨_, rfl, _, _, _, [], _, [], hW', trodAll_mk1 (shut_bool Tryz.underlying4 _), (trodAll_cons_mk (Below.trod laidOut (by kernel_rfl) (of_decide_eq_true (by kernel_rfl)) k0 bel lt0) trodAll_mk0), rfl, bel.frame _, fun h => by cases h⟩
theorem over : Rows.adminNoneRow.holds Tryz.pinned (OpenSpec.ofChange Rows.adminNoneSpec) :=
  OpenClaim.holds_of_wide 3 Tryz.f3 rfl rfl rfl rfl rfl rfl rfl ⟨rfl, rfl, rfl, rfl, rfl⟩ rfl rfl rfl rfl rfl cf1 Tryz.func3 jf cf2 cf3
    (fun os started H enc _ => lifted os started H enc)
theorem proved : Rows.AdminNoneCardSaid :=
  Claim7.holds_tied_plain_at .later [] [.data, .pinned] true (true, "395d791b5e49655cfa9035e41b4fa4461567162b32954090a168055bb2cb30f1") true
    over (fun _ h => by cases h) cf4 (fun _ h => by cases h) adminNone_row_tie rfl ⟨rfl, rfl⟩ cf5 rfl
    (fun f fn hf hfn => by
      obtain rfl : f = 3 := Option.some.inj (cf1.symm.trans hf) |>.symm
      obtain rfl : fn = Tryz.f3 := (Option.some.inj (Tryz.func3.symm.trans hfn)).symm
      exact ⟨cf6, fun j t ht => by
        rw [Tryz.params3] at ht
        have hm : t ∈ [37] := by simpa using Array.mem_of_getElem? ht
        exact (show Tryz.prog.wantsStandIn t = false by simpa using List.all_eq_true.1 cf8 t hm)⟩)
    cf7
#print axioms proved
end adminNone
end Go.Proofs.YtgmediofcifhlaaGreatDoor
