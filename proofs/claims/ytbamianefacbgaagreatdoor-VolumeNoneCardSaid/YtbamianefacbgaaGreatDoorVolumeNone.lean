/-
  PROVED HERE: the function VolumeNone, called with any act, answers true and leaves the act as it was. The card of the given row: its listed variables are tied to the program's text (given).
-/
import Derived.Test.YtbamianefacbgaaGreatDoorVGAA
import Derived.Test.YtbamianefacbgaaGreatDoorVGAB
import Derived.Test.YtbamianefacbgaaGreatDoorRows
import Derived.Test.YtbamianefacbgaaGreatDoorCards
import Derived.Test.YtbamianefacbgaaGreatDoorTie
import Derived.WalkKit
import Derived.ProofKit
import Derived.OpenShut
import Derived.ShutString
import Derived.ChangeOld
import Derived.Below
import Derived.SevenTiedAt
import Derived.LaidMore
import Derived.Lay
import Derived.Stop.Joined
import Derived.Deep.Slices
set_option maxHeartbeats 8000000
set_option linter.unusedSimpArgs false
set_option linter.unusedVariables false
namespace Go.Proofs.YtbamianefacbgaaGreatDoor
open Go.ChangeShapes Go.WideShapes Go.ChangeAt Go.RowKit
open Go.Ev HS
namespace volumeNone
theorem own : ownKnob Tryz.prog.godebug = none := by kernel_rfl
theorem zvs : laidOutB Tryz.prog = true := by kernel_rfl
theorem hasB : (match lookN.func 3 with | some fn => fn.body.isSome | none => false) = true := by kernel_rfl
theorem ctV : Tryz.prog.cellTypes Tryz.prog.depth 34 = some [3, 3, 3, 9, 22, 3, 9, 9, 3, 3, 23, 3, 3, 5, 5, 5, 5, 5, 5, 5, 5, 5, 5, 5, 5, 5, 5, 5, 5, 5, 5, 5, 5, 5, 5, 5, 5, 5, 5, 5, 5, 5, 5, 5, 5, 3, 3, 3, 3, 5, 22, 30] := by kernel_rfl
theorem cellsV : Tryz.prog.cellsOf 34 = 52 := by kernel_rfl
theorem array52 {α : Type} {cs : Array α} (h : cs.size = 52) : ∃ c0 c1 c2 c3 c4 c5 c6 c7 c8 c9 c10 c11 c12 c13 c14 c15 c16 c17 c18 c19 c20 c21 c22 c23 c24 c25 c26 c27 c28 c29 c30 c31 c32 c33 c34 c35 c36 c37 c38 c39 c40 c41 c42 c43 c44 c45 c46 c47 c48 c49 c50 c51, cs = ⟨c0 :: c1 :: c2 :: c3 :: c4 :: c5 :: c6 :: c7 :: c8 :: c9 :: c10 :: c11 :: c12 :: c13 :: c14 :: c15 :: c16 :: c17 :: c18 :: c19 :: c20 :: c21 :: c22 :: c23 :: c24 :: c25 :: c26 :: c27 :: c28 :: c29 :: c30 :: c31 :: c32 :: c33 :: c34 :: c35 :: c36 :: c37 :: c38 :: c39 :: c40 :: c41 :: c42 :: c43 :: c44 :: c45 :: c46 :: c47 :: c48 :: c49 :: c50 :: c51 :: []⟩ := by
  obtain ⟨l⟩ := cs
  match l, h with
  | c0 :: c1 :: c2 :: c3 :: c4 :: c5 :: c6 :: c7 :: c8 :: c9 :: c10 :: c11 :: c12 :: c13 :: c14 :: c15 :: c16 :: c17 :: c18 :: c19 :: c20 :: c21 :: c22 :: c23 :: c24 :: c25 :: c26 :: c27 :: c28 :: c29 :: c30 :: c31 :: c32 :: c33 :: c34 :: c35 :: c36 :: c37 :: c38 :: c39 :: c40 :: c41 :: c42 :: c43 :: c44 :: c45 :: c46 :: c47 :: c48 :: c49 :: c50 :: c51 :: [], _ => exact ⟨c0, c1, c2, c3, c4, c5, c6, c7, c8, c9, c10, c11, c12, c13, c14, c15, c16, c17, c18, c19, c20, c21, c22, c23, c24, c25, c26, c27, c28, c29, c30, c31, c32, c33, c34, c35, c36, c37, c38, c39, c40, c41, c42, c43, c44, c45, c46, c47, c48, c49, c50, c51, rfl⟩
def LD : List (String × DataW Unit) := [("unicode/utf8.acceptRanges", Rows.laid_unicode_utf8_acceptRanges), ("unicode/utf8.first", Rows.laid_unicode_utf8_first)]
set_option maxRecDepth 100000 in
set_option maxHeartbeats 4000000 in
theorem lifted (os : Os) (started : os.Started) (H : Type) (enc : TypeId × Value → H) :
    ReturnsInHanded {} Tryz.checked os 3 .any (fun w args => (Rows.volumeNoneSpec.pre enc Tryz.prog Tryz.f3 Rows.volumeNoneRow.domain false w args ∧ laidMetH Tryz.prog LD w) ∧ sizedMet enc Tryz.prog Tryz.f3 (OpenSpec.ofChange Rows.volumeNoneSpec) false w args) (Rows.volumeNoneSpec.post enc Tryz.prog Tryz.f3 false true false false) := by
  refine returnsInHanded_of_change_and (C := Tryz.checked) (X := fun w _ => laidMetH Tryz.prog LD w) (fun _ _ _ hh h => h.of_heap hh) own started (by kernel_rfl) Tryz.func3
    (ChangeSpec.witness_shaped (enc := enc) (C := Tryz.checked) (os := os) (X := fun w _ => laidMetH Tryz.prog LD w) false (World.laidAll Tryz.prog os LD) #[.agg ⟨.int .i64 0 :: .int .i64 0 :: .int .i64 0 :: .string ByteArray.empty :: .slice none 0 0 :: .int .i64 0 :: .string ByteArray.empty :: .string ByteArray.empty :: .int .i64 0 :: .int .i64 0 :: .slice none 0 0 :: .int .i64 0 :: .int .i64 0 :: .int .u8 0 :: .int .u8 0 :: .int .u8 0 :: .int .u8 0 :: .int .u8 0 :: .int .u8 0 :: .int .u8 0 :: .int .u8 0 :: .int .u8 0 :: .int .u8 0 :: .int .u8 0 :: .int .u8 0 :: .int .u8 0 :: .int .u8 0 :: .int .u8 0 :: .int .u8 0 :: .int .u8 0 :: .int .u8 0 :: .int .u8 0 :: .int .u8 0 :: .int .u8 0 :: .int .u8 0 :: .int .u8 0 :: .int .u8 0 :: .int .u8 0 :: .int .u8 0 :: .int .u8 0 :: .int .u8 0 :: .int .u8 0 :: .int .u8 0 :: .int .u8 0 :: .int .u8 0 :: .int .i64 0 :: .int .i64 0 :: .int .i64 0 :: .int .i64 0 :: .int .u8 0 :: .slice none 0 0 :: .slice none 0 0 :: []⟩] 12 (World.laidAll_os _ _ _)
      (World.shaped_of_ZipB (by as_aux_lemma => kernel_rfl) (by as_aux_lemma => kernel_rfl)) (by as_aux_lemma => kernel_rfl) (by as_aux_lemma => kernel_rfl) (by as_aux_lemma => kernel_rfl)
      (by rw [MakeChecks.laidMetH_plain _ _ _ (by kernel_rfl)]; exact laidMet_laidAll _ (by as_aux_lemma => kernel_rfl) (by as_aux_lemma => kernel_rfl))) ?_
  intro W base args ds gs before hval0 hW hcnd _ hL _
  have hval : ∀ (j : Nat) t v, Tryz.f3.params[j]? = some t → args[j]? = some v → Value.okWide Tryz.prog W .any base t v := hval0
  have hW' := hW
  obtain ⟨p, q, hA0, hV, rfl, hfz, hnd⟩ := hW
  have hAll : DataW.TrodAll enc Tryz.prog W 0 (fun _ => true) true Tryz.f3.params.toList args.toList ds p := hA0
  rw [Tryz.params3] at hAll hval
  obtain ⟨v0, vs0, d0, ds0, p0, q0, hargs, rfl, rfl, h0, r0⟩ := trodAll_cons hAll
  obtain ⟨rfl, rfl, rfl⟩ := trodAll_nil r0
  obtain rfl : args = #[v0] := by cases args; simp_all
  obtain ⟨rfl, rfl⟩ := trodVars_none hV
  have k0 := h0
  have lt0 : ∀ x ∈ p0, x.block < W.heap.size := by obtain ⟨m, hm⟩ := k0; exact DataW.trod_lt m _ _ _ hm
  have hv := hval 0 34 v0 rfl rfl
  simp only [Value.okWide, Tryz.underlying34] at hv
  obtain ⟨cs', rfl, hsz, ts, hts, _, hrow⟩ := hv
  rw [ctV] at hts
  cases hts
  obtain ⟨c0, c1, c2, c3, c4, c5, c6, c7, c8, c9, c10, c11, c12, c13, c14, c15, c16, c17, c18, c19, c20, c21, c22, c23, c24, c25, c26, c27, c28, c29, c30, c31, c32, c33, c34, c35, c36, c37, c38, c39, c40, c41, c42, c43, c44, c45, c46, c47, c48, c49, c50, c51, rfl⟩ := array52 (hsz.trans cellsV)
  obtain ⟨u0, q0, r0⟩ := hrow 0 c0 rfl
  cases q0
  obtain ⟨u1, q1, r1⟩ := hrow 1 c1 rfl
  cases q1
  obtain ⟨u2, q2, r2⟩ := hrow 2 c2 rfl
  cases q2
  obtain ⟨u3, q3, r3⟩ := hrow 3 c3 rfl
  cases q3
  obtain ⟨u4, q4, r4⟩ := hrow 4 c4 rfl
  cases q4
  obtain ⟨u5, q5, r5⟩ := hrow 5 c5 rfl
  cases q5
  obtain ⟨u6, q6, r6⟩ := hrow 6 c6 rfl
  cases q6
  obtain ⟨u7, q7, r7⟩ := hrow 7 c7 rfl
  cases q7
  obtain ⟨u8, q8, r8⟩ := hrow 8 c8 rfl
  cases q8
  obtain ⟨u9, q9, r9⟩ := hrow 9 c9 rfl
  cases q9
  obtain ⟨u10, q10, r10⟩ := hrow 10 c10 rfl
  cases q10
  obtain ⟨u11, q11, r11⟩ := hrow 11 c11 rfl
  cases q11
  obtain ⟨u12, q12, r12⟩ := hrow 12 c12 rfl
  cases q12
  obtain ⟨u13, q13, r13⟩ := hrow 13 c13 rfl
  cases q13
  obtain ⟨u14, q14, r14⟩ := hrow 14 c14 rfl
  cases q14
  obtain ⟨u15, q15, r15⟩ := hrow 15 c15 rfl
  cases q15
  obtain ⟨u16, q16, r16⟩ := hrow 16 c16 rfl
  cases q16
  obtain ⟨u17, q17, r17⟩ := hrow 17 c17 rfl
  cases q17
  obtain ⟨u18, q18, r18⟩ := hrow 18 c18 rfl
  cases q18
  obtain ⟨u19, q19, r19⟩ := hrow 19 c19 rfl
  cases q19
  obtain ⟨u20, q20, r20⟩ := hrow 20 c20 rfl
  cases q20
  obtain ⟨u21, q21, r21⟩ := hrow 21 c21 rfl
  cases q21
  obtain ⟨u22, q22, r22⟩ := hrow 22 c22 rfl
  cases q22
  obtain ⟨u23, q23, r23⟩ := hrow 23 c23 rfl
  cases q23
  obtain ⟨u24, q24, r24⟩ := hrow 24 c24 rfl
  cases q24
  obtain ⟨u25, q25, r25⟩ := hrow 25 c25 rfl
  cases q25
  obtain ⟨u26, q26, r26⟩ := hrow 26 c26 rfl
  cases q26
  obtain ⟨u27, q27, r27⟩ := hrow 27 c27 rfl
  cases q27
  obtain ⟨u28, q28, r28⟩ := hrow 28 c28 rfl
  cases q28
  obtain ⟨u29, q29, r29⟩ := hrow 29 c29 rfl
  cases q29
  obtain ⟨u30, q30, r30⟩ := hrow 30 c30 rfl
  cases q30
  obtain ⟨u31, q31, r31⟩ := hrow 31 c31 rfl
  cases q31
  obtain ⟨u32, q32, r32⟩ := hrow 32 c32 rfl
  cases q32
  obtain ⟨u33, q33, r33⟩ := hrow 33 c33 rfl
  cases q33
  obtain ⟨u34, q34, r34⟩ := hrow 34 c34 rfl
  cases q34
  obtain ⟨u35, q35, r35⟩ := hrow 35 c35 rfl
  cases q35
  obtain ⟨u36, q36, r36⟩ := hrow 36 c36 rfl
  cases q36
  obtain ⟨u37, q37, r37⟩ := hrow 37 c37 rfl
  cases q37
  obtain ⟨u38, q38, r38⟩ := hrow 38 c38 rfl
  cases q38
  obtain ⟨u39, q39, r39⟩ := hrow 39 c39 rfl
  cases q39
  obtain ⟨u40, q40, r40⟩ := hrow 40 c40 rfl
  cases q40
  obtain ⟨u41, q41, r41⟩ := hrow 41 c41 rfl
  cases q41
  obtain ⟨u42, q42, r42⟩ := hrow 42 c42 rfl
  cases q42
  obtain ⟨u43, q43, r43⟩ := hrow 43 c43 rfl
  cases q43
  obtain ⟨u44, q44, r44⟩ := hrow 44 c44 rfl
  cases q44
  obtain ⟨u45, q45, r45⟩ := hrow 45 c45 rfl
  cases q45
  obtain ⟨u46, q46, r46⟩ := hrow 46 c46 rfl
  cases q46
  obtain ⟨u47, q47, r47⟩ := hrow 47 c47 rfl
  cases q47
  obtain ⟨u48, q48, r48⟩ := hrow 48 c48 rfl
  cases q48
  obtain ⟨u49, q49, r49⟩ := hrow 49 c49 rfl
  cases q49
  obtain ⟨u50, q50, r50⟩ := hrow 50 c50 rfl
  cases q50
  obtain ⟨u51, q51, r51⟩ := hrow 51 c51 rfl
  cases q51
  obtain ⟨n0, e0⟩ := zka Tryz.underlying3 r0
  obtain ⟨n1, e1⟩ := zka Tryz.underlying3 r1
  obtain ⟨n2, e2⟩ := zka Tryz.underlying3 r2
  obtain ⟨n3, e3⟩ := zzq Tryz.underlying9 r3
  obtain ⟨n5, e5⟩ := zka Tryz.underlying3 r5
  obtain ⟨n6, e6⟩ := zzq Tryz.underlying9 r6
  obtain ⟨n7, e7⟩ := zzq Tryz.underlying9 r7
  obtain ⟨n8, e8⟩ := zka Tryz.underlying3 r8
  obtain ⟨n9, e9⟩ := zka Tryz.underlying3 r9
  obtain ⟨n11, e11⟩ := zka Tryz.underlying3 r11
  obtain ⟨n12, e12⟩ := zka Tryz.underlying3 r12
  obtain ⟨n13, e13⟩ := zka Tryz.underlying5 r13
  obtain ⟨n14, e14⟩ := zka Tryz.underlying5 r14
  obtain ⟨n15, e15⟩ := zka Tryz.underlying5 r15
  obtain ⟨n16, e16⟩ := zka Tryz.underlying5 r16
  obtain ⟨n17, e17⟩ := zka Tryz.underlying5 r17
  obtain ⟨n18, e18⟩ := zka Tryz.underlying5 r18
  obtain ⟨n19, e19⟩ := zka Tryz.underlying5 r19
  obtain ⟨n20, e20⟩ := zka Tryz.underlying5 r20
  obtain ⟨n21, e21⟩ := zka Tryz.underlying5 r21
  obtain ⟨n22, e22⟩ := zka Tryz.underlying5 r22
  obtain ⟨n23, e23⟩ := zka Tryz.underlying5 r23
  obtain ⟨n24, e24⟩ := zka Tryz.underlying5 r24
  obtain ⟨n25, e25⟩ := zka Tryz.underlying5 r25
  obtain ⟨n26, e26⟩ := zka Tryz.underlying5 r26
  obtain ⟨n27, e27⟩ := zka Tryz.underlying5 r27
  obtain ⟨n28, e28⟩ := zka Tryz.underlying5 r28
  obtain ⟨n29, e29⟩ := zka Tryz.underlying5 r29
  obtain ⟨n30, e30⟩ := zka Tryz.underlying5 r30
  obtain ⟨n31, e31⟩ := zka Tryz.underlying5 r31
  obtain ⟨n32, e32⟩ := zka Tryz.underlying5 r32
  obtain ⟨n33, e33⟩ := zka Tryz.underlying5 r33
  obtain ⟨n34, e34⟩ := zka Tryz.underlying5 r34
  obtain ⟨n35, e35⟩ := zka Tryz.underlying5 r35
  obtain ⟨n36, e36⟩ := zka Tryz.underlying5 r36
  obtain ⟨n37, e37⟩ := zka Tryz.underlying5 r37
  obtain ⟨n38, e38⟩ := zka Tryz.underlying5 r38
  obtain ⟨n39, e39⟩ := zka Tryz.underlying5 r39
  obtain ⟨n40, e40⟩ := zka Tryz.underlying5 r40
  obtain ⟨n41, e41⟩ := zka Tryz.underlying5 r41
  obtain ⟨n42, e42⟩ := zka Tryz.underlying5 r42
  obtain ⟨n43, e43⟩ := zka Tryz.underlying5 r43
  obtain ⟨n44, e44⟩ := zka Tryz.underlying5 r44
  obtain ⟨n45, e45⟩ := zka Tryz.underlying3 r45
  obtain ⟨n46, e46⟩ := zka Tryz.underlying3 r46
  obtain ⟨n47, e47⟩ := zka Tryz.underlying3 r47
  obtain ⟨n48, e48⟩ := zka Tryz.underlying3 r48
  obtain ⟨n49, e49⟩ := zka Tryz.underlying5 r49
  subst e0 e1 e2 e3 e5 e6 e7 e8 e9 e11 e12 e13 e14 e15 e16 e17 e18 e19 e20 e21 e22 e23 e24 e25 e26 e27 e28 e29 e30 e31 e32 e33 e34 e35 e36 e37 e38 e39 e40 e41 e42 e43 e44 e45 e46 e47 e48 e49
  obtain ⟨a4, len4, cap4, b4, u4, e4, g4⟩ := zen 0 Tryz.underlying22 r4
  obtain ⟨a10, len10, cap10, b10, u10, e10, g10⟩ := zen 1 Tryz.underlying23 r10
  obtain ⟨a50, len50, cap50, b50, u50, e50, g50⟩ := zen 2 Tryz.underlying22 r50
  obtain ⟨a51, len51, cap51, b51, u51, e51, g51⟩ := zen 3 Tryz.underlying30 r51
  subst e4 e10 e50 e51
  clear hA0 hval0
  obtain ⟨fn, hfn⟩ : ∃ fn, lookN.func 3 = some fn := by
    have := hasB
    cases h : lookN.func 3 with
    | none => rw [h] at this; cases this
    | some fn => exact ⟨fn, rfl⟩
  obtain ⟨cd, hcd⟩ : ∃ cd, fn.body = some cd := Option.isSome_iff_exists.1 (by have := hasB; rw [hfn] at this; exact this)
  let B : Nat → ABlk := fun i => match i with | 0 => b4.1 | 1 => b10.1 | 2 => b50.1 | _ => b51.1
  let x : ActA := ⟨n0, n1, n2, n3, u4, n5, n6, n7, n8, n9, u10, n11, n12, fun j => match j with | 0 => n13 | 1 => n14 | 2 => n15 | 3 => n16 | 4 => n17 | 5 => n18 | 6 => n19 | 7 => n20 | 8 => n21 | 9 => n22 | 10 => n23 | 11 => n24 | 12 => n25 | 13 => n26 | 14 => n27 | 15 => n28 | 16 => n29 | 17 => n30 | 18 => n31 | 19 => n32 | 20 => n33 | 21 => n34 | 22 => n35 | 23 => n36 | 24 => n37 | 25 => n38 | 26 => n39 | 27 => n40 | 28 => n41 | 29 => n42 | 30 => n43 | _ => n44, n45, n46, n47, n48, n49, u50, u51⟩
  let bs : List (ABlk × EB) := [b4, b10, b50, b51]
  have hbs : hA (bs.map Prod.fst) = h4 B := rfl
  have key := zbj (w := W) zzi1 (fun B => zhd1 B) hfn hcd bs (args := [.agg (actL x)]) (us := [.agg ⟨.int .i64 n0 :: .int .i64 n1 :: .int .i64 n2 :: .string n3 :: .slice a4 len4 cap4 :: .int .i64 n5 :: .string n6 :: .string n7 :: .int .i64 n8 :: .int .i64 n9 :: .slice a10 len10 cap10 :: .int .i64 n11 :: .int .i64 n12 :: .int .u8 n13 :: .int .u8 n14 :: .int .u8 n15 :: .int .u8 n16 :: .int .u8 n17 :: .int .u8 n18 :: .int .u8 n19 :: .int .u8 n20 :: .int .u8 n21 :: .int .u8 n22 :: .int .u8 n23 :: .int .u8 n24 :: .int .u8 n25 :: .int .u8 n26 :: .int .u8 n27 :: .int .u8 n28 :: .int .u8 n29 :: .int .u8 n30 :: .int .u8 n31 :: .int .u8 n32 :: .int .u8 n33 :: .int .u8 n34 :: .int .u8 n35 :: .int .u8 n36 :: .int .u8 n37 :: .int .u8 n38 :: .int .u8 n39 :: .int .u8 n40 :: .int .u8 n41 :: .int .u8 n42 :: .int .u8 n43 :: .int .u8 n44 :: .int .i64 n45 :: .int .i64 n46 :: .int .i64 n47 :: .int .i64 n48 :: .int .u8 n49 :: .slice a50 len50 cap50 :: .slice a51 len51 cap51 :: []⟩])
    (by
      rw [hbs]
      exact zdn x B len4 len10 len50 len51 (g4.rd _ rfl) (g10.rd _ rfl) (g50.rd _ rfl) (g51.rd _ rfl))
    (by
      intro b hb
      simp only [bs, List.mem_cons, List.not_mem_nil, or_false] at hb
      rcases hb with rfl | rfl | rfl | rfl
      · exact g4.own
      · exact g10.own
      · exact g50.own
      · exact g51.own)
    (by
      intro k b hk E hE
      match k, hk with
      | 0, hk => (cases hk; exact g4.br E hE)
      | 1, hk => (cases hk; exact g10.br E hE)
      | 2, hk => (cases hk; exact g50.br E hE)
      | 3, hk => (cases hk; exact g51.br E hE)
      | k + 4, hk => (exact absurd hk (by simp [bs])))
    (by
      intro E hE
      have z4 := g4.val E (hE 0 b4 rfl)
      have z10 := g10.val E (hE 1 b10 rfl)
      have z50 := g50.val E (hE 2 b50 rfl)
      have z51 := g51.val E (hE 3 b51 rfl)
      show [Value.agg ⟨.int .i64 n0 :: .int .i64 n1 :: .int .i64 n2 :: .string n3 :: conc E u4 :: .int .i64 n5 :: .string n6 :: .string n7 :: .int .i64 n8 :: .int .i64 n9 :: conc E u10 :: .int .i64 n11 :: .int .i64 n12 :: .int .u8 n13 :: .int .u8 n14 :: .int .u8 n15 :: .int .u8 n16 :: .int .u8 n17 :: .int .u8 n18 :: .int .u8 n19 :: .int .u8 n20 :: .int .u8 n21 :: .int .u8 n22 :: .int .u8 n23 :: .int .u8 n24 :: .int .u8 n25 :: .int .u8 n26 :: .int .u8 n27 :: .int .u8 n28 :: .int .u8 n29 :: .int .u8 n30 :: .int .u8 n31 :: .int .u8 n32 :: .int .u8 n33 :: .int .u8 n34 :: .int .u8 n35 :: .int .u8 n36 :: .int .u8 n37 :: .int .u8 n38 :: .int .u8 n39 :: .int .u8 n40 :: .int .u8 n41 :: .int .u8 n42 :: .int .u8 n43 :: .int .u8 n44 :: .int .i64 n45 :: .int .i64 n46 :: .int .i64 n47 :: .int .i64 n48 :: .int .u8 n49 :: conc E u50 :: conc E u51 :: []⟩] = _
      rw [z4, z10, z50, z51])
  refine key.mono fun e W' ⟨he, bel⟩ => ?_
  subst he
  exact ⟨_, rfl, _, _, _, [], _, [], hW', trodAll_mk1 (shut_bool Tryz.underlying4 _), (trodAll_cons_mk (Below.trod zvs (by kernel_rfl) (of_decide_eq_true (by kernel_rfl)) k0 bel lt0) trodAll_mk0), rfl, bel.frame _, fun h => by cases h⟩
theorem over : Rows.volumeNoneRow.holds Tryz.pinned (OpenSpec.ofChange Rows.volumeNoneSpec) :=
  OpenClaim.holds_of_wide 3 Tryz.f3 rfl rfl rfl rfl rfl rfl rfl ⟨rfl, rfl, rfl, rfl, rfl⟩ rfl rfl rfl rfl rfl cf1 Tryz.func3 jf cf2 cf3
    (fun os started H enc _ => lifted os started H enc)
theorem proved : Rows.VolumeNoneCardSaid :=
  Claim7.holds_tied_plain_at .later [] [.data, .pinned] true (true, "7027be25ff07ab6982452c4339c87bc0ca108be1ea9a9dc1bc13c51c3fb37d3d") true
    over (fun _ h => by cases h) cf4 (fun _ h => by cases h) volumeNone_row_tie rfl ⟨rfl, rfl⟩ cf5 rfl
    (fun f fn hf hfn => by
      obtain rfl : f = 3 := Option.some.inj (cf1.symm.trans hf) |>.symm
      obtain rfl : fn = Tryz.f3 := (Option.some.inj (Tryz.func3.symm.trans hfn)).symm
      exact ⟨cf6, fun j t ht => by
        rw [Tryz.params3] at ht
        have hm : t ∈ [34] := by simpa using Array.mem_of_getElem? ht
        exact (show Tryz.prog.wantsStandIn t = false by simpa using List.all_eq_true.1 cf8 t hm)⟩)
    cf7
#print axioms proved
end volumeNone
end Go.Proofs.YtbamianefacbgaaGreatDoor
