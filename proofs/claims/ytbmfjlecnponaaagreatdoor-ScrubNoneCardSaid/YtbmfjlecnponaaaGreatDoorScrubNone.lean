/-
  PROVED HERE: the function ScrubNone, called with any pointer and any number, answers true and leaves the pointer as it was. The card of the given row: its listed variables are tied to the program's text (given).
-/
import Derived.Test.YtbmfjlecnponaaaGreatDoorVCAA
import Derived.Test.YtbmfjlecnponaaaGreatDoorRows
import Derived.Test.YtbmfjlecnponaaaGreatDoorCards
import Derived.Test.YtbmfjlecnponaaaGreatDoorTie
import Derived.WalkKit
import Derived.ProofKit
import Derived.OpenShut
import Derived.ShutString
import Derived.ChangeOld
import Derived.Below
import Derived.SevenTiedAt
import Derived.LaidMore
import Derived.Lay
import Derived.Stop.Joined
import Derived.Deep.Slices
import Derived.Deep.SlicePairs
set_option maxHeartbeats 8000000
set_option linter.unusedSimpArgs false
set_option linter.unusedVariables false
namespace Go.Proofs.YtbmfjlecnponaaaGreatDoor
open Go.ChangeShapes Go.WideShapes Go.ChangeAt Go.RowKit
open Go.Ev HS
namespace scrubNone
theorem own : ownKnob Tryz.prog.godebug = none := by kernel_rfl
theorem zhd1 : laidOutB Tryz.prog = true := by kernel_rfl
theorem hasB : (match lookS.func 3 with | some fn => fn.body.isSome | none => false) = true := by kernel_rfl
theorem ct26 : Tryz.prog.cellTypes Tryz.prog.depth 26 = some [22, 3, 3, 5, 5, 5, 5, 5, 5, 5, 5, 5, 5, 5, 5, 5, 5, 5, 5, 5, 5, 5, 5, 5, 5, 5, 5, 5, 5, 5, 5, 5, 5, 5, 5] := by kernel_rfl
theorem cells26 : Tryz.prog.cellsOf 26 = 35 := by kernel_rfl
theorem cells22 : Tryz.prog.cellsOf 22 = 1 := by kernel_rfl
theorem array35 {α : Type} {cs : Array α} (h : cs.size = 35) : ∃ c0 c1 c2 c3 c4 c5 c6 c7 c8 c9 c10 c11 c12 c13 c14 c15 c16 c17 c18 c19 c20 c21 c22 c23 c24 c25 c26 c27 c28 c29 c30 c31 c32 c33 c34, cs = ⟨c0 :: c1 :: c2 :: c3 :: c4 :: c5 :: c6 :: c7 :: c8 :: c9 :: c10 :: c11 :: c12 :: c13 :: c14 :: c15 :: c16 :: c17 :: c18 :: c19 :: c20 :: c21 :: c22 :: c23 :: c24 :: c25 :: c26 :: c27 :: c28 :: c29 :: c30 :: c31 :: c32 :: c33 :: c34 :: []⟩ := by
  obtain ⟨l⟩ := cs
  match l, h with
  | c0 :: c1 :: c2 :: c3 :: c4 :: c5 :: c6 :: c7 :: c8 :: c9 :: c10 :: c11 :: c12 :: c13 :: c14 :: c15 :: c16 :: c17 :: c18 :: c19 :: c20 :: c21 :: c22 :: c23 :: c24 :: c25 :: c26 :: c27 :: c28 :: c29 :: c30 :: c31 :: c32 :: c33 :: c34 :: [], _ => exact ⟨c0, c1, c2, c3, c4, c5, c6, c7, c8, c9, c10, c11, c12, c13, c14, c15, c16, c17, c18, c19, c20, c21, c22, c23, c24, c25, c26, c27, c28, c29, c30, c31, c32, c33, c34, rfl⟩
def LD : List (String × DataW Unit) := [("unicode/utf8.acceptRanges", Rows.laid_unicode_utf8_acceptRanges), ("unicode/utf8.first", Rows.laid_unicode_utf8_first)]
set_option maxRecDepth 100000 in
set_option maxHeartbeats 4000000 in
theorem lifted (os : Os) (started : os.Started) (H : Type) (enc : TypeId × Value → H) :
    ReturnsInHanded {} Tryz.checked os 3 .any (fun w args => (Rows.scrubNoneSpec.pre enc Tryz.prog Tryz.f3 Rows.scrubNoneRow.domain false w args ∧ laidMetH Tryz.prog LD w) ∧ sizedMet enc Tryz.prog Tryz.f3 (OpenSpec.ofChange Rows.scrubNoneSpec) false w args) (Rows.scrubNoneSpec.post enc Tryz.prog Tryz.f3 false true false false) := by
  refine returnsInHanded_of_change_and (C := Tryz.checked) (X := fun w _ => laidMetH Tryz.prog LD w) (fun _ _ _ hh h => h.of_heap hh) own started (by kernel_rfl) Tryz.func3
    (ChangeSpec.witness_shaped (enc := enc) (C := Tryz.checked) (os := os) (X := fun w _ => laidMetH Tryz.prog LD w) false (World.laidAll Tryz.prog os LD) #[.agg ⟨.slice none 0 0 :: .int .i64 0 :: .int .i64 0 :: .int .u8 0 :: .int .u8 0 :: .int .u8 0 :: .int .u8 0 :: .int .u8 0 :: .int .u8 0 :: .int .u8 0 :: .int .u8 0 :: .int .u8 0 :: .int .u8 0 :: .int .u8 0 :: .int .u8 0 :: .int .u8 0 :: .int .u8 0 :: .int .u8 0 :: .int .u8 0 :: .int .u8 0 :: .int .u8 0 :: .int .u8 0 :: .int .u8 0 :: .int .u8 0 :: .int .u8 0 :: .int .u8 0 :: .int .u8 0 :: .int .u8 0 :: .int .u8 0 :: .int .u8 0 :: .int .u8 0 :: .int .u8 0 :: .int .u8 0 :: .int .u8 0 :: .int .u8 0 :: []⟩, .int .i64 0] 12 (World.laidAll_os _ _ _)
      (World.shaped_of_ZipB (by as_aux_lemma => kernel_rfl) (by as_aux_lemma => kernel_rfl)) (by as_aux_lemma => kernel_rfl) (by as_aux_lemma => kernel_rfl) (by as_aux_lemma => kernel_rfl)
      (by rw [MakeChecks.laidMetH_plain _ _ _ (by kernel_rfl)]; exact laidMet_laidAll _ (by as_aux_lemma => kernel_rfl) (by as_aux_lemma => kernel_rfl))) ?_
  intro W base args ds gs before hval0 hW hcnd _ hL _
  have hval : ∀ (j : Nat) t v, Tryz.f3.params[j]? = some t → args[j]? = some v → Value.okWide Tryz.prog W .any base t v := hval0
  have hW' := hW
  obtain ⟨p, q, hA0, hV, rfl, hfz, hnd⟩ := hW
  have hAll : DataW.TrodAll enc Tryz.prog W 0 (fun _ => true) true Tryz.f3.params.toList args.toList ds p := hA0
  rw [Tryz.params3] at hAll hval
  obtain ⟨v0, vs0, d0, ds0, p0, q0, hargs, rfl, rfl, h0, r0'⟩ := trodAll_cons hAll
  obtain ⟨v1, vs1, d1, ds1, p1, q1, rfl, rfl, rfl, h1, r1'⟩ := trodAll_cons r0'
  obtain ⟨rfl, rfl, rfl⟩ := trodAll_nil r1'
  obtain rfl : args = #[v0, v1] := by cases args; simp_all
  obtain ⟨rfl, rfl⟩ := trodVars_none hV
  obtain ⟨aq, rfl, rfl, rfl, wq⟩ := open_int Tryz.underlying3 (hval 1 3 v1 rfl rfl) h1
  have k0 := h0
  have lt0 : ∀ x ∈ p0, x.block < W.heap.size := by obtain ⟨m, hm⟩ := k0; exact DataW.trod_lt m _ _ _ hm
  have hv := hval 0 26 v0 rfl rfl
  simp only [Value.okWide, Tryz.underlying26] at hv
  obtain ⟨cs', rfl, hsz, ts, hts, _, hrow⟩ := hv
  rw [ct26] at hts
  cases hts
  obtain ⟨c0, c1, c2, c3, c4, c5, c6, c7, c8, c9, c10, c11, c12, c13, c14, c15, c16, c17, c18, c19, c20, c21, c22, c23, c24, c25, c26, c27, c28, c29, c30, c31, c32, c33, c34, rfl⟩ := array35 (hsz.trans cells26)
  obtain ⟨fuel, hf⟩ := h0
  obtain ⟨m, _, hfs⟩ := zpb1 Tryz.underlying26 hf
  obtain ⟨y, hy⟩ := hfs 0 _ rfl
  have hy : DataW.trod enc Tryz.prog W 0 (fun _ => true) true m 22 [c0] = some y := by
    have h2 : DataW.trod enc Tryz.prog W 0 (fun _ => true) true m 22 (List.take (Tryz.prog.cellsOf 22) (List.drop 0 (Value.agg ⟨c0 :: c1 :: c2 :: c3 :: c4 :: c5 :: c6 :: c7 :: c8 :: c9 :: c10 :: c11 :: c12 :: c13 :: c14 :: c15 :: c16 :: c17 :: c18 :: c19 :: c20 :: c21 :: c22 :: c23 :: c24 :: c25 :: c26 :: c27 :: c28 :: c29 :: c30 :: c31 :: c32 :: c33 :: c34 :: []⟩).cells.toList)) = some y := hy
    rw [cells22] at h2
    exact h2
  obtain ⟨u0, q0, r0⟩ := hrow 0 c0 rfl
  cases q0
  obtain ⟨u1, q1, r1⟩ := hrow 1 c1 rfl
  cases q1
  obtain ⟨u2, q2, r2⟩ := hrow 2 c2 rfl
  cases q2
  obtain ⟨u3, q3, r3⟩ := hrow 3 c3 rfl
  cases q3
  obtain ⟨u4, q4, r4⟩ := hrow 4 c4 rfl
  cases q4
  obtain ⟨u5, q5, r5⟩ := hrow 5 c5 rfl
  cases q5
  obtain ⟨u6, q6, r6⟩ := hrow 6 c6 rfl
  cases q6
  obtain ⟨u7, q7, r7⟩ := hrow 7 c7 rfl
  cases q7
  obtain ⟨u8, q8, r8⟩ := hrow 8 c8 rfl
  cases q8
  obtain ⟨u9, q9, r9⟩ := hrow 9 c9 rfl
  cases q9
  obtain ⟨u10, q10, r10⟩ := hrow 10 c10 rfl
  cases q10
  obtain ⟨u11, q11, r11⟩ := hrow 11 c11 rfl
  cases q11
  obtain ⟨u12, q12, r12⟩ := hrow 12 c12 rfl
  cases q12
  obtain ⟨u13, q13, r13⟩ := hrow 13 c13 rfl
  cases q13
  obtain ⟨u14, q14, r14⟩ := hrow 14 c14 rfl
  cases q14
  obtain ⟨u15, q15, r15⟩ := hrow 15 c15 rfl
  cases q15
  obtain ⟨u16, q16, r16⟩ := hrow 16 c16 rfl
  cases q16
  obtain ⟨u17, q17, r17⟩ := hrow 17 c17 rfl
  cases q17
  obtain ⟨u18, q18, r18⟩ := hrow 18 c18 rfl
  cases q18
  obtain ⟨u19, q19, r19⟩ := hrow 19 c19 rfl
  cases q19
  obtain ⟨u20, q20, r20⟩ := hrow 20 c20 rfl
  cases q20
  obtain ⟨u21, q21, r21⟩ := hrow 21 c21 rfl
  cases q21
  obtain ⟨u22, q22, r22⟩ := hrow 22 c22 rfl
  cases q22
  obtain ⟨u23, q23, r23⟩ := hrow 23 c23 rfl
  cases q23
  obtain ⟨u24, q24, r24⟩ := hrow 24 c24 rfl
  cases q24
  obtain ⟨u25, q25, r25⟩ := hrow 25 c25 rfl
  cases q25
  obtain ⟨u26, q26, r26⟩ := hrow 26 c26 rfl
  cases q26
  obtain ⟨u27, q27, r27⟩ := hrow 27 c27 rfl
  cases q27
  obtain ⟨u28, q28, r28⟩ := hrow 28 c28 rfl
  cases q28
  obtain ⟨u29, q29, r29⟩ := hrow 29 c29 rfl
  cases q29
  obtain ⟨u30, q30, r30⟩ := hrow 30 c30 rfl
  cases q30
  obtain ⟨u31, q31, r31⟩ := hrow 31 c31 rfl
  cases q31
  obtain ⟨u32, q32, r32⟩ := hrow 32 c32 rfl
  cases q32
  obtain ⟨u33, q33, r33⟩ := hrow 33 c33 rfl
  cases q33
  obtain ⟨u34, q34, r34⟩ := hrow 34 c34 rfl
  cases q34
  obtain ⟨n1, e1⟩ := zoa Tryz.underlying3 r1
  obtain ⟨n2, e2⟩ := zoa Tryz.underlying3 r2
  obtain ⟨n3, e3⟩ := zoa Tryz.underlying5 r3
  obtain ⟨n4, e4⟩ := zoa Tryz.underlying5 r4
  obtain ⟨n5, e5⟩ := zoa Tryz.underlying5 r5
  obtain ⟨n6, e6⟩ := zoa Tryz.underlying5 r6
  obtain ⟨n7, e7⟩ := zoa Tryz.underlying5 r7
  obtain ⟨n8, e8⟩ := zoa Tryz.underlying5 r8
  obtain ⟨n9, e9⟩ := zoa Tryz.underlying5 r9
  obtain ⟨n10, e10⟩ := zoa Tryz.underlying5 r10
  obtain ⟨n11, e11⟩ := zoa Tryz.underlying5 r11
  obtain ⟨n12, e12⟩ := zoa Tryz.underlying5 r12
  obtain ⟨n13, e13⟩ := zoa Tryz.underlying5 r13
  obtain ⟨n14, e14⟩ := zoa Tryz.underlying5 r14
  obtain ⟨n15, e15⟩ := zoa Tryz.underlying5 r15
  obtain ⟨n16, e16⟩ := zoa Tryz.underlying5 r16
  obtain ⟨n17, e17⟩ := zoa Tryz.underlying5 r17
  obtain ⟨n18, e18⟩ := zoa Tryz.underlying5 r18
  obtain ⟨n19, e19⟩ := zoa Tryz.underlying5 r19
  obtain ⟨n20, e20⟩ := zoa Tryz.underlying5 r20
  obtain ⟨n21, e21⟩ := zoa Tryz.underlying5 r21
  obtain ⟨n22, e22⟩ := zoa Tryz.underlying5 r22
  obtain ⟨n23, e23⟩ := zoa Tryz.underlying5 r23
  obtain ⟨n24, e24⟩ := zoa Tryz.underlying5 r24
  obtain ⟨n25, e25⟩ := zoa Tryz.underlying5 r25
  obtain ⟨n26, e26⟩ := zoa Tryz.underlying5 r26
  obtain ⟨n27, e27⟩ := zoa Tryz.underlying5 r27
  obtain ⟨n28, e28⟩ := zoa Tryz.underlying5 r28
  obtain ⟨n29, e29⟩ := zoa Tryz.underlying5 r29
  obtain ⟨n30, e30⟩ := zoa Tryz.underlying5 r30
  obtain ⟨n31, e31⟩ := zoa Tryz.underlying5 r31
  obtain ⟨n32, e32⟩ := zoa Tryz.underlying5 r32
  obtain ⟨n33, e33⟩ := zoa Tryz.underlying5 r33
  obtain ⟨n34, e34⟩ := zoa Tryz.underlying5 r34
  subst e1 e2 e3 e4 e5 e6 e7 e8 e9 e10 e11 e12 e13 e14 e15 e16 e17 e18 e19 e20 e21 e22 e23 e24 e25 e26 e27 e28 e29 e30 e31 e32 e33 e34
  obtain ⟨a, len, cap, a0, b0, b, u, e0, g⟩ : ∃ (a : Option Addr) (len cap : Nat) (a0 b0 : Int) (b : ABlk × EB) (v : AV), c0 = .slice a len cap ∧ Arg W 0 (.slice a len cap) (fun H v => PA H v len a0 b0) b v := by
    rcases Go.Deep.open_slice_pairs Tryz.underlying22 Tryz.underlying89 (by kernel_rfl) rfl rfl (by kernel_rfl) (by kernel_rfl) hy with ⟨hcs, _⟩ | ⟨x, l, c, m, n, V0, V1, D0, D1, P0, P1, hcs, _, hl, hm, hmm, _, hx⟩
    · have hcs := (List.cons.inj hcs).1
      subst hcs
      obtain ⟨b, v, h⟩ := zpr 0 (w := W) (a := none) (len := 0) (cap := 0) (a0 := 0) (b0 := 0) (.inl ⟨rfl, rfl, rfl⟩)
      exact ⟨_, _, _, _, _, b, v, rfl, h⟩
    · have hcs := (List.cons.inj hcs).1
      subst hcs
      have hel : ∃ a0 b0 : Int, 0 < l → W.cell? x = some (.int .i64 a0) ∧ W.cell? (x.add 1) = some (.int .i64 b0) := by
        by_cases h0 : 0 < l
        · obtain ⟨hc0, hc1, ht0, ht1⟩ := hx 0 (by rw [hmm]; simp; omega)
          obtain ⟨n0, hb0, _⟩ := DataW.trod_int Tryz.underlying3 ht0
          obtain ⟨n1, hb1, _⟩ := DataW.trod_int Tryz.underlying3 ht1
          simp only [List.cons.injEq, and_true] at hb0 hb1
          rw [hb0] at hc0
          rw [hb1] at hc1
          refine ⟨n0, n1, fun _ => ⟨?_, ?_⟩⟩
          · simpa [Addr.add] using hc0
          · simpa using hc1
        · exact ⟨0, 0, fun h => absurd h h0⟩
      obtain ⟨a0, b0, hel⟩ := hel
      rcases zxx Tryz.underlying22 r0 with h | ⟨x', l', c', h, _, _, hsp, hb⟩
      · cases h
      · cases h
        obtain ⟨b, v, h⟩ := zpr 0 (w := W) (a := some x) (len := l) (cap := c) (a0 := a0) (b0 := b0) (.inr ⟨x, rfl, ⟨hsp, hb⟩, hel⟩)
        exact ⟨_, _, _, _, _, b, v, rfl, h⟩
  subst e0
  clear hA0 hval0
  obtain ⟨fn, hfn⟩ : ∃ fn, lookS.func 3 = some fn := by
    have := hasB
    cases h : lookS.func 3 with
    | none => rw [h] at this; cases this
    | some fn => exact ⟨fn, rfl⟩
  obtain ⟨cd, hcd⟩ : ∃ cd, fn.body = some cd := Option.isSome_iff_exists.1 (by have := hasB; rw [hfn] at this; exact this)
  let x : PtrA := ⟨u, n1, n2, fun j => match j with | 0 => n3 | 1 => n4 | 2 => n5 | 3 => n6 | 4 => n7 | 5 => n8 | 6 => n9 | 7 => n10 | 8 => n11 | 9 => n12 | 10 => n13 | 11 => n14 | 12 => n15 | 13 => n16 | 14 => n17 | 15 => n18 | 16 => n19 | 17 => n20 | 18 => n21 | 19 => n22 | 20 => n23 | 21 => n24 | 22 => n25 | 23 => n26 | 24 => n27 | 25 => n28 | 26 => n29 | 27 => n30 | 28 => n31 | 29 => n32 | 30 => n33 | _ => n34⟩
  have key := zwq (w := W) zkg1 zmb1 hfn hcd [b] (args := [.agg (ptrL x), .int .i64 aq]) (us := [.agg ⟨.slice a len cap :: .int .i64 n1 :: .int .i64 n2 :: .int .u8 n3 :: .int .u8 n4 :: .int .u8 n5 :: .int .u8 n6 :: .int .u8 n7 :: .int .u8 n8 :: .int .u8 n9 :: .int .u8 n10 :: .int .u8 n11 :: .int .u8 n12 :: .int .u8 n13 :: .int .u8 n14 :: .int .u8 n15 :: .int .u8 n16 :: .int .u8 n17 :: .int .u8 n18 :: .int .u8 n19 :: .int .u8 n20 :: .int .u8 n21 :: .int .u8 n22 :: .int .u8 n23 :: .int .u8 n24 :: .int .u8 n25 :: .int .u8 n26 :: .int .u8 n27 :: .int .u8 n28 :: .int .u8 n29 :: .int .u8 n30 :: .int .u8 n31 :: .int .u8 n32 :: .int .u8 n33 :: .int .u8 n34 :: []⟩, .int .i64 aq])
    (zbo x b.1 aq len a0 b0 (g.rd _ rfl))
    (by intro b' hb; simp only [List.mem_cons, List.not_mem_nil, or_false] at hb; subst hb; exact g.own)
    (by
      intro k b' hk E hE
      match k, hk with
      | 0, hk => (cases hk; exact g.br E hE)
      | k + 1, hk => (exact absurd hk (by simp)))
    (by
      intro E hE
      show [Value.agg ⟨conc E u :: .int .i64 n1 :: .int .i64 n2 :: .int .u8 n3 :: .int .u8 n4 :: .int .u8 n5 :: .int .u8 n6 :: .int .u8 n7 :: .int .u8 n8 :: .int .u8 n9 :: .int .u8 n10 :: .int .u8 n11 :: .int .u8 n12 :: .int .u8 n13 :: .int .u8 n14 :: .int .u8 n15 :: .int .u8 n16 :: .int .u8 n17 :: .int .u8 n18 :: .int .u8 n19 :: .int .u8 n20 :: .int .u8 n21 :: .int .u8 n22 :: .int .u8 n23 :: .int .u8 n24 :: .int .u8 n25 :: .int .u8 n26 :: .int .u8 n27 :: .int .u8 n28 :: .int .u8 n29 :: .int .u8 n30 :: .int .u8 n31 :: .int .u8 n32 :: .int .u8 n33 :: .int .u8 n34 :: []⟩, .int .i64 aq] = _
      rw [g.val E (hE 0 b rfl)])
  refine key.mono fun e W' ⟨he, bel⟩ => ?_
  subst he
  exact ⟨_, rfl, _, _, _, [], _, [], hW', trodAll_mk1 (shut_bool Tryz.underlying4 _), (trodAll_cons_mk (Below.trod zhd1 (by kernel_rfl) (of_decide_eq_true (by kernel_rfl)) k0 bel lt0) (trodAll_cons_mk (shut_int Tryz.underlying3 wq) trodAll_mk0)), rfl, bel.frame _, fun h => by cases h⟩
theorem over : Rows.scrubNoneRow.holds Tryz.pinned (OpenSpec.ofChange Rows.scrubNoneSpec) :=
  OpenClaim.holds_of_wide 3 Tryz.f3 rfl rfl rfl rfl rfl rfl rfl ⟨rfl, rfl, rfl, rfl, rfl⟩ rfl rfl rfl rfl rfl cf1 Tryz.func3 jf cf2 cf3
    (fun os started H enc _ => lifted os started H enc)
theorem proved : Rows.ScrubNoneCardSaid :=
  Claim7.holds_tied_plain_at .later [] [.data, .pinned] true (true, "49fb91091cb497753d8d6a7b4de6b76de13df1d4a0554aacd5896d04352eae88") true
    over (fun _ h => by cases h) cf4 (fun _ h => by cases h) scrubNone_row_tie rfl ⟨rfl, rfl⟩ cf5 rfl
    (fun f fn hf hfn => by
      obtain rfl : f = 3 := Option.some.inj (cf1.symm.trans hf) |>.symm
      obtain rfl : fn = Tryz.f3 := (Option.some.inj (Tryz.func3.symm.trans hfn)).symm
      exact ⟨cf6, fun j t ht => by
        rw [Tryz.params3] at ht
        have hm : t ∈ [26, 3] := by simpa using Array.mem_of_getElem? ht
        exact (show Tryz.prog.wantsStandIn t = false by simpa using List.all_eq_true.1 cf8 t hm)⟩)
    cf7
#print axioms proved
end scrubNone
end Go.Proofs.YtbmfjlecnponaaaGreatDoor
