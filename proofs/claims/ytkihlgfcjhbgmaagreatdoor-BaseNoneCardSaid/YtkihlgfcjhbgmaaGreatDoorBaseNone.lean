/-
  PROVED HERE: the function BaseNone, called with any act, answers true and leaves the act as it was. The card of the given row: its listed variables are tied to the program's text (given).
-/
import Derived.Test.YtkihlgfcjhbgmaaGreatDoorVEAA
import Derived.Test.YtkihlgfcjhbgmaaGreatDoorVEAH
import Derived.Test.YtkihlgfcjhbgmaaGreatDoorRows
import Derived.Test.YtkihlgfcjhbgmaaGreatDoorCards
import Derived.Test.YtkihlgfcjhbgmaaGreatDoorVAAO
import Derived.WalkKit
import Derived.ProofKit
import Derived.OpenShut
import Derived.ShutString
import Derived.ChangeOld
import Derived.Below
import Derived.SevenTiedAt
import Derived.LaidMore
import Derived.Lay
import Derived.Stop.Joined
import Derived.Deep.Slices
set_option maxHeartbeats 8000000
set_option linter.unusedSimpArgs false
set_option linter.unusedVariables false
namespace Go.Proofs.YtkihlgfcjhbgmaaGreatDoor
open Go.ChangeShapes Go.WideShapes Go.ChangeAt Go.RowKit
open Go.Ev HS
namespace baseNone
theorem own : ownKnob Tryz.prog.godebug = none := by kernel_rfl
theorem zva1 {P : Program} {n : Nat} (hs : P.types.size = n) (h1 : ∀ t, t < n → rowFine P t = true) (h2 : (P.globals.toList.all fun g => decide (g.type < n)) = true) (h3 : (P.funcs.toList.all fun f => f.params.toList.all fun t => decide (t < n)) = true) : laidOutB P = true := by
  unfold laidOutB
  rw [hs, Bool.and_eq_true, Bool.and_eq_true]
  refine ⟨⟨List.all_eq_true.2 fun t ht => h1 t (List.mem_range.1 ht), by rw [← Array.all_toList]; exact h2⟩, ?_⟩
  rw [← Array.all_toList]
  simpa only [Array.all_toList] using h3
theorem zvk1 {P : Program} : ∀ t, t < 0 → rowFine P t = true := fun _ h => absurd h (Nat.not_lt_zero _)
theorem zzf {P : Program} {a k : Nat} (h : ∀ t, t < a → rowFine P t = true) (hc : (List.range' a k).all (rowFine P) = true) : ∀ t, t < a + k → rowFine P t = true := fun t ht => by
  rcases Nat.lt_or_ge t a with h' | h'
  · exact h t h'
  · exact List.all_eq_true.1 hc t (List.mem_range'.2 ⟨t - a, by omega, by omega⟩)
theorem lo0 : (List.range' 0 100).all (rowFine Tryz.prog) = true := by kernel_rfl
theorem lo1 : (List.range' 100 100).all (rowFine Tryz.prog) = true := by kernel_rfl
theorem lo2 : (List.range' 200 100).all (rowFine Tryz.prog) = true := by kernel_rfl
theorem lo3 : (List.range' 300 100).all (rowFine Tryz.prog) = true := by kernel_rfl
theorem lo4 : (List.range' 400 100).all (rowFine Tryz.prog) = true := by kernel_rfl
theorem lo5 : (List.range' 500 100).all (rowFine Tryz.prog) = true := by kernel_rfl
theorem lo6 : (List.range' 600 100).all (rowFine Tryz.prog) = true := by kernel_rfl
theorem lo7 : (List.range' 700 75).all (rowFine Tryz.prog) = true := by kernel_rfl
theorem zwa1 : laidOutB Tryz.prog = true := zva1 (n := 775) (by kernel_rfl) (zzf (a := 700) (k := 75) (zzf (a := 600) (k := 100) (zzf (a := 500) (k := 100) (zzf (a := 400) (k := 100) (zzf (a := 300) (k := 100) (zzf (a := 200) (k := 100) (zzf (a := 100) (k := 100) (zzf (a := 0) (k := 100) zvk1 lo0) lo1) lo2) lo3) lo4) lo5) lo6) lo7) (by kernel_rfl) (by kernel_rfl)
theorem hasB : (match lookN.func 4 with | some fn => fn.body.isSome | none => false) = true := by kernel_rfl
theorem ctV : Tryz.prog.cellTypes Tryz.prog.depth 44 = some [3, 3, 9, 9, 3, 3, 27, 28, 28, 3, 3, 3, 3, 5, 28, 40] := by kernel_rfl
theorem zwk1 : Tryz.prog.cellsOf 44 = 16 := by kernel_rfl
theorem array16 {α : Type} {cs : Array α} (h : cs.size = 16) : ∃ c0 c1 c2 c3 c4 c5 c6 c7 c8 c9 c10 c11 c12 c13 c14 c15, cs = ⟨c0 :: c1 :: c2 :: c3 :: c4 :: c5 :: c6 :: c7 :: c8 :: c9 :: c10 :: c11 :: c12 :: c13 :: c14 :: c15 :: []⟩ := by
  obtain ⟨l⟩ := cs
  match l, h with
  | c0 :: c1 :: c2 :: c3 :: c4 :: c5 :: c6 :: c7 :: c8 :: c9 :: c10 :: c11 :: c12 :: c13 :: c14 :: c15 :: [], _ => exact ⟨c0, c1, c2, c3, c4, c5, c6, c7, c8, c9, c10, c11, c12, c13, c14, c15, rfl⟩
def LD : List (String × DataW Unit) := [("unicode/utf8.first", Rows.laid_unicode_utf8_first), ("unicode/utf8.acceptRanges", Rows.laid_unicode_utf8_acceptRanges), ("caulker/uber.errField", Rows.laid_caulker_uber_errField), ("caulker/uber.errRoot", Rows.laid_caulker_uber_errRoot)]
set_option maxRecDepth 100000 in
theorem lifted (os : Os) (started : os.Started) (H : Type) (enc : TypeId × Value → H) :
    ReturnsInHanded {} Tryz.checked os 4 .any (fun w args => (Rows.baseNoneSpec.pre enc Tryz.prog Tryz.f4 Rows.baseNoneRow.domain false w args ∧ laidMetH Tryz.prog LD w) ∧ sizedMet enc Tryz.prog Tryz.f4 (OpenSpec.ofChange Rows.baseNoneSpec) false w args) (Rows.baseNoneSpec.post enc Tryz.prog Tryz.f4 false true false false) := by
  refine returnsInHanded_of_change_and (C := Tryz.checked) (X := fun w _ => laidMetH Tryz.prog LD w) (fun _ _ _ hh h => h.of_heap hh) own started (by kernel_rfl) Tryz.func4
    (ChangeSpec.witness_shaped (enc := enc) (C := Tryz.checked) (os := os) (X := fun w _ => laidMetH Tryz.prog LD w) false (World.laidAll Tryz.prog os LD) #[.agg ⟨.int .i64 0 :: .int .i64 0 :: .string ByteArray.empty :: .string ByteArray.empty :: .int .i64 0 :: .int .i64 0 :: .slice none 0 0 :: .slice none 0 0 :: .slice none 0 0 :: .int .i64 0 :: .int .i64 0 :: .int .i64 0 :: .int .i64 0 :: .int .u8 0 :: .slice none 0 0 :: .slice none 0 0 :: []⟩] 12 (World.laidAll_os _ _ _)
      (World.shaped_of_ZipB (wz1 os) (by as_aux_lemma => kernel_rfl)) (by as_aux_lemma => kernel_rfl) (by as_aux_lemma => kernel_rfl) (by as_aux_lemma => kernel_rfl)
      (by rw [MakeChecks.laidMetH_plain _ _ _ (by kernel_rfl)]; exact laidMet_laidAll _ (wz6 os) (wz7 os))) ?_
  intro W base args ds gs before hval0 hW hcnd _ hL _
  have hval : ∀ (j : Nat) t v, Tryz.f4.params[j]? = some t → args[j]? = some v → Value.okWide Tryz.prog W .any base t v := hval0
  have hW' := hW
  obtain ⟨p, q, hA0, hV, rfl, hfz, hnd⟩ := hW
  have hAll : DataW.TrodAll enc Tryz.prog W 0 (fun _ => true) true Tryz.f4.params.toList args.toList ds p := hA0
  rw [Tryz.params4] at hAll hval
  obtain ⟨v0, vs0, d0, ds0, p0, q0, hargs, rfl, rfl, h0, r0⟩ := trodAll_cons hAll
  obtain ⟨rfl, rfl, rfl⟩ := trodAll_nil r0
  obtain rfl : args = #[v0] := by cases args; simp_all
  obtain ⟨rfl, rfl⟩ := trodVars_none hV
  have k0 := h0
  have lt0 : ∀ x ∈ p0, x.block < W.heap.size := by obtain ⟨m, hm⟩ := k0; exact DataW.trod_lt m _ _ _ hm
  obtain ⟨fuel, hf⟩ := h0
  have hv := hval 0 44 v0 rfl rfl
  simp only [Value.okWide, Tryz.underlying44] at hv
  obtain ⟨cs', rfl, hsz, ts, hts, _, hrow⟩ := hv
  rw [ctV] at hts
  cases hts
  obtain ⟨c0, c1, c2, c3, c4, c5, c6, c7, c8, c9, c10, c11, c12, c13, c14, c15, rfl⟩ := array16 (hsz.trans zwk1)
  obtain ⟨u0, q0, r0⟩ := hrow 0 c0 rfl
  cases q0
  obtain ⟨u1, q1, r1⟩ := hrow 1 c1 rfl
  cases q1
  obtain ⟨u2, q2, r2⟩ := hrow 2 c2 rfl
  cases q2
  obtain ⟨u3, q3, r3⟩ := hrow 3 c3 rfl
  cases q3
  obtain ⟨u4, q4, r4⟩ := hrow 4 c4 rfl
  cases q4
  obtain ⟨u5, q5, r5⟩ := hrow 5 c5 rfl
  cases q5
  obtain ⟨u6, q6, r6⟩ := hrow 6 c6 rfl
  cases q6
  obtain ⟨u7, q7, r7⟩ := hrow 7 c7 rfl
  cases q7
  obtain ⟨u8, q8, r8⟩ := hrow 8 c8 rfl
  cases q8
  obtain ⟨u9, q9, r9⟩ := hrow 9 c9 rfl
  cases q9
  obtain ⟨u10, q10, r10⟩ := hrow 10 c10 rfl
  cases q10
  obtain ⟨u11, q11, r11⟩ := hrow 11 c11 rfl
  cases q11
  obtain ⟨u12, q12, r12⟩ := hrow 12 c12 rfl
  cases q12
  obtain ⟨u13, q13, r13⟩ := hrow 13 c13 rfl
  cases q13
  obtain ⟨u14, q14, r14⟩ := hrow 14 c14 rfl
  cases q14
  obtain ⟨u15, q15, r15⟩ := hrow 15 c15 rfl
  cases q15
  obtain ⟨n0, e0⟩ := zvc Tryz.underlying3 r0
  obtain ⟨n1, e1⟩ := zvc Tryz.underlying3 r1
  obtain ⟨n2, e2⟩ := zsr Tryz.underlying9 r2
  obtain ⟨n3, e3⟩ := zsr Tryz.underlying9 r3
  obtain ⟨n4, e4⟩ := zvc Tryz.underlying3 r4
  obtain ⟨n5, e5⟩ := zvc Tryz.underlying3 r5
  obtain ⟨n9, e9⟩ := zvc Tryz.underlying3 r9
  obtain ⟨n10, e10⟩ := zvc Tryz.underlying3 r10
  obtain ⟨n11, e11⟩ := zvc Tryz.underlying3 r11
  obtain ⟨n12, e12⟩ := zvc Tryz.underlying3 r12
  obtain ⟨n13, e13⟩ := zvc Tryz.underlying5 r13
  subst e0 e1 e2 e3 e4 e5 e9 e10 e11 e12 e13
  obtain ⟨a7, len7, cap7, b7, u7, e7, g7⟩ := zyg 1 Tryz.underlying28 r7
  obtain ⟨a8, len8, cap8, b8, u8, e8, g8⟩ := zyg 2 Tryz.underlying28 r8
  obtain ⟨a14, len14, cap14, b14, u14, e14, g14⟩ := zyg 3 Tryz.underlying28 r14
  obtain ⟨a15, len15, cap15, b15, u15, e15, g15⟩ := zyg 4 Tryz.underlying40 r15
  subst e7 e8 e14 e15
  obtain ⟨mL, yL, tL⟩ := act_l hf
  have tL : DataW.trod enc Tryz.prog W 0 (fun _ => true) true mL 27 [c6] = some yL := tL
  obtain ⟨a6, len6, cap6, ss, b6, u6, h6, e6, g6⟩ : ∃ (a : Option Addr) (len cap : Nat) (ss : Nat → ByteArray) (b : ABlk × EB) (v : AV), len ≤ maxLen ∧ c6 = .slice a len cap ∧ Arg W 0 (.slice a len cap) (fun H v => SlR H v len (fun k => .str (ss k))) b v := by
    rcases Go.Deep.open_strs Tryz.underlying27 Tryz.underlying9 (by kernel_rfl) tL with ⟨hcs, _⟩ | ⟨x, l, c, m, Sx, hcs, _, hl, hm, hmm, _, hx⟩
    · simp only [List.cons.injEq, and_true] at hcs
      subst hcs
      obtain ⟨ss, b, v, h1, h2⟩ := zua1 0 (w := W) (a := none) (len := 0) (cap := 0) (e := 9) (Sx := fun _ => ByteArray.empty) (.inl ⟨rfl, rfl, rfl⟩)
      exact ⟨_, _, _, ss, b, v, h1, rfl, h2⟩
    · simp only [List.cons.injEq, and_true] at hcs
      subst hcs
      rcases zsh Tryz.underlying27 r6 with h | ⟨x', l', c', h, _, _, hsp, hb⟩
      · cases h
      · cases h
        obtain ⟨ss, b, v, h1, h2⟩ := zua1 0 (w := W) (a := some x) (len := l) (cap := c) (e := 9) (Sx := Sx) (.inr ⟨x, rfl, hl, hm, fun i hi => (hx i (by rw [hmm]; simp; omega)).1, hsp, hb⟩)
        exact ⟨_, _, _, ss, b, v, h1, rfl, h2⟩
  subst e6
  clear hA0 hval0
  obtain ⟨fn, hfn⟩ : ∃ fn, lookN.func 4 = some fn := by
    have := hasB
    cases h : lookN.func 4 with
    | none => rw [h] at this; cases this
    | some fn => exact ⟨fn, rfl⟩
  obtain ⟨cd, hcd⟩ : ∃ cd, fn.body = some cd := Option.isSome_iff_exists.1 (by have := hasB; rw [hfn] at this; exact this)
  let B : Nat → ABlk := fun i => match i with | 0 => b6.1 | 1 => b7.1 | 2 => b8.1 | 3 => b14.1 | _ => b15.1
  let x : ActA := ⟨n0, n1, n2, n3, n4, n5, u6, u7, u8, n9, n10, n11, n12, n13, u14, u15⟩
  let bs : List (ABlk × EB) := [b6, b7, b8, b14, b15]
  have hbs : hA (bs.map Prod.fst) = h5 B := rfl
  have key := zws (w := W) zpr (fun B => zln B) hfn hcd bs (args := [.agg (actL x)]) (us := [.agg ⟨.int .i64 n0 :: .int .i64 n1 :: .string n2 :: .string n3 :: .int .i64 n4 :: .int .i64 n5 :: .slice a6 len6 cap6 :: .slice a7 len7 cap7 :: .slice a8 len8 cap8 :: .int .i64 n9 :: .int .i64 n10 :: .int .i64 n11 :: .int .i64 n12 :: .int .u8 n13 :: .slice a14 len14 cap14 :: .slice a15 len15 cap15 :: []⟩])
    (by
      rw [hbs]
      exact zrr x B len6 len7 len8 len14 len15 ss (g6.rd _ rfl) (g7.rd _ rfl) (g8.rd _ rfl) (g14.rd _ rfl) (g15.rd _ rfl) h6)
    (by
      intro b hb
      simp only [bs, List.mem_cons, List.not_mem_nil, or_false] at hb
      rcases hb with rfl | rfl | rfl | rfl | rfl
      · exact g6.own
      · exact g7.own
      · exact g8.own
      · exact g14.own
      · exact g15.own)
    (by
      intro k b hk E hE
      match k, hk with
      | 0, hk => (cases hk; exact g6.br E hE)
      | 1, hk => (cases hk; exact g7.br E hE)
      | 2, hk => (cases hk; exact g8.br E hE)
      | 3, hk => (cases hk; exact g14.br E hE)
      | 4, hk => (cases hk; exact g15.br E hE)
      | k + 5, hk => (exact absurd hk (by simp [bs])))
    (by
      intro E hE
      have z6 := g6.val E (hE 0 b6 rfl)
      have z7 := g7.val E (hE 1 b7 rfl)
      have z8 := g8.val E (hE 2 b8 rfl)
      have z14 := g14.val E (hE 3 b14 rfl)
      have z15 := g15.val E (hE 4 b15 rfl)
      show [Value.agg ⟨.int .i64 n0 :: .int .i64 n1 :: .string n2 :: .string n3 :: .int .i64 n4 :: .int .i64 n5 :: conc E u6 :: conc E u7 :: conc E u8 :: .int .i64 n9 :: .int .i64 n10 :: .int .i64 n11 :: .int .i64 n12 :: .int .u8 n13 :: conc E u14 :: conc E u15 :: []⟩] = _
      rw [z6, z7, z8, z14, z15])
  refine key.mono fun e W' ⟨he, bel⟩ => ?_
  subst he
  exact ⟨_, rfl, _, _, _, [], _, [], hW', trodAll_mk1 (shut_bool Tryz.underlying4 _), (trodAll_cons_mk (Below.trod zwa1 (by kernel_rfl) (of_decide_eq_true (by kernel_rfl)) k0 bel lt0) trodAll_mk0), rfl, bel.frame _, fun h => by cases h⟩
theorem over : Rows.baseNoneRow.holds Tryz.pinned (OpenSpec.ofChange Rows.baseNoneSpec) :=
  OpenClaim.holds_of_wide 4 Tryz.f4 rfl rfl rfl rfl rfl rfl rfl ⟨rfl, rfl, rfl, rfl, rfl⟩ rfl rfl rfl rfl rfl cf1 Tryz.func4 jf cf2 cf3
    (fun os started H enc _ => lifted os started H enc)
theorem proved : Rows.BaseNoneCardSaid :=
  Claim7.holds_tied_plain_at .later [] [.pinned, .data, .sentinel, .sentinel] true (true, "a17345b7c5a0ee6677c3b52a0c605021c8c3c9654d9ad4db46fe97f360c1b6af") true
    over (fun _ h => by cases h) cf4 (fun _ h => by cases h) zsk rfl ⟨rfl, rfl⟩ cf5 rfl
    (fun f fn hf hfn => by
      obtain rfl : f = 4 := Option.some.inj (cf1.symm.trans hf) |>.symm
      obtain rfl : fn = Tryz.f4 := (Option.some.inj (Tryz.func4.symm.trans hfn)).symm
      exact ⟨cf6, fun j t ht => by
        rw [Tryz.params4] at ht
        have hm : t ∈ [44] := by simpa using Array.mem_of_getElem? ht
        exact (show Tryz.prog.wantsStandIn t = false by simpa using List.all_eq_true.1 cf8 t hm)⟩)
    cf7
#print axioms proved
end baseNone
end Go.Proofs.YtkihlgfcjhbgmaaGreatDoor
