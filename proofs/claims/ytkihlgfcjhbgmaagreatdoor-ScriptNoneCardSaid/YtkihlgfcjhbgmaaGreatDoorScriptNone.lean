/-
  PROVED HERE: the function ScriptNone, called with any event, answers true and leaves the event as it was. The card of the given row: its listed variables are tied to the program's text (given).
-/
import Derived.Test.YtkihlgfcjhbgmaaGreatDoorVGAG
import Derived.Test.YtkihlgfcjhbgmaaGreatDoorVGAN
import Derived.Test.YtkihlgfcjhbgmaaGreatDoorRows
import Derived.Test.YtkihlgfcjhbgmaaGreatDoorCards
import Derived.Test.YtkihlgfcjhbgmaaGreatDoorVAAO
import Derived.WalkKit
import Derived.ProofKit
import Derived.OpenShut
import Derived.ShutString
import Derived.ChangeOld
import Derived.Below
import Derived.SevenTiedAt
import Derived.LaidMore
import Derived.Lay
import Derived.Stop.Joined
import Derived.Deep.Slices
import Derived.Stop.LaidErr
set_option maxHeartbeats 8000000
set_option linter.unusedSimpArgs false
set_option linter.unusedVariables false
namespace Go.Proofs.YtkihlgfcjhbgmaaGreatDoor
open Go.ChangeShapes Go.WideShapes Go.ChangeAt Go.RowKit
open Go.Ev HS
namespace scriptNone
theorem gF0 : Tryz.prog.globalNamed "caulker/uber.errField" = some 0 := by kernel_rfl
theorem gT0 : (Tryz.prog.globals[0]?).map (·.type) = some 206 := by kernel_rfl
theorem gF1 : Tryz.prog.globalNamed "caulker/uber.errRoot" = some 1 := by kernel_rfl
theorem gT1 : (Tryz.prog.globals[1]?).map (·.type) = some 206 := by kernel_rfl
theorem star : "*" ++ "errors.errorString" = "*errors.errorString" := by kernel_rfl
theorem rowE (u : TypeId) (h : Tryz.prog.typeName? 3 u = some "*errors.errorString") : u = 736 :=
  typeName_ptr_named (nm := "errors.errorString") (by rw [star]; kernel_rfl) (by kernel_rfl) (by decide) u (by rw [star]; exact h)
theorem zxa1 : Tryz.prog.cellsOf 763 = 1 := by kernel_rfl
theorem zya1 : Tryz.prog.cellsOf 9 = 1 := by kernel_rfl
theorem zag {w : World} {g : Nat} {u : Value} (h : w.cell? ⟨g, 0, none⟩ = some u) : ∃ cs e fz, w.heap[g]? = some (.cells cs e fz) ∧ cs[0]? = some u := by
  unfold World.cell? at h
  simp only [Option.isSome_none, Bool.false_eq_true, if_false] at h
  cases hg : w.heap[g]? with
  | none => simp [hg] at h
  | some o =>
    cases o <;> simp [hg] at h
    exact ⟨_, _, _, rfl, h⟩
theorem own : ownKnob Tryz.prog.godebug = none := by kernel_rfl
theorem zva1 {P : Program} {n : Nat} (hs : P.types.size = n) (h1 : ∀ t, t < n → rowFine P t = true) (h2 : (P.globals.toList.all fun g => decide (g.type < n)) = true) (h3 : (P.funcs.toList.all fun f => f.params.toList.all fun t => decide (t < n)) = true) : laidOutB P = true := by
  unfold laidOutB
  rw [hs, Bool.and_eq_true, Bool.and_eq_true]
  refine ⟨⟨List.all_eq_true.2 fun t ht => h1 t (List.mem_range.1 ht), by rw [← Array.all_toList]; exact h2⟩, ?_⟩
  rw [← Array.all_toList]
  simpa only [Array.all_toList] using h3
theorem zvk1 {P : Program} : ∀ t, t < 0 → rowFine P t = true := fun _ h => absurd h (Nat.not_lt_zero _)
theorem zzf {P : Program} {a k : Nat} (h : ∀ t, t < a → rowFine P t = true) (hc : (List.range' a k).all (rowFine P) = true) : ∀ t, t < a + k → rowFine P t = true := fun t ht => by
  rcases Nat.lt_or_ge t a with h' | h'
  · exact h t h'
  · exact List.all_eq_true.1 hc t (List.mem_range'.2 ⟨t - a, by omega, by omega⟩)
theorem lo0 : (List.range' 0 100).all (rowFine Tryz.prog) = true := by kernel_rfl
theorem lo1 : (List.range' 100 100).all (rowFine Tryz.prog) = true := by kernel_rfl
theorem lo2 : (List.range' 200 100).all (rowFine Tryz.prog) = true := by kernel_rfl
theorem lo3 : (List.range' 300 100).all (rowFine Tryz.prog) = true := by kernel_rfl
theorem lo4 : (List.range' 400 100).all (rowFine Tryz.prog) = true := by kernel_rfl
theorem lo5 : (List.range' 500 100).all (rowFine Tryz.prog) = true := by kernel_rfl
theorem lo6 : (List.range' 600 100).all (rowFine Tryz.prog) = true := by kernel_rfl
theorem lo7 : (List.range' 700 75).all (rowFine Tryz.prog) = true := by kernel_rfl
theorem zwa1 : laidOutB Tryz.prog = true := zva1 (n := 775) (by kernel_rfl) (zzf (a := 700) (k := 75) (zzf (a := 600) (k := 100) (zzf (a := 500) (k := 100) (zzf (a := 400) (k := 100) (zzf (a := 300) (k := 100) (zzf (a := 200) (k := 100) (zzf (a := 100) (k := 100) (zzf (a := 0) (k := 100) zvk1 lo0) lo1) lo2) lo3) lo4) lo5) lo6) lo7) (by kernel_rfl) (by kernel_rfl)
theorem hasB : (match lookN.func 6 with | some fn => fn.body.isSome | none => false) = true := by kernel_rfl
theorem ctV : Tryz.prog.cellTypes Tryz.prog.depth 68 = some [3, 3, 3, 3, 5, 40, 28] := by kernel_rfl
theorem zwk1 : Tryz.prog.cellsOf 68 = 7 := by kernel_rfl
theorem array7 {α : Type} {cs : Array α} (h : cs.size = 7) : ∃ c0 c1 c2 c3 c4 c5 c6, cs = ⟨c0 :: c1 :: c2 :: c3 :: c4 :: c5 :: c6 :: []⟩ := by
  obtain ⟨l⟩ := cs
  match l, h with
  | c0 :: c1 :: c2 :: c3 :: c4 :: c5 :: c6 :: [], _ => exact ⟨c0, c1, c2, c3, c4, c5, c6, rfl⟩
def LD : List (String × DataW Unit) := [("unicode/utf8.first", Rows.laid_unicode_utf8_first), ("unicode/utf8.acceptRanges", Rows.laid_unicode_utf8_acceptRanges), ("caulker/uber.errField", Rows.laid_caulker_uber_errField), ("caulker/uber.errRoot", Rows.laid_caulker_uber_errRoot)]
set_option maxRecDepth 100000 in
theorem lifted (os : Os) (started : os.Started) (H : Type) (enc : TypeId × Value → H) :
    ReturnsInHanded {} Tryz.checked os 6 .any (fun w args => (Rows.scriptNoneSpec.pre enc Tryz.prog Tryz.f6 Rows.scriptNoneRow.domain false w args ∧ laidMetH Tryz.prog LD w) ∧ sizedMet enc Tryz.prog Tryz.f6 (OpenSpec.ofChange Rows.scriptNoneSpec) false w args) (Rows.scriptNoneSpec.post enc Tryz.prog Tryz.f6 false true false false) := by
  refine returnsInHanded_of_change_and (C := Tryz.checked) (X := fun w _ => laidMetH Tryz.prog LD w) (fun _ _ _ hh h => h.of_heap hh) own started (by kernel_rfl) Tryz.func6
    (ChangeSpec.witness_shaped (enc := enc) (C := Tryz.checked) (os := os) (X := fun w _ => laidMetH Tryz.prog LD w) false (World.laidAll Tryz.prog os LD) #[.agg ⟨.int .i64 0 :: .int .i64 0 :: .int .i64 0 :: .int .i64 0 :: .int .u8 0 :: .slice none 0 0 :: .slice none 0 0 :: []⟩] 12 (World.laidAll_os _ _ _)
      (World.shaped_of_ZipB (wz1 os) (by as_aux_lemma => kernel_rfl)) (by as_aux_lemma => kernel_rfl) (by as_aux_lemma => kernel_rfl) (by as_aux_lemma => kernel_rfl)
      (by rw [MakeChecks.laidMetH_plain _ _ _ (by kernel_rfl)]; exact laidMet_laidAll _ (wz6 os) (wz7 os))) ?_
  intro W base args ds gs before hval0 hW hcnd _ hL _
  have hval : ∀ (j : Nat) t v, Tryz.f6.params[j]? = some t → args[j]? = some v → Value.okWide Tryz.prog W .any base t v := hval0
  have hW' := hW
  obtain ⟨p, q, hA0, hV, rfl, hfz, hnd⟩ := hW
  have hAll : DataW.TrodAll enc Tryz.prog W 0 (fun _ => true) true Tryz.f6.params.toList args.toList ds p := hA0
  rw [Tryz.params6] at hAll hval
  obtain ⟨v0, vs0, d0, ds0, p0, q0, hargs, rfl, rfl, h0, r0⟩ := trodAll_cons hAll
  obtain ⟨rfl, rfl, rfl⟩ := trodAll_nil r0
  obtain rfl : args = #[v0] := by cases args; simp_all
  obtain ⟨rfl, rfl⟩ := trodVars_none hV
  have k0 := h0
  have lt0 : ∀ x ∈ p0, x.block < W.heap.size := by obtain ⟨m, hm⟩ := k0; exact DataW.trod_lt m _ _ _ hm
  obtain ⟨fuel, hf⟩ := h0
  have hv := hval 0 68 v0 rfl rfl
  simp only [Value.okWide, Tryz.underlying68] at hv
  obtain ⟨cs', rfl, hsz, ts, hts, _, hrow⟩ := hv
  rw [ctV] at hts
  cases hts
  obtain ⟨c0, c1, c2, c3, c4, c5, c6, rfl⟩ := array7 (hsz.trans zwk1)
  obtain ⟨u0, q0, r0⟩ := hrow 0 c0 rfl
  cases q0
  obtain ⟨u1, q1, r1⟩ := hrow 1 c1 rfl
  cases q1
  obtain ⟨u2, q2, r2⟩ := hrow 2 c2 rfl
  cases q2
  obtain ⟨u3, q3, r3⟩ := hrow 3 c3 rfl
  cases q3
  obtain ⟨u4, q4, r4⟩ := hrow 4 c4 rfl
  cases q4
  obtain ⟨u5, q5, r5⟩ := hrow 5 c5 rfl
  cases q5
  obtain ⟨u6, q6, r6⟩ := hrow 6 c6 rfl
  cases q6
  obtain ⟨n0, e0⟩ := zvc Tryz.underlying3 r0
  obtain ⟨n1, e1⟩ := zvc Tryz.underlying3 r1
  obtain ⟨n2, e2⟩ := zvc Tryz.underlying3 r2
  obtain ⟨n3, e3⟩ := zvc Tryz.underlying3 r3
  obtain ⟨n4, e4⟩ := zvc Tryz.underlying5 r4
  subst e0 e1 e2 e3 e4
  obtain ⟨a5, len5, cap5, b5, u5, e5, g5⟩ := zyg 7 Tryz.underlying40 r5
  obtain ⟨a6, len6, cap6, b6, u6, e6, g6⟩ := zyg 8 Tryz.underlying28 r6
  subst e5 e6
  clear hA0 hval0
  obtain ⟨fn, hfn⟩ : ∃ fn, lookN.func 6 = some fn := by
    have := hasB
    cases h : lookN.func 6 with
    | none => rw [h] at this; cases this
    | some fn => exact ⟨fn, rfl⟩
  obtain ⟨cd, hcd⟩ : ∃ cd, fn.body = some cd := Option.isSome_iff_exists.1 (by have := hasB; rw [hfn] at this; exact this)
  rw [MakeChecks.laidMetH_plain _ _ _ (by kernel_rfl)] at hL
  obtain ⟨a0, s0, hv0, hc0, _, _⟩ := laid_sentinel hL.tail.tail gF0 gT0 Tryz.underlying206 rowE Tryz.underlying736 Tryz.underlying763 rfl rfl Tryz.underlying9 zxa1 zya1
  obtain ⟨a1, s1, hv1, hc1, _, _⟩ := laid_sentinel hL.tail.tail.tail gF1 gT1 Tryz.underlying206 rowE Tryz.underlying736 Tryz.underlying763 rfl rfl Tryz.underlying9 zxa1 zya1
  obtain ⟨cs0, ec0, fz0, gc0, kc0⟩ := zag (show W.cell? ⟨0, 0, none⟩ = some (.iface 736 (.pointer (some a0))) from World.var?_cell gF0 hv0 0)
  obtain ⟨cs1, ec1, fz1, gc1, kc1⟩ := zag (show W.cell? ⟨1, 0, none⟩ = some (.iface 736 (.pointer (some a1))) from World.var?_cell gF1 hv1 0)
  obtain ⟨b0, o0, pa0⟩ := a0
  obtain ⟨b1, o1, pa1⟩ := a1
  have qa0 : pa0 = none := by simpa using World.cell?_spot hc0
  have qa1 : pa1 = none := by simpa using World.cell?_spot hc1
  subst qa0 qa1
  let B : Nat → ABlk := fun i => match i with | 0 => b5.1 | _ => b6.1
  let x : EvA := ⟨n0, n1, n2, n3, n4, u5, u6⟩
  let bs : List (ABlk × EB) := [(.glob 0 (.ifc 736 (.ptr 5 0)), ⟨0, 0, 0⟩), (.glob 1 (.ifc 736 (.ptr 6 0)), ⟨1, 0, 0⟩), (.defd, ⟨2, 0, 0⟩), (.defd, ⟨3, 0, 0⟩), (.defd, ⟨4, 0, 0⟩), (.defd, ⟨b0, o0, 0⟩), (.defd, ⟨b1, o1, 0⟩), b5, b6]
  have hbs : hA (bs.map Prod.fst) = h5 B := rfl
  obtain ⟨vr, Hr, hvr, nr, hnr⟩ := (zmn x B len5 len6 (g5.rd _ rfl) (g6.rd _ rfl)).h
  subst hvr
  have key := zan (w := W) zpr (fun B => zln B) hfn hcd bs (args := [.agg (evL x)]) (us := [.agg ⟨.int .i64 n0 :: .int .i64 n1 :: .int .i64 n2 :: .int .i64 n3 :: .int .u8 n4 :: .slice a5 len5 cap5 :: .slice a6 len6 cap6 :: []⟩]) (by rw [hbs]; exact hnr nr (Nat.le_refl _)) rfl
    (by
      intro b hb
      simp only [bs, List.mem_cons, List.not_mem_nil, or_false] at hb
      rcases hb with rfl | rfl | rfl | rfl | rfl | rfl | rfl | rfl | rfl
      · rfl
      · rfl
      · rfl
      · rfl
      · rfl
      · rfl
      · rfl
      · exact g5.own
      · exact g6.own)
    (by
      intro k b hk E hE
      have h0 := hE 0 _ rfl
      have h1 := hE 1 _ rfl
      have h2 := hE 5 _ rfl
      have h3 := hE 6 _ rfl
      have h5 := hE 7 _ rfl
      have h6 := hE 8 _ rfl
      match k, hk with
      | 0, hk => (cases hk; exact ⟨by rw [h0], cs0, ec0, fz0, by rw [h0]; exact gc0, by rw [kc0]; show _ = some (Value.iface 736 (.pointer (some ⟨(E 5).blk, (E 5).off + 0, none⟩))); rw [h2]; rfl⟩)
      | 1, hk => (cases hk; exact ⟨by rw [h1], cs1, ec1, fz1, by rw [h1]; exact gc1, by rw [kc1]; show _ = some (Value.iface 736 (.pointer (some ⟨(E 6).blk, (E 6).off + 0, none⟩))); rw [h3]; rfl⟩)
      | 2, hk => (cases hk; trivial)
      | 3, hk => (cases hk; trivial)
      | 4, hk => (cases hk; trivial)
      | 5, hk => (cases hk; trivial)
      | 6, hk => (cases hk; trivial)
      | 7, hk => (cases hk; exact g5.br E h5)
      | 8, hk => (cases hk; exact g6.br E h6)
      | k + 9, hk => (exact absurd hk (by simp [bs])))
    (by
      intro E hE
      have z5 := g5.val E (hE 7 b5 rfl)
      have z6 := g6.val E (hE 8 b6 rfl)
      show [Value.agg ⟨.int .i64 n0 :: .int .i64 n1 :: .int .i64 n2 :: .int .i64 n3 :: .int .u8 n4 :: conc E u5 :: conc E u6 :: []⟩] = _
      rw [z5, z6])
  refine key.mono fun e W' ⟨he, bel⟩ => ?_
  subst he
  exact ⟨_, rfl, _, _, _, [], _, [], hW', trodAll_mk1 (shut_bool Tryz.underlying4 _), (trodAll_cons_mk (Below.trod zwa1 (by kernel_rfl) (of_decide_eq_true (by kernel_rfl)) k0 bel lt0) trodAll_mk0), rfl, bel.frame _, fun h => by cases h⟩
theorem over : Rows.scriptNoneRow.holds Tryz.pinned (OpenSpec.ofChange Rows.scriptNoneSpec) :=
  OpenClaim.holds_of_wide 6 Tryz.f6 rfl rfl rfl rfl rfl rfl rfl ⟨rfl, rfl, rfl, rfl, rfl⟩ rfl rfl rfl rfl rfl cf1 Tryz.func6 jf cf2 cf3
    (fun os started H enc _ => lifted os started H enc)
theorem proved : Rows.ScriptNoneCardSaid :=
  Claim7.holds_tied_plain_at .later [] [.pinned, .data, .sentinel, .sentinel] true (true, "a17345b7c5a0ee6677c3b52a0c605021c8c3c9654d9ad4db46fe97f360c1b6af") true
    over (fun _ h => by cases h) cf4 (fun _ h => by cases h) zpi rfl ⟨rfl, rfl⟩ cf5 rfl
    (fun f fn hf hfn => by
      obtain rfl : f = 6 := Option.some.inj (cf1.symm.trans hf) |>.symm
      obtain rfl : fn = Tryz.f6 := (Option.some.inj (Tryz.func6.symm.trans hfn)).symm
      exact ⟨cf6, fun j t ht => by
        rw [Tryz.params6] at ht
        have hm : t ∈ [68] := by simpa using Array.mem_of_getElem? ht
        exact (show Tryz.prog.wantsStandIn t = false by simpa using List.all_eq_true.1 cf8 t hm)⟩)
    cf7
#print axioms proved
end scriptNone
end Go.Proofs.YtkihlgfcjhbgmaaGreatDoor
