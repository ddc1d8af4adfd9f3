/-
  PROVED HERE: the function ScriptKnown, called with any arguments, answers true and leaves them as they were. The card of the given row: its listed variables are tied to the program's text (given).
-/
import Derived.Test.YtkihlgfcjhbgmaaGreatDoorVFAC
import Derived.Test.YtkihlgfcjhbgmaaGreatDoorVFAJ
import Derived.Test.YtkihlgfcjhbgmaaGreatDoorRows
import Derived.Test.YtkihlgfcjhbgmaaGreatDoorCards
import Derived.Test.YtkihlgfcjhbgmaaGreatDoorVAAO
import Derived.WalkKit
import Derived.ProofKit
import Derived.OpenShut
import Derived.ShutString
import Derived.ChangeOld
import Derived.Below
import Derived.SevenTiedAt
import Derived.LaidMore
import Derived.Lay
import Derived.Stop.Joined
import Derived.Stop.LaidErr
set_option maxHeartbeats 8000000
set_option linter.unusedSimpArgs false
set_option linter.unusedVariables false
namespace Go.Proofs.YtkihlgfcjhbgmaaGreatDoor
open Go.ChangeShapes Go.WideShapes Go.ChangeAt Go.RowKit
open Go.Ev HS
open Go.ChangeMaps (open_string shut_string)
namespace scriptKnown
theorem gF0 : Tryz.prog.globalNamed "caulker/uber.errField" = some 0 := by kernel_rfl
theorem gT0 : (Tryz.prog.globals[0]?).map (·.type) = some 206 := by kernel_rfl
theorem gF1 : Tryz.prog.globalNamed "caulker/uber.errRoot" = some 1 := by kernel_rfl
theorem gT1 : (Tryz.prog.globals[1]?).map (·.type) = some 206 := by kernel_rfl
theorem star : "*" ++ "errors.errorString" = "*errors.errorString" := by kernel_rfl
theorem rowE (u : TypeId) (h : Tryz.prog.typeName? 3 u = some "*errors.errorString") : u = 736 :=
  typeName_ptr_named (nm := "errors.errorString") (by rw [star]; kernel_rfl) (by kernel_rfl) (by decide) u (by rw [star]; exact h)
theorem zxa1 : Tryz.prog.cellsOf 763 = 1 := by kernel_rfl
theorem zya1 : Tryz.prog.cellsOf 9 = 1 := by kernel_rfl
theorem zag {w : World} {g : Nat} {u : Value} (h : w.cell? ⟨g, 0, none⟩ = some u) : ∃ cs e fz, w.heap[g]? = some (.cells cs e fz) ∧ cs[0]? = some u := by
  unfold World.cell? at h
  simp only [Option.isSome_none, Bool.false_eq_true, if_false] at h
  cases hg : w.heap[g]? with
  | none => simp [hg] at h
  | some o =>
    cases o <;> simp [hg] at h
    exact ⟨_, _, _, rfl, h⟩
theorem own : ownKnob Tryz.prog.godebug = none := by kernel_rfl
theorem hasB : (match lookZ.func 5 with | some fn => fn.body.isSome | none => false) = true := by kernel_rfl
def LD : List (String × DataW Unit) := [("unicode/utf8.first", Rows.laid_unicode_utf8_first), ("unicode/utf8.acceptRanges", Rows.laid_unicode_utf8_acceptRanges), ("caulker/uber.errField", Rows.laid_caulker_uber_errField), ("caulker/uber.errRoot", Rows.laid_caulker_uber_errRoot)]
set_option maxRecDepth 100000 in
theorem lifted (os : Os) (started : os.Started) (H : Type) (enc : TypeId × Value → H) :
    ReturnsInHanded {} Tryz.checked os 5 .any (fun w args => (Rows.scriptKnownSpec.pre enc Tryz.prog Tryz.f5 Rows.scriptKnownRow.domain false w args ∧ laidMetH Tryz.prog LD w) ∧ sizedMet enc Tryz.prog Tryz.f5 (OpenSpec.ofChange Rows.scriptKnownSpec) false w args) (Rows.scriptKnownSpec.post enc Tryz.prog Tryz.f5 false true false false) := by
  refine returnsInHanded_of_change_and (C := Tryz.checked) (X := fun w _ => laidMetH Tryz.prog LD w) (fun _ _ _ hh h => h.of_heap hh) own started (by kernel_rfl) Tryz.func5
    (ChangeSpec.witness_shaped (enc := enc) (C := Tryz.checked) (os := os) (X := fun w _ => laidMetH Tryz.prog LD w) false (World.laidAll Tryz.prog os LD) #[] 8 (World.laidAll_os _ _ _)
      (World.shaped_of_ZipB (wz1 os) (by as_aux_lemma => kernel_rfl)) (by as_aux_lemma => kernel_rfl) (by as_aux_lemma => kernel_rfl) (by as_aux_lemma => kernel_rfl)
      (by rw [MakeChecks.laidMetH_plain _ _ _ (by kernel_rfl)]; exact laidMet_laidAll _ (wz6 os) (wz7 os))) ?_
  intro W base args ds gs before hval0 hW hcnd _ hL _
  have hval : ∀ (j : Nat) t v, Tryz.f5.params[j]? = some t → args[j]? = some v → Value.okWide Tryz.prog W .any base t v := hval0
  have hW' := hW
  obtain ⟨p, q, hA0, hV, rfl, hfz, hnd⟩ := hW
  have hA : DataW.TrodAll enc Tryz.prog W 0 (fun _ => true) true Tryz.f5.params.toList args.toList ds p := hA0
  rw [Tryz.params5] at hA hval
  obtain ⟨rfl, rfl, rfl⟩ := trodAll_none hA
  obtain ⟨rfl, rfl⟩ := trodVars_none hV
  simp only [List.append_nil] at hW'
  clear hA0 hval0
  obtain ⟨fn, hfn⟩ : ∃ fn, lookZ.func 5 = some fn := by
    have := hasB
    cases h : lookZ.func 5 with
    | none => rw [h] at this; cases this
    | some fn => exact ⟨fn, rfl⟩
  obtain ⟨cd, hcd⟩ : ∃ cd, fn.body = some cd := Option.isSome_iff_exists.1 (by have := hasB; rw [hfn] at this; exact this)
  rw [MakeChecks.laidMetH_plain _ _ _ (by kernel_rfl)] at hL
  obtain ⟨a0, s0, hv0, hc0, _, _⟩ := laid_sentinel hL.tail.tail gF0 gT0 Tryz.underlying206 rowE Tryz.underlying736 Tryz.underlying763 rfl rfl Tryz.underlying9 zxa1 zya1
  obtain ⟨a1, s1, hv1, hc1, _, _⟩ := laid_sentinel hL.tail.tail.tail gF1 gT1 Tryz.underlying206 rowE Tryz.underlying736 Tryz.underlying763 rfl rfl Tryz.underlying9 zxa1 zya1
  obtain ⟨cs0, e0, fz0, g0, k0⟩ := zag (show W.cell? ⟨0, 0, none⟩ = some (.iface 736 (.pointer (some a0))) from World.var?_cell gF0 hv0 0)
  obtain ⟨cs1, e1, fz1, g1, k1⟩ := zag (show W.cell? ⟨1, 0, none⟩ = some (.iface 736 (.pointer (some a1))) from World.var?_cell gF1 hv1 0)
  obtain ⟨b0, o0, p0⟩ := a0
  obtain ⟨b1, o1, p1⟩ := a1
  have q0 : p0 = none := by simpa using World.cell?_spot hc0
  have q1 : p1 = none := by simpa using World.cell?_spot hc1
  subst q0 q1
  obtain ⟨out, ho, hov⟩ := lawG
  have key := zan (w := W) zor zkn hfn hcd [(.glob 0 (.ifc 736 (.ptr 5 0)), ⟨0, 0, 0⟩), (.glob 1 (.ifc 736 (.ptr 6 0)), ⟨1, 0, 0⟩), (.defd, ⟨2, 0, 0⟩), (.defd, ⟨3, 0, 0⟩), (.defd, ⟨4, 0, 0⟩), (.defd, ⟨b0, o0, 0⟩), (.defd, ⟨b1, o1, 0⟩)] (args := []) (us := []) ho hov
    (by intro b hb; simp only [List.mem_cons, List.not_mem_nil, or_false] at hb; rcases hb with rfl | rfl | rfl | rfl | rfl | rfl | rfl <;> rfl)
    (by
      intro k b hk E hE
      have h0 := hE 0 _ rfl
      have h1 := hE 1 _ rfl
      have h2 := hE 5 _ rfl
      have h3 := hE 6 _ rfl
      match k, hk with
      | 0, hk => (cases hk; exact ⟨by rw [h0], cs0, e0, fz0, by rw [h0]; exact g0, by rw [k0]; show _ = some (Value.iface 736 (.pointer (some ⟨(E 5).blk, (E 5).off + 0, none⟩))); rw [h2]; rfl⟩)
      | 1, hk => (cases hk; exact ⟨by rw [h1], cs1, e1, fz1, by rw [h1]; exact g1, by rw [k1]; show _ = some (Value.iface 736 (.pointer (some ⟨(E 6).blk, (E 6).off + 0, none⟩))); rw [h3]; rfl⟩)
      | 2, hk => (cases hk; trivial)
      | 3, hk => (cases hk; trivial)
      | 4, hk => (cases hk; trivial)
      | 5, hk => (cases hk; trivial)
      | 6, hk => (cases hk; trivial)
      | k + 7, hk => (exact absurd hk (by simp)))
    (fun E _ => rfl)
  refine key.mono fun e W' ⟨he, bel⟩ => ?_
  subst he
  exact ⟨_, rfl, _, _, _, [], _, [], hW', trodAll_mk1 (shut_bool Tryz.underlying4 _), trodAll_mk0, rfl, bel.frame _, fun h => by cases h⟩
theorem over : Rows.scriptKnownRow.holds Tryz.pinned (OpenSpec.ofChange Rows.scriptKnownSpec) :=
  OpenClaim.holds_of_wide 5 Tryz.f5 rfl rfl rfl rfl rfl rfl rfl ⟨rfl, rfl, rfl, rfl, rfl⟩ rfl rfl rfl rfl rfl cf1 Tryz.func5 jf cf2 cf3
    (fun os started H enc _ => lifted os started H enc)
theorem proved : Rows.ScriptKnownCardSaid :=
  Claim7.holds_tied_plain_at .later [] [.pinned, .data, .sentinel, .sentinel] true (true, "a17345b7c5a0ee6677c3b52a0c605021c8c3c9654d9ad4db46fe97f360c1b6af") true
    over (fun _ h => by cases h) cf4 (fun _ h => by cases h) zrh rfl ⟨rfl, rfl⟩ cf5 rfl
    (fun f fn hf hfn => by
      obtain rfl : f = 5 := Option.some.inj (cf1.symm.trans hf) |>.symm
      obtain rfl : fn = Tryz.f5 := (Option.some.inj (Tryz.func5.symm.trans hfn)).symm
      exact ⟨cf6, fun j t ht => by
        rw [Tryz.params5] at ht
        simp at ht⟩)
    cf7
#print axioms proved
end scriptKnown
end Go.Proofs.YtkihlgfcjhbgmaaGreatDoor
