/-
  PROVED HERE: the function BaseKnown, called with any arguments, answers true and leaves them as they were. The card of the given row: its listed variables are tied to the program's text (given).
-/
import Derived.Test.YtkihlgfcjhbgmaaGreatDoorVDAB
import Derived.Test.YtkihlgfcjhbgmaaGreatDoorVDAI
import Derived.Test.YtkihlgfcjhbgmaaGreatDoorRows
import Derived.Test.YtkihlgfcjhbgmaaGreatDoorCards
import Derived.Test.YtkihlgfcjhbgmaaGreatDoorVAAO
import Derived.WalkKit
import Derived.ProofKit
import Derived.OpenShut
import Derived.ShutString
import Derived.ChangeOld
import Derived.Below
import Derived.SevenTiedAt
import Derived.LaidMore
import Derived.Lay
import Derived.Stop.Joined
set_option maxHeartbeats 8000000
set_option linter.unusedSimpArgs false
set_option linter.unusedVariables false
namespace Go.Proofs.YtkihlgfcjhbgmaaGreatDoor
open Go.ChangeShapes Go.WideShapes Go.ChangeAt Go.RowKit
open Go.Ev HS
open Go.ChangeMaps (open_string shut_string)
namespace baseKnown
theorem own : ownKnob Tryz.prog.godebug = none := by kernel_rfl
theorem hasB : (match lookZ.func 3 with | some fn => fn.body.isSome | none => false) = true := by kernel_rfl
def LD : List (String × DataW Unit) := [("unicode/utf8.first", Rows.laid_unicode_utf8_first), ("unicode/utf8.acceptRanges", Rows.laid_unicode_utf8_acceptRanges)]
set_option maxRecDepth 100000 in
theorem lifted (os : Os) (started : os.Started) (H : Type) (enc : TypeId × Value → H) :
    ReturnsInHanded {} Tryz.checked os 3 .any (fun w args => (Rows.baseKnownSpec.pre enc Tryz.prog Tryz.f3 Rows.baseKnownRow.domain false w args ∧ laidMetH Tryz.prog LD w) ∧ sizedMet enc Tryz.prog Tryz.f3 (OpenSpec.ofChange Rows.baseKnownSpec) false w args) (Rows.baseKnownSpec.post enc Tryz.prog Tryz.f3 false true false false) := by
  refine returnsInHanded_of_change_and (C := Tryz.checked) (X := fun w _ => laidMetH Tryz.prog LD w) (fun _ _ _ hh h => h.of_heap hh) own started (by kernel_rfl) Tryz.func3
    (ChangeSpec.witness_shaped (enc := enc) (C := Tryz.checked) (os := os) (X := fun w _ => laidMetH Tryz.prog LD w) false (World.laidAll Tryz.prog os LD) #[] 8 (World.laidAll_os _ _ _)
      (World.shaped_of_ZipB (wz1 os) (by as_aux_lemma => kernel_rfl)) (by as_aux_lemma => kernel_rfl) (by as_aux_lemma => kernel_rfl) (by as_aux_lemma => kernel_rfl)
      (by rw [MakeChecks.laidMetH_plain _ _ _ (by kernel_rfl)]; exact laidMet_laidAll _ (wz6 os) (wz7 os))) ?_
  intro W base args ds gs before hval0 hW hcnd _ hL _
  have hval : ∀ (j : Nat) t v, Tryz.f3.params[j]? = some t → args[j]? = some v → Value.okWide Tryz.prog W .any base t v := hval0
  have hW' := hW
  obtain ⟨p, q, hA0, hV, rfl, hfz, hnd⟩ := hW
  have hA : DataW.TrodAll enc Tryz.prog W 0 (fun _ => true) true Tryz.f3.params.toList args.toList ds p := hA0
  rw [Tryz.params3] at hA hval
  obtain ⟨rfl, rfl, rfl⟩ := trodAll_none hA
  obtain ⟨rfl, rfl⟩ := trodVars_none hV
  simp only [List.append_nil] at hW'
  clear hA0 hval0
  obtain ⟨fn, hfn⟩ : ∃ fn, lookZ.func 3 = some fn := by
    have := hasB
    cases h : lookZ.func 3 with
    | none => rw [h] at this; cases this
    | some fn => exact ⟨fn, rfl⟩
  obtain ⟨cd, hcd⟩ : ∃ cd, fn.body = some cd := Option.isSome_iff_exists.1 (by have := hasB; rw [hfn] at this; exact this)
  have key := zws (w := W) zor zkn hfn hcd [] (args := []) (us := []) (lawZ)
    (by intro b hb; cases hb) (by intro k b hk; cases hk) (fun E _ => rfl)
  refine key.mono fun e W' ⟨he, bel⟩ => ?_
  subst he
  exact ⟨_, rfl, _, _, _, [], _, [], hW', trodAll_mk1 (shut_bool Tryz.underlying4 _), trodAll_mk0, rfl, bel.frame _, fun h => by cases h⟩
theorem over : Rows.baseKnownRow.holds Tryz.pinned (OpenSpec.ofChange Rows.baseKnownSpec) :=
  OpenClaim.holds_of_wide 3 Tryz.f3 rfl rfl rfl rfl rfl rfl rfl ⟨rfl, rfl, rfl, rfl, rfl⟩ rfl rfl rfl rfl rfl cf1 Tryz.func3 jf cf2 cf3
    (fun os started H enc _ => lifted os started H enc)
theorem proved : Rows.BaseKnownCardSaid :=
  Claim7.holds_tied_plain_at .later [] [.pinned, .data] true (true, "a17345b7c5a0ee6677c3b52a0c605021c8c3c9654d9ad4db46fe97f360c1b6af") true
    over (fun _ h => by cases h) cf4 (fun _ h => by cases h) zbj rfl ⟨rfl, rfl⟩ cf5 rfl
    (fun f fn hf hfn => by
      obtain rfl : f = 3 := Option.some.inj (cf1.symm.trans hf) |>.symm
      obtain rfl : fn = Tryz.f3 := (Option.some.inj (Tryz.func3.symm.trans hfn)).symm
      exact ⟨cf6, fun j t ht => by
        rw [Tryz.params3] at ht
        simp at ht⟩)
    cf7
#print axioms proved
end baseKnown
end Go.Proofs.YtkihlgfcjhbgmaaGreatDoor
