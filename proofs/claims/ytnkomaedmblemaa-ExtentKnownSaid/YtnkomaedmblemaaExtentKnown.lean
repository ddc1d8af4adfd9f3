/-
  PROVED HERE: the function ExtentKnown, called on any world, answers true. By evaluation, with a sound evaluator (the Ev texts).
  THE SHELL OF A PROOF OF 'Rows.ExtentKnownSaid' ('caulker/..ExtentKnown'), WRITTEN BY PROGRAM (proof-skeleton.mjs) off the guide's own print for that function. Not trusted: Lean checks it.
  YOURS ARE THE HOLES MARKED 'HOLE' (each bears 'sorry'). ALL ELSE IS THE GUIDE's TEMPLATE (howto/template/XProofs.lean) at this function's number and types: leave it.
-/
import Derived.Test.YtnkomaedmblemaaRows
import Derived.Test.YtnkomaedmblemaaEvTab
import Derived.Test.YtnkomaedmblemaaEvH
import Derived.KernelRfl
import Derived.WalkKit
import Derived.ProofKit
import Derived.OpenShut
import Derived.ShutString
namespace Go.Proofs.Ytnkomaedmblemaa.extentKnown
open Go.ChangeShapes Go.WideShapes Go.ChangeAt Go.RowKit
open Go.ChangeMaps (open_string shut_string)
set_option linter.unusedVariables false      -- a walk need not use every 'w<i>' (that an integer argument fits its kind)

theorem own : ownKnob Try.prog.godebug = none := by kernel_rfl

noncomputable def look : Go.Ev.Lk := Go.Ev.lkOf Try.prog (Go.Ev.Tr.ofList Try.prog.funcs.toList) (Go.Ev.Tr.ofList Try.prog.types.toList)
set_option maxRecDepth 100000 in
theorem look_ok : Go.Ev.LOk look Try.prog := Go.Ev.lkOf_ok (by kernel_rfl) (by kernel_rfl)
set_option maxRecDepth 100000 in
theorem says : Go.Ev.saysTrue (Go.Ev.evF look 1000000 (.call 8 [] Go.Ev.H0)) = true := by kernel_rfl
noncomputable def hasBody (o : Option Func) : Bool := match o with | some fn => fn.body.isSome | none => false
theorem body8 : hasBody (look.func 8) = true := by kernel_rfl

/-! ### STEP 1: THE WALK, BY EVALUATION -/
theorem walk  (w : World) :
    Calls Try.prog 8 #[] w fun e w' => e = .returned (.bool true) ∧ Grown w w' := by
  have hb := body8
  unfold hasBody at hb
  split at hb
  · next fn hf =>
    obtain ⟨c, hc⟩ := Option.isSome_iff_exists.1 hb
    exact Go.Ev.calls_true look_ok (Go.Ev.noExt _ _) hf hc (by rw [← Go.Ev.evF_eq]; exact says) w
  · cases hb

/-! ### THE ROW's STEP: WRITTEN OUT: LEAVE IT -/
set_option maxRecDepth 100000 in
theorem lifted (os : Os) (started : os.Started) (H : Type) (enc : TypeId × Value → H) :
    ReturnsInHanded {} Try.checked os 8 .any (Rows.extentKnownSpec.pre6 enc Try.prog Try.f8 Rows.extentKnownRow.domain false) (Rows.extentKnownSpec.post enc Try.prog Try.f8 false true false false) := by
  refine returnsInHanded_of_change (C := Try.checked) own started (by kernel_rfl) Try.func8
    (ChangeSpec.witness6 (enc := enc) (C := Try.checked) false ⟨#[], #[], []⟩ 8 (by kernel_rfl) (by kernel_rfl) (by kernel_rfl) (by kernel_rfl)) ?_
  intro W base args ds gs before hval0 hW hcnd _
  have hval : ∀ (j : Nat) t v, Try.f8.params[j]? = some t → args[j]? = some v → Value.okWide Try.prog W .any base t v := hval0
  have hW' := hW
  obtain ⟨p, q, hA0, hV, rfl, hfz, hnd⟩ := hW
  have hA : DataW.TrodAll enc Try.prog W 0 (fun _ => true) true Try.f8.params.toList args.toList ds p := hA0
  rw [Try.params8] at hA hval
  obtain ⟨rfl, rfl, rfl⟩ := trodAll_none hA
  obtain ⟨rfl, rfl⟩ := trodVars_none hV
  clear hA0 hval0
  simp only [List.append_nil] at hW'
  refine (walk  W).mono fun e W' ⟨he, hg⟩ => ?_
  subst he
  exact ⟨_, rfl, post_of_same (pa := []) (pv := []) hW' (fun _ _ _ => (trodAll_cons_mk (shut_bool Try.underlying4 _) trodAll_mk0)) (fun sp _ => rfl) (fun _ _ => rfl) rfl
    (hg.frame _) hg.2.1 (ok_one (by kernel_rfl) rfl (okWide_bool_mk Try.underlying4 _))⟩

theorem over : Rows.extentKnownRow.holds Try.pinned (OpenSpec.ofChange Rows.extentKnownSpec) :=
  OpenClaim.holds_of_wide 8 Try.f8 rfl rfl rfl rfl rfl rfl rfl ⟨rfl, rfl, rfl, rfl, rfl⟩ rfl rfl rfl rfl rfl (by kernel_rfl) Try.func8 (by kernel_rfl)
    (of_decide_eq_true (by kernel_rfl)) (by unfold Func.isWrapper; first | (rw [if_pos (by decide +kernel)]; kernel_rfl) | (rw [if_neg (by decide +kernel)]; exact ⟨rfl, rfl⟩))
    (fun os started H enc _ => lifted os started H enc)

/-- ████ THE STATEMENT ████ -/
theorem proved : Rows.ExtentKnownSaid :=
  over
#print axioms proved
end Go.Proofs.Ytnkomaedmblemaa.extentKnown
