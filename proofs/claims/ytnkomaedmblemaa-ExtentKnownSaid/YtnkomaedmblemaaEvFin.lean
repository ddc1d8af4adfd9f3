import Derived.Test.YtnkomaedmblemaaEvRun8
import Derived.RowKit3
set_option linter.unusedSimpArgs false
set_option linter.unusedVariables false
namespace Go.Ev
open Go.RowKit
section
variable {L : Lk} {P : Program}

/-- Did it come to the answer true, with no cell marked? -/
noncomputable def saysTrue (o : Option Out) : Bool :=
  match o with
  | some o => (match outVal o with | .bool b => (match b with | true => (match o.H.fz with | true => false | false => true) | false => false) | _ => false)
  | none => false
theorem saysTrue_ok {o : Option Out} (h : saysTrue o = true) : ∃ out, o = some out ∧ outVal out = .bool true ∧ out.H.fz = false := by
  unfold saysTrue at h
  split at h
  · next out =>
    split at h
    · next b hb =>
      split at h
      · split at h
        · cases h
        · next hz => exact ⟨out, rfl, hb, hz⟩
      · cases h
    · cases h
  · cases h

theorem grown_of {E E1 : Env} {H1 : AH} {w w1 : World} (h : Post E H0 w E1 H1 w1) (hz : H1.fz = false) : Grown w w1 := by
  refine ⟨⟨h.os, h.output, fun i hi => ?_⟩, (h.froz hz).2, h.size⟩
  have he : w1.heap[i]? = w.heap[i]? := h.frame i hi fun ⟨j, b, hg, _⟩ => by rw [H0_get] at hg; cases hg
  rw [he]
  cases hx : w.heap[i]? with
  | none => trivial
  | some o => cases o <;> first | rfl | exact ⟨rfl, rfl, rfl, fun _ _ => rfl⟩ | exact .inr ⟨rfl, rfl⟩

/-- **A FUNCTION THAT TAKES NOTHING ANSWERS AS THE EVALUATION SAYS.** -/
theorem calls_true (hL : LOk L P) (hX : ∀ B, ExtOk L P B) {n : Nat} {f : FuncId} {fn : Func} {c : Code} (hf : L.func f = some fn) (hb : fn.body = some c) (h : saysTrue (evReq L n (.call f [] H0)) = true) (w : World) :
    Calls P f #[] w fun e w' => e = .returned (.bool true) ∧ Grown w w' := by
  obtain ⟨out, ho, hv, hz⟩ := saysTrue_ok h
  have E0 : Env := fun _ => ⟨0, 0, 0⟩
  have hc := (evReq_ok hL (hX w.heap.size) n).call f [] H0 out ho E0 w [] H0_wf (H0_st E0 w) (fun _ _ => rfl)
  unfold CallOk at hc
  rw [run_callFunc hL hf hb] at hc
  refine (CallsIn.calls hc fun k => room_open open_wide k).mono fun e w1 ⟨u, he, E1, h1, _, h3, _⟩ => ?_
  subst he
  refine ⟨?_, grown_of h3 hz⟩
  rw [h1.self, hv]
  rfl
end
end Go.Ev
