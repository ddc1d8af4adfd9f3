import Derived.Test.YtnkomaedmblemaaEvFin
set_option linter.unusedSimpArgs false
set_option linter.unusedVariables false
namespace Go.Ev

/-- Is a function one that the evaluation may enter? -/
def fitFn (fn : Func) : Bool := !(fn.name == "runtime.NumGoroutine") && (match fn.body with | some c => wfC fn.ntmps c | none => true)
noncomputable def lkOf (P : Program) (fs : Tr Func) (ts : Tr TypeInfo) : Lk :=
  { func := fun f => fs.get f, info := fun t => ts.get t, plainEq := fun t => !P.stoodInHeld t && !P.eqGuardType P.depth t, ext := fun _ => none }

theorem lkOf_ok {P : Program} (hm : P.follows .mixedOrders = true) (hf : P.funcs.toList.all fitFn = true) : LOk (lkOf P (Tr.ofList P.funcs.toList) (Tr.ofList P.types.toList)) P where
  info t i h := by
    have h : (Tr.ofList P.types.toList).get t = some i := h
    rw [Tr.get_ofList] at h
    have h2 : P.types[t]? = some i := by simpa using h
    unfold Tables.info?
    rw [if_pos (Array.getElem?_eq_some_iff.1 h2).1]
    exact h2
  plainEq t h := by
    have h : (!P.stoodInHeld t && !P.eqGuardType P.depth t) = true := h
    simpa using h
  func f fn h := by
    have h : (Tr.ofList P.funcs.toList).get f = some fn := h
    rw [Tr.get_ofList] at h
    have h2 := List.all_eq_true.1 hf fn (List.mem_of_getElem? h)
    unfold fitFn at h2
    rw [Bool.and_eq_true] at h2
    refine ⟨by simpa using h, by simpa using h2.1, fun c hc => ?_⟩
    have := h2.2
    rw [hc] at this
    exact this
  mixed := hm
theorem noExt {P : Program} (fs : Tr Func) (ts : Tr TypeInfo) (B : Nat) : ExtOk (lkOf P fs ts) P B := fun _ _ h => by cases h
end Go.Ev
