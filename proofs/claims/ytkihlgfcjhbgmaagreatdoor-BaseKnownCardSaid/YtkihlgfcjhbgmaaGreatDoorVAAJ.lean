import Derived.RowKit
import GoSem.ClaimGoes
set_option maxHeartbeats 8000000
set_option linter.unusedSimpArgs false
set_option linter.unusedVariables false
namespace Go.Ev
noncomputable def bitOn (m f : Nat) : Bool := Nat.beq (Nat.land (Nat.shiftRight m f) 1) 1
noncomputable def zse1 (m f : Nat) : Nat := Nat.lor m (Nat.shiftLeft 1 f)
theorem zqk1 (m f : Nat) : bitOn m f = m.testBit f := by
  unfold bitOn
  rw [Nat.testBit_eq_decide_div_mod_eq]
  have h : Nat.land (Nat.shiftRight m f) 1 = m / 2 ^ f % 2 := by
    show (m >>> f) &&& 1 = _
    rw [Nat.and_one_is_mod, Nat.shiftRight_eq_div_pow]
  rw [h]
  cases hb : Nat.beq (m / 2 ^ f % 2) 1 with
  | true => exact (decide_eq_true (Nat.eq_of_beq_eq_true hb)).symm
  | false =>
    refine (decide_eq_false fun e => ?_).symm
    rw [e] at hb; cases hb
theorem zte1 (m f g : Nat) : (zse1 m f).testBit g = (m.testBit g || decide (f = g)) := by
  unfold zse1
  show (m ||| (1 <<< f)).testBit g = _
  rw [Nat.testBit_or, Nat.shiftLeft_eq, Nat.one_mul, Nat.testBit_two_pow]
noncomputable def zrk1 {β : Type} (f : Nat → β) (n : Nat) : β := Nat.rec (motive := fun _ => β) (f 0) (fun p _ => f (Nat.succ p)) n
noncomputable def clJ (t : Nat → List Nat) (n : Nat) : List Nat → List Nat → Nat → List Nat :=
  Nat.rec (motive := fun _ => List Nat → List Nat → Nat → List Nat) (fun _ seen _ => seen.reverse)
    (fun _ ih todo seen m => List.rec (motive := fun _ => List Nat) seen.reverse
      (fun f todo _ => Bool.rec (motive := fun _ => List Nat) (zrk1 (fun m' => ih (t f ++ todo) (f :: seen) m') (zse1 m f)) (ih todo seen m) (bitOn m f)) todo) n
theorem zue1 {β : Type} (k : Nat → β) (n : Nat) : zrk1 k n = k n := by cases n <;> rfl
theorem zjn (P : Program) : ∀ (n : Nat) (todo seen : List Nat) (m : Nat), (∀ f, m.testBit f = seen.contains f) →
    P.closureVia n todo seen = clJ (fun f => (P.funcs[f]?).elim [] P.leadsTo) n todo seen m := by
  intro n
  induction n with
  | zero => intro todo seen m h; unfold Program.closureVia; rfl
  | succ n ih =>
    intro todo seen m h
    cases todo with
    | nil => unfold Program.closureVia; rfl
    | cons f todo =>
      have hb : bitOn m f = seen.contains f := (zqk1 m f).trans (h f)
      show _ = Bool.rec (motive := fun _ => List Nat) (zrk1 (fun m' => clJ (fun f => (P.funcs[f]?).elim [] P.leadsTo) n ((P.funcs[f]?).elim [] P.leadsTo ++ todo) (f :: seen) m') (zse1 m f)) (clJ (fun f => (P.funcs[f]?).elim [] P.leadsTo) n todo seen m) (bitOn m f)
      unfold Program.closureVia
      rw [hb]
      cases hc : seen.contains f with
      | true => simp only [if_true]; exact ih todo seen m h
      | false =>
        simp only [Bool.false_eq_true, if_false]
        rw [zue1]
        refine ih _ _ _ fun g => ?_
        rw [zte1, h g, List.contains_cons]
        by_cases hg : f = g
        · subst hg; simp
        · have : (g == f) = false := by rw [beq_eq_false_iff_ne]; exact fun e => hg e.symm
          rw [this, decide_eq_false hg]; simp
theorem closure_fast (P : Program) (f : FuncId) : P.closure f = clJ (fun f => (P.funcs[f]?).elim [] P.leadsTo) (1 + (P.funcs.toList.map fun g => (P.leadsTo g).length + 1).sum) [f] [] 0 := by
  unfold Program.closure
  exact zjn P _ _ _ _ fun g => by rw [Nat.zero_testBit]; rfl
theorem zlt {P : Program} (h : P.funcs.any Func.goes = false) (f : FuncId) : P.goes f = false := by
  unfold Program.goes
  rw [h, Bool.and_false, Bool.or_false]
  rw [List.any_eq_false]
  intro g _
  cases hg : P.funcs[g]? with
  | none => simp
  | some fn =>
    have hm : fn ∈ P.funcs := Array.mem_of_getElem? hg
    have := Array.any_eq_false.1 h
    obtain ⟨i, hi, he⟩ := Array.mem_iff_getElem.1 hm
    have h2 := this i hi
    rw [he] at h2
    simpa using h2
theorem zmv {P : Program} (h : P.funcs.any Func.goes = false) (s : Start) (n : String) : P.goesAt s n = false := by
  unfold Program.goesAt Program.goesFrom
  have h1 : (P.funcNamed n).any P.goes = false := by
    cases P.funcNamed n with
    | none => rfl
    | some f => exact zlt h f
  rw [h1, Bool.false_or]
  have h2 : P.inits.toList.any P.goes = false := by
    rw [List.any_eq_false]
    intro g _
    rw [zlt h]; decide
  split
  · rfl
  · exact h2
theorem goesBy_none {P : Program} (h : P.funcs.any Func.goes = false) (c : OpenClaim) : false = c.goesBy P := (zmv h c.start c.func).symm
theorem recurses_un {P : Program} {f : FuncId} (h : P.unfollowed f = true) : P.recurses f = true := by
  unfold Program.recurses
  rw [h]; rfl
end Go.Ev
