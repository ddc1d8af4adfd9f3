import Derived.Test.YtkihlgfcjhbgmaaGreatDoorRows
import Derived.LaidByTextLater
import Derived.SevenTiedAt
import Derived.LaidSub
import Derived.LaidOnce
import Derived.KernelRfl
set_option maxHeartbeats 8000000
set_option linter.unusedVariables false
namespace Go.Proofs.YtkihlgfcjhbgmaaGreatDoor
open Go
set_option maxRecDepth 100000
theorem tnn_0 {p : Nat → Bool} : ∀ j, j < 0 → p j = false := fun _ h => absurd h (Nat.not_lt_zero _)
theorem tnn_s {p : Nat → Bool} {a k : Nat} (h : ∀ j, j < a → p j = false) (hc : ((List.range' a k).all fun j => !p j) = true) : ∀ j, j < a + k → p j = false := fun t ht => by
  rcases Nat.lt_or_ge t a with h' | h'
  · exact h t h'
  · have := List.all_eq_true.1 hc t (List.mem_range'.2 ⟨t - a, by omega, by omega⟩)
    simpa using this
theorem ztz {p : Nat → Bool} : ∀ {n K : Nat}, K < n → (∀ j, j < K → p j = false) → p K = true → (∀ j, K < j → j < n → p j = false) → (List.range n).filter p = [K] := by
  intro n
  induction n with
  | zero => intro K h; omega
  | succ n ih =>
    intro K h h1 h2 h3
    rw [List.range_succ, List.filter_append]
    by_cases hK : K = n
    · subst hK
      rw [List.filter_eq_nil_iff.2 fun j hj => by rw [h1 j (List.mem_range.1 hj)]; decide, List.filter_cons_of_pos h2]
      rfl
    · rw [ih (by omega) h1 h2 fun j a b => h3 j a (by omega), List.filter_cons_of_neg (by rw [h3 n (by omega) (by omega)]; decide)]
      rfl
noncomputable def isV (i : Nat) : Bool := (Tryz.prog.funcs[i]?).any (·.name == "gosem.cut.vars")
theorem tv0 : ((List.range' 0 150).all fun j => !isV j) = true := by kernel_rfl
theorem tv1 : ((List.range' 150 150).all fun j => !isV j) = true := by kernel_rfl
theorem tv2 : ((List.range' 300 150).all fun j => !isV j) = true := by kernel_rfl
theorem tv3 : ((List.range' 450 150).all fun j => !isV j) = true := by kernel_rfl
theorem tv4 : ((List.range' 600 138).all fun j => !isV j) = true := by kernel_rfl
theorem tvK : isV 738 = true := by kernel_rfl
theorem tvR : ((List.range' 739 0).all fun j => !isV j) = true := by kernel_rfl
theorem tvS : Tryz.prog.funcs.size = 739 := by kernel_rfl
theorem tvars : Tryz.prog.funcNamed "gosem.cut.vars" = some 738 := by
  have h : (List.range Tryz.prog.funcs.size).filter (fun i => (Tryz.prog.funcs[i]?).any (·.name == "gosem.cut.vars")) = [738] := by
    rw [tvS]
    refine ztz (by decide) (tnn_s (a := 600) (k := 138) (tnn_s (a := 450) (k := 150) (tnn_s (a := 300) (k := 150) (tnn_s (a := 150) (k := 150) (tnn_s (a := 0) (k := 150) tnn_0 tv0) tv1) tv2) tv3) tv4) tvK fun j h1 h2 => ?_
    have := List.all_eq_true.1 tvR j (List.mem_range'.2 ⟨j - 739, by omega, by omega⟩)
    have h3 : isV j = false := by simpa using this
    exact h3
  unfold Program.funcNamed
  rw [h]
theorem tvId : varsId Tryz.prog = 738 := by unfold varsId; rw [tvars]; rfl
end Go.Proofs.YtkihlgfcjhbgmaaGreatDoor
