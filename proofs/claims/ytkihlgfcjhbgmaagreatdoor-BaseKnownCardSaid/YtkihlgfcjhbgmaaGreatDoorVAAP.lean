import Derived.Test.YtkihlgfcjhbgmaaGreatDoorRows
import Derived.JoinedOf
import Derived.KernelRfl
import Derived.ProofKit
import Derived.SevenTiedAt
import Derived.Stop.Joined
set_option maxHeartbeats 8000000
namespace Go.Proofs.YtkihlgfcjhbgmaaGreatDoor
open Go
namespace LaidX
set_option maxRecDepth 100000
theorem laid_of {P : Program} {n : Nat} (hs : P.types.size = n) (h1 : ∀ t, t < n → rowFine P t = true) (h2 : (P.globals.toList.all fun g => decide (g.type < n)) = true) (h3 : (P.funcs.toList.all fun f => f.params.toList.all fun t => decide (t < n)) = true) : laidOutB P = true := by
  unfold laidOutB
  rw [hs, Bool.and_eq_true, Bool.and_eq_true]
  refine ⟨⟨List.all_eq_true.2 fun t ht => h1 t (List.mem_range.1 ht), by rw [← Array.all_toList]; exact h2⟩, ?_⟩
  rw [← Array.all_toList]
  simpa only [Array.all_toList] using h3
theorem rows_0 {P : Program} : ∀ t, t < 0 → rowFine P t = true := fun _ h => absurd h (Nat.not_lt_zero _)
theorem rows_s {P : Program} {a k : Nat} (h : ∀ t, t < a → rowFine P t = true) (hc : (List.range' a k).all (rowFine P) = true) : ∀ t, t < a + k → rowFine P t = true := fun t ht => by
  rcases Nat.lt_or_ge t a with h' | h'
  · exact h t h'
  · exact List.all_eq_true.1 hc t (List.mem_range'.2 ⟨t - a, by omega, by omega⟩)
theorem lo0 : (List.range' 0 100).all (rowFine Tryz.prog) = true := by kernel_rfl
theorem lo1 : (List.range' 100 100).all (rowFine Tryz.prog) = true := by kernel_rfl
theorem lo2 : (List.range' 200 100).all (rowFine Tryz.prog) = true := by kernel_rfl
theorem lo3 : (List.range' 300 100).all (rowFine Tryz.prog) = true := by kernel_rfl
theorem lo4 : (List.range' 400 100).all (rowFine Tryz.prog) = true := by kernel_rfl
theorem lo5 : (List.range' 500 100).all (rowFine Tryz.prog) = true := by kernel_rfl
theorem lo6 : (List.range' 600 100).all (rowFine Tryz.prog) = true := by kernel_rfl
theorem lo7 : (List.range' 700 75).all (rowFine Tryz.prog) = true := by kernel_rfl
theorem laidOut : laidOutB Tryz.prog = true := laid_of (n := 775) (by kernel_rfl) (rows_s (a := 700) (k := 75) (rows_s (a := 600) (k := 100) (rows_s (a := 500) (k := 100) (rows_s (a := 400) (k := 100) (rows_s (a := 300) (k := 100) (rows_s (a := 200) (k := 100) (rows_s (a := 100) (k := 100) (rows_s (a := 0) (k := 100) rows_0 lo0) lo1) lo2) lo3) lo4) lo5) lo6) lo7) (by kernel_rfl) (by kernel_rfl)
end LaidX
end Go.Proofs.YtkihlgfcjhbgmaaGreatDoor
