import Derived.Test.YtkihlgfcjhbgmaaGreatDoorVGAA
set_option maxHeartbeats 8000000
set_option linter.unusedSimpArgs false
set_option linter.unusedVariables false
open Go Go.Ev Go.Proofs Go.RowKit
namespace HS
set_option maxRecDepth 1000000
open Go.Ev
open Ra Rb Rc Rd Re Rf Rg Rh Ri Rj Rk Rl Rm Rn Ro Rp Rq Rr
noncomputable def getO : Option Out → Out | some o => o | none => ⟨.normal, .nil, H0⟩
theorem zyl {L : Lk} {c : C2} {T : Tr AV} {H : AH} {Q : PostC} (n : Nat) (h : ∀ k, evC' c L (evF L (k + n)) (kOf L (evF L (k + n)) []) T H = some (getO (evC' c L (evF L n) (kOf L (evF L n) []) T H)))
    (hq : Q (getO (evC' c L (evF L n) (kOf L (evF L n) []) T H)).ex (getO (evC' c L (evF L n) (kOf L (evF L n) []) T H)).T (getO (evC' c L (evF L n) (kOf L (evF L n) []) T H)).H) : RC L c [] T H Q :=
  ⟨_, hq, n, fun m hm => by obtain ⟨k, rfl⟩ : ∃ k, m = k + n := ⟨m - n, by omega⟩; exact h k⟩
noncomputable def awH (x : EvA) (B : Nat → ABlk) : AH := (getO (evF lookN 10000 (.call 22 [] (g2 x B)))).H
theorem zaf1 (x : EvA) (B : Nat → ABlk) (k : Nat) : evF lookN (k + 10000) (.call 22 [] (g2 x B)) = some (out1 (.bool true) (awH x B)) := by kernel_rfl
theorem zjg (x : EvA) (B : Nat → ABlk) : FnE lookN 22 [] (g2 x B) fun r H' => r = .bool true :=
  ⟨.bool true, awH x B, rfl, 10000, fun m hm => by obtain ⟨k, rfl⟩ : ∃ k, m = k + 10000 := ⟨m - 10000, by omega⟩; exact zaf1 x B k⟩
end HS
