import Derived.Test.YtnkomaedmblemaaCtA
import Derived.Test.YtnkomaedmblemaaExl
set_option linter.unusedSimpArgs false
set_option linter.unusedVariables false
set_option maxRecDepth 100000
namespace Go.Proofs.Ytnkomaedmblemaa
open Go.Ev Exl
end Go.Proofs.Ytnkomaedmblemaa

set_option linter.unusedSimpArgs false
set_option linter.unusedVariables false
set_option maxRecDepth 100000
namespace Go.Proofs.Ytnkomaedmblemaa
open Go.Ev Exl
theorem Ap.stN {H : AH} {s : AV} {n e z N k : Nat} {l : List AV} {v : AV} (h : Ap H s n l e z N) (hk : k < n) (hh : H.hide = []) (hlo : H.lo ≤ N) (hv : v.cells.length = z) (h1 : v.cells.all AV.oneCell = true) :
    ∃ H' l', Go.Ev.stN z (elA z s k) v H = some H' ∧ Ap H' s n l' e z N ∧ HP (blkNe s) H H' ∧ H'.next = H.next := by
  obtain ⟨h0, ⟨rfl, rfl⟩ | ⟨i, rfl, hr, hN, hi⟩⟩ := h
  · omega
  · have hle : (k + 1) * z ≤ n * z := Nat.mul_le_mul_right z hk
    rw [Nat.add_mul] at hle
    obtain ⟨H', h1, h2, h3, h4⟩ := hr.stN (L := look) (t := 0) (v := v) (k := k * z) (s := z) hh (by omega) hv (one_of_l (by rw [toC_l]; exact h1)) (by omega)
    refine ⟨H', _, ?_, ⟨?_, .inr ⟨i, rfl, h2, hN, by omega⟩⟩, h3.mono fun j hj hb => fun h => hb 0 n n true (by rw [h]), h4⟩
    · show Go.Ev.stN z (.ptr i (0 + k * z)) v H = _
      rw [Nat.zero_add]; exact h1
    · simp only [List.length_append, List.length_take, List.length_drop, hv]; omega

end Go.Proofs.Ytnkomaedmblemaa

set_option linter.unusedSimpArgs false
set_option linter.unusedVariables false
set_option maxRecDepth 100000
namespace Go.Proofs.Ytnkomaedmblemaa
open Go.Ev Exl

theorem Ap.blk {H : AH} {s : AV} {n e z N : Nat} {l : List AV} (h : Ap H s n l e z N) {j : Nat} (hj : j < N) : blkNe s j := by
  obtain ⟨_, ⟨rfl, _⟩ | ⟨i, rfl, _, hN, _⟩⟩ := h
  · exact blkNe_nil _
  · exact blkNe_sl (by omega)
end Go.Proofs.Ytnkomaedmblemaa
