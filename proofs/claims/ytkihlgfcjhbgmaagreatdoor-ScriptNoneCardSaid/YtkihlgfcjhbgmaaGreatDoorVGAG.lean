import Derived.Test.YtkihlgfcjhbgmaaGreatDoorVGAC
import Derived.Test.YtkihlgfcjhbgmaaGreatDoorVGAD
import Derived.Test.YtkihlgfcjhbgmaaGreatDoorVGAE
import Derived.Test.YtkihlgfcjhbgmaaGreatDoorVGAF
import Derived.WalkKit
import Derived.ProofKit
import Derived.OpenShut
import Derived.ShutString
import Derived.ChangeOld
import Derived.Below
import Derived.Deep.Slices
import Derived.Deep.Strs
import Derived.Deep.Fields
set_option maxHeartbeats 8000000
set_option linter.unusedSimpArgs false
set_option linter.unusedVariables false
open Go Go.Ev Go.Proofs Go.RowKit
namespace HS
set_option maxRecDepth 100000
open Go.Ev
open Ra Rb Rc Rd Re Rf Rg Rh Ri Rj Rk Rl Rm Rn Ro Rp Rq Rr
theorem zmn (x : EvA) (B : Nat → ABlk) (nK nR : Nat) (hK : IsSl (h5 B) x.vK nK) (hR : IsSl (h5 B) x.vR nR) :
    FnE lookN 6 [.agg (evL x)] (h5 B) fun r H' => r = .bool true := by
  obtain ⟨kd, dv, at_, n_, ms, vK, vR⟩ := x
  have hk : vK = .nilSl ∨ ∃ i o l c p, vK = .sl i o l c p := by
    rcases hK with ⟨h, _⟩ | ⟨i, o, c, p, h, _⟩
    · exact .inl h
    · exact .inr ⟨_, _, _, _, _, h⟩
  have hr : vR = .nilSl ∨ ∃ i o l c p, vR = .sl i o l c p := by
    rcases hR with ⟨h, _⟩ | ⟨i, o, c, p, h, _⟩
    · exact .inl h
    · exact .inr ⟨_, _, _, _, _, h⟩
  rcases hk with rfl | ⟨i, o, l, c, p, rfl⟩ <;> rcases hr with rfl | ⟨i', o', l', c', p', rfl⟩
  · exact law_nn _ _ _ _ _ B nK nR hK hR
  · exact law_ns _ _ _ _ _ _ _ _ _ _ B nK nR hK hR
  · exact law_sn _ _ _ _ _ _ _ _ _ _ B nK nR hK hR
  · exact law_ss _ _ _ _ _ _ _ _ _ _ _ _ _ _ _ B nK nR hK hR
section
variable {P : Program} {w : World} {base t : Nat} {v : Value}
theorem zvc {k : IntKind} (hu : P.underlying t = some (.int k)) (h : Cell.okWide P w .any base t v) : ∃ n, v = .int k n := by
  unfold Cell.okWide at h
  rw [hu] at h
  have h : Cell.ok P w .any base t v := by cases v <;> exact h
  unfold Cell.ok at h
  rw [hu] at h
  cases v <;> first | exact h.elim | (obtain ⟨rfl, _⟩ := h; exact ⟨_, rfl⟩)
theorem zsr (hu : P.underlying t = some .string) (h : Cell.okWide P w .any base t v) : ∃ s, v = .string s := by
  unfold Cell.okWide at h
  rw [hu] at h
  have h : Cell.ok P w .any base t v := by cases v <;> exact h
  unfold Cell.ok at h
  rw [hu] at h
  cases v <;> first | exact h.elim | exact ⟨_, rfl⟩
theorem zsh {e : Nat} (hu : P.underlying t = some (.slice e)) (h : Cell.okWide P w .any base t v) :
    v = .slice none 0 0 ∨ ∃ x len cap, v = .slice (some x) len cap ∧ len ≤ cap ∧ (cap : Int) ≤ IntKind.i64.max ∧ x.spot = none ∧ ∃ cs e fz, w.heap[x.block]? = some (.cells cs e fz) := by
  have h0 := h
  unfold Cell.okWide at h
  rw [hu] at h
  have h : Cell.ok P w .any base t v := by cases v <;> exact h
  unfold Cell.ok at h
  rw [hu] at h
  cases v with
  | slice a len cap =>
    cases a with
    | none =>
      left
      cases len with
      | zero => cases cap with | zero => rfl | succ c => exact h.elim
      | succ n => exact h.elim
    | some x =>
      right
      have hb := zxs (P := P) (w := w) (base := base) (t := t) (e := e) (x := x) (len := len) (cap := cap) hu (by unfold Value.okWide; rw [hu]; exact h0)
      exact ⟨x, len, cap, rfl, h.1, h.2.1, hb.1, hb.2⟩
  | _ => exact h.elim
end
theorem zvp (k : Nat) {w : World} {a : Option Addr} {len cap e z : Nat} (hrow : (a = none ∧ len = 0 ∧ cap = 0) ∨ ∃ x, a = some x ∧ (x.spot = none ∧ ∃ cs e fz, w.heap[x.block]? = some (.cells cs e fz))) :
    ∃ (b : ABlk × EB) (v : AV), Arg w k (.slice a len cap) (fun H v => IsSl H v len) b v := by
  rcases hrow with ⟨rfl, rfl, rfl⟩ | ⟨x, rfl, hsp, hblk⟩
  · exact ⟨_, _, zyx w k fun H => .inl ⟨rfl, rfl⟩⟩
  · refine ⟨_, _, zzx k (e := e) (z := z) (l := []) hsp hblk (fun E j v hj => by simp at hj) (fun H hk hr => ?_)⟩
    obtain ⟨c, hg, _⟩ := hr
    exact .inr ⟨k, 0, cap, false, rfl, hk, c, _, _, _, _, hg, Nat.zero_le _⟩
theorem zyg {P : Program} {w : World} {base t e : Nat} {v : Value} (k : Nat) (hu : P.underlying t = some (.slice e)) (h : Cell.okWide P w .any base t v) :
    ∃ (a : Option Addr) (len cap : Nat) (b : ABlk × EB) (u : AV), v = .slice a len cap ∧ Arg w k (.slice a len cap) (fun H v => IsSl H v len) b u := by
  rcases zsh hu h with rfl | ⟨x, len, cap, rfl, _, _, hsp, hb⟩
  · obtain ⟨b, u, h2⟩ := zvp k (w := w) (a := none) (len := 0) (cap := 0) (e := e) (z := 1) (.inl ⟨rfl, rfl, rfl⟩)
    exact ⟨_, _, _, b, u, rfl, h2⟩
  · obtain ⟨b, u, h2⟩ := zvp k (w := w) (a := some x) (len := len) (cap := cap) (e := e) (z := 1) (.inr ⟨x, rfl, hsp, hb⟩)
    exact ⟨_, _, _, b, u, rfl, h2⟩
end HS
