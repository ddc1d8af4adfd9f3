/-
  PROVED HERE: the function ModelNone of package caulkerlaw30, called with any order, answers true and leaves the order as it was.
-/
import Derived.Test.YtmbnmfclpbdimaaGreatMkD
import Derived.WalkKit
import Derived.ProofKit
import Derived.OpenShut
import Derived.ShutString
import Derived.ChangeOld
import Derived.Below
import Derived.Deep.Slices
import Derived.Deep.Strs
import Derived.Deep.Fields

set_option linter.unusedSimpArgs false
set_option linter.unusedVariables false
namespace Go.Proofs.YtmbnmfclpbdimaaGreat
open Go.ChangeShapes Go.WideShapes Go.ChangeAt Go.RowKit
open Go.Ev M1 Go.Deep
open Go.ChangeMaps (open_string shut_string)

/-! ### A struct of seven fields of one cell, opened -/
section
variable {H : Type} {enc : TypeId × Value → H} {P : Program} {w : World} {base : Nat} {spare : Nat → Bool} {held : Bool}
theorem array7 {α : Type} {cs : Array α} (h : cs.size = 7) : ∃ c0 c1 c2 c3 c4 c5 c6, cs = #[c0, c1, c2, c3, c4, c5, c6] := by
  obtain ⟨l⟩ := cs
  match l, h with
  | [c0, c1, c2, c3, c4, c5, c6], _ => exact ⟨c0, c1, c2, c3, c4, c5, c6, rfl⟩
theorem open_agg7 {b0 : Nat} {t : TypeId} {f0 f1 f2 f3 f4 f5 f6 : Field} {v : Value} {d : DataW H} {p : List MemPlace} (hs : P.underlying t = some (.struct #[f0, f1, f2, f3, f4, f5, f6])) (hone : oneCellFields P #[f0, f1, f2, f3, f4, f5, f6] = true) (hC : P.cellsOf t = 7)
    (hct : P.cellTypes P.depth t = some [f0.type, f1.type, f2.type, f3.type, f4.type, f5.type, f6.type])
    (hv : Value.okWide P w .any b0 t v) (h : DataW.Trod enc P w base spare held t v d p) :
    ∃ (v0 v1 v2 v3 v4 v5 v6 : Value) (y0 y1 y2 y3 y4 y5 y6 : DataW H × List MemPlace) (n : Nat), v = .agg #[v0, v1, v2, v3, v4, v5, v6] ∧
      DataW.trod enc P w base spare held n f0.type [v0] = some y0 ∧ DataW.trod enc P w base spare held n f1.type [v1] = some y1 ∧ DataW.trod enc P w base spare held n f2.type [v2] = some y2 ∧ DataW.trod enc P w base spare held n f3.type [v3] = some y3 ∧
      DataW.trod enc P w base spare held n f4.type [v4] = some y4 ∧ DataW.trod enc P w base spare held n f5.type [v5] = some y5 ∧ DataW.trod enc P w base spare held n f6.type [v6] = some y6 ∧
      Cell.okWide P w .any b0 f5.type v5 ∧ Cell.okWide P w .any b0 f6.type v6 := by
  have hv' := hv
  simp only [Value.okWide, hs] at hv'
  obtain ⟨cs', rfl, hsz, ts, hts, _, hrow⟩ := hv'
  rw [hct] at hts
  cases hts
  obtain ⟨c0, c1, c2, c3, c4, c5, c6, rfl⟩ := array7 (hsz.trans hC)
  obtain ⟨fuel, hf⟩ := h
  obtain ⟨xs, n, _, _, hl, hlen, hg⟩ := DataW.trod_struct hs hf
  match xs, hlen with
  | [y0, y1, y2, y3, y4, y5, y6], _ =>
    obtain ⟨o0, k0⟩ := hone_of hone 0 f0 rfl
    obtain ⟨o1, k1⟩ := hone_of hone 1 f1 rfl
    obtain ⟨o2, k2⟩ := hone_of hone 2 f2 rfl
    obtain ⟨o3, k3⟩ := hone_of hone 3 f3 rfl
    obtain ⟨o4, k4⟩ := hone_of hone 4 f4 rfl
    obtain ⟨o5, k5⟩ := hone_of hone 5 f5 rfl
    obtain ⟨o6, k6⟩ := hone_of hone 6 f6 rfl
    have h0 := hg 0 f0 rfl
    have h1 := hg 1 f1 rfl
    have h2 := hg 2 f2 rfl
    have h3 := hg 3 f3 rfl
    have h4 := hg 4 f4 rfl
    have h5 := hg 5 f5 rfl
    have h6 := hg 6 f6 rfl
    obtain ⟨u5, q5, r5⟩ := hrow 5 c5 rfl
    obtain ⟨u6, q6, r6⟩ := hrow 6 c6 rfl
    cases q5
    cases q6
    exact ⟨c0, c1, c2, c3, c4, c5, c6, y0, y1, y2, y3, y4, y5, y6, n, rfl, by simpa [Value.cells, o0, k0] using h0, by simpa [Value.cells, o1, k1] using h1, by simpa [Value.cells, o2, k2] using h2, by simpa [Value.cells, o3, k3] using h3,
      by simpa [Value.cells, o4, k4] using h4, by simpa [Value.cells, o5, k5] using h5, by simpa [Value.cells, o6, k6] using h6, r5, r6⟩
end
/-- A slice of texts that came in. -/
theorem arg_strs (k : Nat) {w : World} {a : Option Addr} {len cap e : Nat} {Sx : Nat → ByteArray} (hrow : (a = none ∧ len = 0 ∧ cap = 0) ∨ ∃ x, a = some x ∧ len ≤ cap ∧ cap ≤ maxLen ∧ (∀ i, i < len → w.cell? (x.add i) = some (.string (Sx i))) ∧ (x.spot = none ∧ ∃ cs e fz, w.heap[x.block]? = some (.cells cs e fz))) :
    ∃ (ss : Nat → ByteArray) (b : ABlk × EB) (v : AV), len ≤ maxLen ∧ Arg w k (.slice a len cap) (fun H v => SlR H v len (fun k => .str (ss k))) b v := by
  rcases hrow with ⟨rfl, rfl, rfl⟩ | ⟨x, rfl, hlc, hm, hcell, hsp, hblk⟩
  · exact ⟨fun _ => ByteArray.empty, _, _, Nat.zero_le _, arg_nil w k fun H => ⟨.inl ⟨rfl, rfl⟩, fun k hk => by simp at hk⟩⟩
  · refine ⟨Sx, _, _, by omega, arg_row k (e := e) (z := 1) (l := (List.range len).map fun i => AV.str (Sx i)) hsp hblk (fun E j v hj => ?_) (fun H hk hr => ?_)⟩
    · by_cases hjl : j < len
      · rw [List.getElem?_map, List.getElem?_range hjl] at hj
        cases hj
        have := hcell j hjl
        rw [add_none hsp] at this
        exact this
      · rw [List.getElem?_eq_none (by simp; omega)] at hj; cases hj
    · exact hr.slR (o := 0) (n := len) (c := cap) (op' := false) hk (Nat.zero_le _) fun i hi => by
        rw [Nat.zero_add, List.getElem?_map, List.getElem?_range hi]; rfl
/-- A slice that came in, of which no cell is asked. -/
theorem arg_any (k : Nat) {w : World} {a : Option Addr} {len cap e z : Nat} (hrow : (a = none ∧ len = 0 ∧ cap = 0) ∨ ∃ x, a = some x ∧ (x.spot = none ∧ ∃ cs e fz, w.heap[x.block]? = some (.cells cs e fz))) :
    ∃ (b : ABlk × EB) (v : AV), Arg w k (.slice a len cap) (fun H v => IsSl H v len) b v := by
  rcases hrow with ⟨rfl, rfl, rfl⟩ | ⟨x, rfl, hsp, hblk⟩
  · exact ⟨_, _, arg_nil w k fun H => .inl ⟨rfl, rfl⟩⟩
  · refine ⟨_, _, arg_row k (e := e) (z := z) (l := []) hsp hblk (fun E j v hj => by simp at hj) (fun H hk hr => ?_)⟩
    obtain ⟨c, hg, _⟩ := hr
    exact .inr ⟨k, 0, cap, false, rfl, hk, c, _, _, _, _, hg, Nat.zero_le _⟩
theorem cell_block {P : Program} {w : World} {base : Nat} {t e : TypeId} {x : Addr} {len cap : Nat} (ht : P.underlying t = some (.slice e)) (h : Cell.okWide P w .any base t (.slice (some x) len cap)) :
    x.spot = none ∧ ∃ cs e fz, w.heap[x.block]? = some (.cells cs e fz) :=
  has_block (P := P) (base := base) (t := t) (e := e) (len := len) (cap := cap) ht (by unfold Value.okWide; rw [ht]; exact h)

namespace modelNone
theorem own : ownKnob Tryz.prog.godebug = none := by kernel_rfl
theorem laidOut : laidOutB Tryz.prog = true := by kernel_rfl
theorem hasB : (match look2.func 6 with | some fn => fn.body.isSome | none => false) = true := by kernel_rfl

set_option maxRecDepth 100000 in
theorem lifted (os : Os) (started : os.Started) (H : Type) (enc : TypeId × Value → H) :
    ReturnsInHanded {} Tryz.checked os 6 .any (Rows.modelNoneSpec.pre6 enc Tryz.prog Tryz.f6 Rows.modelNoneRow.domain false) (Rows.modelNoneSpec.post enc Tryz.prog Tryz.f6 false true false false) := by
  refine returnsInHanded_of_change (C := Tryz.checked) own started (by kernel_rfl) Tryz.func6
    (ChangeSpec.witness6 (enc := enc) (C := Tryz.checked) false ⟨#[], #[.agg #[.int .i64 0, .string ByteArray.empty, .string ByteArray.empty, .int .i64 0, .int .i64 0, .slice none 0 0, .slice none 0 0]], []⟩ 8 (by kernel_rfl) (by kernel_rfl) (by kernel_rfl) (by kernel_rfl)) ?_
  intro W base args ds gs before hval0 hW hcnd _
  have hval : ∀ (j : Nat) t v, Tryz.f6.params[j]? = some t → args[j]? = some v → Value.okWide Tryz.prog W .any base t v := hval0
  have hW' := hW
  obtain ⟨p, q, hA0, hV, rfl, hfz, hnd⟩ := hW
  have hA : DataW.TrodAll enc Tryz.prog W 0 (fun _ => true) true Tryz.f6.params.toList args.toList ds p := hA0
  rw [Tryz.params6] at hA hval
  obtain ⟨v0, vs0, d0, ds0, p0, q0, hargs, rfl, rfl, h0, r0⟩ := trodAll_cons hA
  obtain ⟨rfl, rfl, rfl⟩ := trodAll_nil r0
  obtain rfl : args = #[v0] := by cases args; simp_all
  obtain ⟨rfl, rfl⟩ := trodVars_none hV
  have k0 := h0
  have lt0 : ∀ x ∈ p0, x.block < W.heap.size := by obtain ⟨m, hm⟩ := k0; exact DataW.trod_lt m _ _ _ hm
  obtain ⟨c0, c1, c2, c3, c4, c5, c6, y0, y1, y2, y3, y4, y5, y6, n, rfl, t0, t1, t2, t3, t4, t5, t6, w5, w6⟩ := open_agg7 Tryz.underlying29 (by kernel_rfl) (by kernel_rfl) (by kernel_rfl) (hval 0 29 _ rfl rfl) h0
  obtain ⟨op, e0, _⟩ := DataW.trod_int Tryz.underlying3 t0
  obtain ⟨name, e1, _⟩ := DataW.trod_string Tryz.underlying9 t1
  obtain ⟨to, e2, _⟩ := DataW.trod_string Tryz.underlying9 t2
  obtain ⟨n3, e3, _⟩ := DataW.trod_int Tryz.underlying3 t3
  obtain ⟨n4, e4, _⟩ := DataW.trod_int Tryz.underlying3 t4
  simp only [List.cons.injEq, and_true] at e0 e1 e2 e3 e4
  subst e0 e1 e2 e3 e4
  obtain ⟨a5, l5, cp5, ss, b5, u5, e5, hm5, g5⟩ : ∃ (a : Option Addr) (len cap : Nat) (ss : Nat → ByteArray) (b : ABlk × EB) (v : AV), c5 = .slice a len cap ∧ len ≤ maxLen ∧ Arg W 0 (.slice a len cap) (fun H v => SlR H v len (fun k => .str (ss k))) b v := by
    rcases Go.Deep.open_strs Tryz.underlying26 Tryz.underlying9 (by kernel_rfl) t5 with ⟨hcs, _⟩ | ⟨x, l, c, m, Sx, hcs, _, hl, hm, hmm, _, hx⟩
    · simp only [List.cons.injEq, and_true] at hcs
      subst hcs
      obtain ⟨ss, b, v, h1, h2⟩ := arg_strs 0 (w := W) (a := none) (len := 0) (cap := 0) (e := 9) (Sx := fun _ => ByteArray.empty) (.inl ⟨rfl, rfl, rfl⟩)
      exact ⟨_, _, _, ss, b, v, rfl, h1, h2⟩
    · simp only [List.cons.injEq, and_true] at hcs
      subst hcs
      obtain ⟨ss, b, v, h1, h2⟩ := arg_strs 0 (w := W) (a := some x) (len := l) (cap := c) (e := 9) (Sx := Sx) (.inr ⟨x, rfl, hl, hm, fun i hi => (hx i (by rw [hmm]; simp; omega)).1, cell_block Tryz.underlying26 w5⟩)
      exact ⟨_, _, _, ss, b, v, rfl, h1, h2⟩
  obtain ⟨a6, l6, cp6, b6, u6, e6, g6⟩ : ∃ (a : Option Addr) (len cap : Nat) (b : ABlk × EB) (v : AV), c6 = .slice a len cap ∧ Arg W 1 (.slice a len cap) (fun H v => IsSl H v len) b v := by
    rcases Go.Deep.open_slice1 Tryz.underlying27 (by kernel_rfl) t6 with ⟨hcs, _⟩ | ⟨x, l, c, m, n, V, D, Pl, hcs, _, hl, hm, hmm, _, hx⟩
    · simp only [List.cons.injEq, and_true] at hcs
      subst hcs
      obtain ⟨b, v, h2⟩ := arg_any 1 (w := W) (a := none) (len := 0) (cap := 0) (e := 5) (z := 1) (.inl ⟨rfl, rfl, rfl⟩)
      exact ⟨_, _, _, b, v, rfl, h2⟩
    · simp only [List.cons.injEq, and_true] at hcs
      subst hcs
      obtain ⟨b, v, h2⟩ := arg_any 1 (w := W) (a := some x) (len := l) (cap := c) (e := 5) (z := 1) (.inr ⟨x, rfl, cell_block Tryz.underlying27 w6⟩)
      exact ⟨_, _, _, b, v, rfl, h2⟩
  subst e5 e6
  clear hA0 hval0
  obtain ⟨fn, hfn⟩ : ∃ fn, look2.func 6 = some fn := by
    have := hasB
    cases h : look2.func 6 with
    | none => rw [h] at this; cases this
    | some fn => exact ⟨fn, rfl⟩
  obtain ⟨cd, hcd⟩ : ∃ cd, fn.body = some cd := Option.isSome_iff_exists.1 (by have := hasB; rw [hfn] at this; exact this)
  have key := law_call (w := W) look2_ok (fun B => Go.Ev.extOkZ_of (tab2_ok B)) hfn hcd [b5, b6] (args := [.agg (ordL op n3 n4 name to u5 u6)]) (us := [.agg #[.int .i64 op, .string name, .string to, .int .i64 n3, .int .i64 n4, .slice a5 l5 cp5, .slice a6 l6 cp6]])
    (none_law op n3 n4 name to u5 u6 l5 l6 ss b5.1 b6.1 (g5.rd _ rfl) (g6.rd _ rfl) (by unfold maxLen at hm5; omega))
    (by intro b hb; simp only [List.mem_cons, List.not_mem_nil, or_false] at hb; rcases hb with rfl | rfl <;> first | exact g5.own | exact g6.own)
    (by
      intro k b hk E hE
      match k, hk with
      | 0, hk => (cases hk; exact g5.br E hE)
      | 1, hk => (cases hk; exact g6.br E hE)
      | k + 2, hk => (exact absurd hk (by simp)))
    (by
      intro E hE
      show [Value.agg #[.int .i64 op, .string name, .string to, .int .i64 n3, .int .i64 n4, conc E u5, conc E u6]] = _
      rw [g5.val E (hE 0 b5 rfl), g6.val E (hE 1 b6 rfl)])
  refine key.mono fun e W' ⟨he, bel⟩ => ?_
  subst he
  exact ⟨_, rfl, _, _, _, [], _, [], hW', trodAll_mk1 (shut_bool Tryz.underlying4 _), (trodAll_cons_mk (Below.trod laidOut (by kernel_rfl) (of_decide_eq_true (by kernel_rfl)) k0 bel lt0) trodAll_mk0), rfl, bel.frame _, fun h => by cases h⟩

theorem over : Rows.modelNoneRow.holds Tryz.pinned (OpenSpec.ofChange Rows.modelNoneSpec) :=
  OpenClaim.holds_of_wide 6 Tryz.f6 rfl rfl rfl rfl rfl rfl rfl ⟨rfl, rfl, rfl, rfl, rfl⟩ rfl rfl rfl rfl rfl (by kernel_rfl) Tryz.func6 (by kernel_rfl)
    (of_decide_eq_true (by kernel_rfl)) (by unfold Func.isWrapper; first | (rw [if_pos (by decide +kernel)]; kernel_rfl) | (rw [if_neg (by decide +kernel)]; exact ⟨rfl, rfl⟩))
    (fun os started H enc _ => lifted os started H enc)

theorem proved : Rows.ModelNoneSaid := over
#print axioms proved
end modelNone

end Go.Proofs.YtmbnmfclpbdimaaGreat
