import Derived.Test.YtnkomaedmblemaaEvRun4
set_option linter.unusedSimpArgs false
set_option linter.unusedVariables false
namespace Go.Ev

structure LOk (L : Lk) (P : Program) : Prop extends LOk0 L P where
  func : ∀ f fn, L.func f = some fn → P.funcs[f]? = some fn ∧ (fn.name == "runtime.NumGoroutine") = false ∧ ∀ c, fn.body = some c → wfC fn.ntmps c = true
  mixed : P.follows .mixedOrders = true
def ExtOk (L : Lk) (P : Program) (B : Nat) : Prop := ∀ f g, L.ext f = some g → ∀ args H p, g args H = some p → ∀ E w us, H.Wf → St B E H w → StL E H.next args us → CallOk P B E H w f us p.1 p.2

section
variable {L : Lk} {P : Program} {B : Nat} {rec : Rec} {F : Fence}

theorem run_callFunc (hL : LOk L P) {f : FuncId} {fn : Func} {c : Code} (hf : L.func f = some fn) (hb : fn.body = some c) (us : Array Value) (w : World) : (callFunc f us).run P w = .ok (.enter f us) w := by
  obtain ⟨h1, h2, _⟩ := hL.func f fn hf
  unfold callFunc
  simp only [Sem.run_bind, program, Sem.run, Result.andThen_ok, h1, h2, hb, Option.isNone_some, Bool.false_eq_true, if_false]
  rfl

/-- A block that no abstract one stands for may turn. -/
theorem St.other {E : Env} {H : AH} {w : World} (h : St B E H w) {r : Nat} {x y : Option (List Deferred)} (hr : w.heap[r]? = some (.deferred x)) : St B E H (w.putObj r (.deferred y)) := by
  intro E' hE
  have k := h E' hE
  refine ⟨fun i b hg => (k.blk i b hg).congr fun hl => World.putObj_heap_other fun he => ?_, k.inj, k.base, by rw [World.putObj_size]; exact k.size⟩
  have hb := k.blk i b hg
  cases b with
  | cells vs e z op ro => obtain ⟨cs, e, fz, h1, _⟩ := hb; rw [he, hr] at h1; cases h1
  | map es c => simp only [BRel] at hb; rw [he, hr] at hb; cases hb
  | loop st p T n ps a b => obtain ⟨r', h1, _⟩ := hb; rw [he, hr] at h1; cases h1
  | siter s p => simp only [BRel] at hb; rw [he, hr] at hb; cases hb
  | defd => cases hl
theorem Post.other {E E1 : Env} {H H1 : AH} {w w1 : World} (h : Post E H w E1 H1 w1) {r : Nat} {x y : Option (List Deferred)} (hr : w.heap.size ≤ r) (hx : w1.heap[r]? = some (.deferred x)) : Post E H w E1 H1 (w1.putObj r (.deferred y)) := by
  refine ⟨h.ext, h.next, h.lo, h.hide, h.tape, h.os, h.output, by rw [World.putObj_size]; exact h.size, fun c hc hn => ?_, h.own, h.keep, fun c l hc => ?_, fun hf => ⟨(h.froz hf).1, fun a => (setBlk_froz (fun z off hz => by rw [hx] at hz; cases hz; rfl) a).trans ((h.froz hf).2 a)⟩⟩
  · rw [World.putObj_heap_other (by omega)]; exact h.frame c hc hn
  · have hlt := (Array.getElem?_eq_some_iff.1 hc).1
    rw [World.putObj_heap_other (by omega)]; exact h.loops c l hc

theorem leaves_marks (hL : LOk0 L P) {fn : Func} {T : Tr AV} {vs : List AV} {E : Env} {H : AH} {w : World} {E1 : Env} {H1 : AH} {tmps : Array Value} (hwf : H1.Wf)
    (hT : StT E1 H1.next T tmps) (hres : evResults L T H1 fn.results.toList = some vs) (rs : List Nat) :
    ∀ (w1 : World), rs.Nodup → (∀ r ∈ rs, w.heap.size ≤ r ∧ w1.heap[r]? = some (.deferred (some []))) → St B E1 H1 w1 → Post E H w E1 H1 w1 →
      LeavesInM Fence.wide 0 P fn tmps (fun e w1 => ∃ u, e = .returned u ∧ Done B E H w (tupOf vs) H1 u w1) (rs.map mark) .returning w1 := by
  induction rs with
  | nil =>
    intro w1 _ _ hS hp
    have hr : ∀ E', Agree H1.next E1 E' → (results fn tmps).run P w1 = .ok (conc E' (tupOf vs)) w1 := fun E' hE => by
      exact evResults_ok hL (hS E' hE) (hT E' hE) hres
    refine ⟨conc E1 (tupOf vs), hr E1 (Agree.refl _ _), conc E1 (tupOf vs), rfl, E1, fun E' hE => ?_, hS, hp, hwf⟩
    have h1 := hr E1 (Agree.refl _ _)
    rw [hr E' hE] at h1
    exact (Result.ok.inj h1).1.symm
  | cons r rs ih =>
    intro w1 hnd hrs hS hp
    obtain ⟨h1, h2⟩ := hrs r (by simp)
    rw [List.nodup_cons] at hnd
    refine ⟨(fun h => by cases h), .inl ⟨r, w1.putObj r (.deferred none), rfl, run_takeDeferred h2, ?_⟩⟩
    refine ih _ hnd.2 (fun r' hr' => ?_) (hS.other h2) (hp.other h1 h2)
    obtain ⟨h3, h4⟩ := hrs r' (by simp [hr'])
    refine ⟨h3, ?_⟩
    rw [World.putObj_heap_other (fun e => hnd.1 (by rw [← e]; exact hr'))]
    exact h4

theorem call_ok (hL : LOk L P) {m : Nat} (hr : CodeRec P B m rec) {f : FuncId} {fn : Func} {c : Code} {args : List AV} {H : AH} {o : Out} {vs : List AV} (hf : L.func f = some fn) (hb : fn.body = some c)
    (hlen : args.length ≤ fn.ntmps) (hc : evCode L rec c (setArgs args 0 .nil) H = some o) (hex : o.ex = .ret ∨ o.ex = .normal) (hres : evResults L o.T o.H fn.results.toList = some vs) {E : Env} {w : World} {us : List Value} (hw : H.Wf) (hS : St B E H w) (hus : StL E H.next args us) : CallOk P B E H w f us (tupOf vs) o.H := by
  unfold CallOk
  rw [run_callFunc hL hf hb]
  obtain ⟨h1, h2, h3⟩ := hL.func f fn hf
  have hul : us.length = args.length := by rw [hus E (Agree.refl _ _), concL_length]
  refine callsIn_of_wp_marks h1 hb trivial ?_ rfl
  refine evCode_ok hL.toLOk0 hL.mixed hr fn.ntmps c Fence.wide open_wide _ H o hc (h3 c hb) w.heap.size E w _ ⟨hw, hS, StT.args hus _, DefOk.nil _ _ _ _, Nat.le_refl _, fun l hl => by cases hl⟩ ?_ _ ?_
  · simp; omega
  · intro e a1 w1 ⟨⟨E1, k1, k2, k3, k4⟩, k5, k6, k7⟩
    obtain ⟨rs, e1, e2, e3⟩ := k4
    have fin : LeavesInM Fence.wide 0 P fn a1.tmps (fun e w1 => ∃ u, e = .returned u ∧ Done B E H w (tupOf vs) o.H u w1) a1.defers .returning w1 := by
      rw [e1]
      exact leaves_marks hL.toLOk0 k5 k2 hres rs w1 e2 (fun r hr => ⟨(e3 r hr).1, (e3 r hr).2.2.1⟩) k1 k3
    rcases hex with hex | hex <;> rw [hex] at k6 <;> cases k6 <;> exact fin
end
end Go.Ev
