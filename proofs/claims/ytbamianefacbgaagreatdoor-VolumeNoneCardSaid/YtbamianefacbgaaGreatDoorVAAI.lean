import Derived.Test.YtbamianefacbgaaGreatDoorVAAE
set_option maxHeartbeats 8000000
set_option linter.unusedSimpArgs false
set_option linter.unusedVariables false
namespace Go.Ev
open Go.RowKit
def ztl (G rt : Nat) : XFn := fun args H => match args with
  | [.ifc t _] => some (.ifc rt (.agg [.ext 2 G t]), H)
  | [.nilIfc] => some (.nilIfc, H)
  | _ => none
theorem zep {P : Program} {B : Nat} {f G rt : Nat} (hf : Bare P f Extern.ReflectliteType.typeOf) (hG : P.globals.size = G) (hr : ∃ n, P.cutTypes.find? (·.1 == "internal/reflectlite.rtype") = some (n, rt)) : XOk P B f (ztl G rt) := by
  intro args H p hp E w us hw hS hus
  obtain ⟨nm, hr⟩ := hr
  unfold ztl at hp
  split at hp
  · next t v =>
    cases hp
    have hu := hus E (Agree.refl _ _)
    subst hu
    unfold CallOk
    have : (callFunc f (concL E [.ifc t v]).toArray).run P w = .ok (.value (.iface rt (.agg #[.pointer (some ⟨G, t, none⟩)]))) w := by
      refine hf.run ?_
      show (Extern.ReflectliteType.typeOf #[Value.iface t (conc E v)]).run P w = _
      have hi : Extern.ReflectliteType.typeOf #[Value.iface t (conc E v)] = Extern.ReflectliteType.toType t := rfl
      rw [hi]
      unfold Extern.ReflectliteType.toType cutType Extern.Rtype.handle typeHandle
      simp only [Sem.run_bind, program, Sem.run, Result.andThen_ok, hr, Sem.run_pure, hG]
    rw [this]
    exact Done.same hw hS (fun _ _ => rfl)
  · cases hp
    have hu := hus E (Agree.refl _ _)
    subst hu
    unfold CallOk
    have : (callFunc f (concL E [.nilIfc]).toArray).run P w = .ok (.value .nilIface) w := hf.run rfl
    rw [this]
    exact Done.same hw hS (fun _ _ => rfl)
  · cases hp
def zzd (G : Nat) (tab : List (Nat × Bool)) : XFn := fun args H => match args with
  | [.agg [.ext 2 g t]] => (match Nat.beq g G, tab.lookup t with | true, some b => some (.bool b, H) | _, _ => none)
  | _ => none
def eComp : Array Value → Sem Value := Extern.ReflectliteType.method fun t => do Extern.Rtype.noPackHeld "Comparable" t; pure (Value.bool (← typeInfo t).comparable)
theorem zyy {l : List (Nat × Bool)} {t : Nat} {b : Bool} (h : l.lookup t = some b) : (t, b) ∈ l := by
  induction l with
  | nil => cases h
  | cons p l ih =>
    obtain ⟨k, c⟩ := p
    rw [List.lookup_cons] at h
    split at h
    · next hk => have := eq_of_beq hk; subst this; cases h; exact List.mem_cons_self
    · exact List.mem_cons_of_mem _ (ih h)
theorem zlh {P : Program} {B : Nat} {f G : Nat} {tab : List (Nat × Bool)} {e : Array Value → Sem Value} (hf : Bare P f e)
    (ht : ∀ p ∈ tab, ∀ w, (e #[.agg #[.pointer (some ⟨G, p.1, none⟩)]]).run P w = .ok (.bool p.2) w) : XOk P B f (zzd G tab) := by
  intro args H p hp E w us hw hS hus
  unfold zzd at hp
  split at hp
  · next g t =>
    split at hp
    · next b hg hb =>
      cases hp
      have hg := Nat.eq_of_beq_eq_true hg
      subst hg
      have hu := hus E (Agree.refl _ _)
      subst hu
      unfold CallOk
      have : (callFunc f (concL E [.agg [.ext 2 g t]]).toArray).run P w = .ok (.value (.bool b)) w := hf.run (ht (t, b) (zyy hb) w)
      rw [this]
      exact Done.same hw hS (fun _ _ => rfl)
    · cases hp
  · cases hp
theorem zgf1 {Q : Nat × Bool → Prop} : ∀ p ∈ ([] : List (Nat × Bool)), Q p := fun p h => by cases h
theorem zbn {P : Program} {e : Array Value → Sem Value} {G t : Nat} {b : Bool} {l : List (Nat × Bool)} (h : ∀ w, (e #[.agg #[.pointer (some ⟨G, t, none⟩)]]).run P w = .ok (.bool b) w)
    (hl : ∀ p ∈ l, ∀ w, (e #[.agg #[.pointer (some ⟨G, p.1, none⟩)]]).run P w = .ok (.bool p.2) w) : ∀ p ∈ (t, b) :: l, ∀ w, (e #[.agg #[.pointer (some ⟨G, p.1, none⟩)]]).run P w = .ok (.bool p.2) w := fun p hp => by
  rcases List.mem_cons.1 hp with rfl | hp
  · exact h
  · exact hl p hp
noncomputable def dLook (dl : List Nat) (f : Nat) : Bool := lrec (β := Bool) false (fun a _ ih => brec ih true (Nat.beq a f)) dl
noncomputable def lkD (P : Program) (fs : Tr Func) (ts : Tr TypeInfo) (tab : List (Nat × XFn)) (zl : List (Nat × Nat)) (dl : List Nat) : Lk :=
  { func := fun f => fs.get f, info := fun t => ts.get t, plainEq := fun t => !P.stoodInHeld t && !P.eqGuardType P.depth t, ext := fun f => xLook tab f, zt := fun t => zLook zl t, dfn := fun f => dLook dl f }
theorem lkD_ok {P : Program} {tab : List (Nat × XFn)} {zl : List (Nat × Nat)} {dl : List Nat} (hm : P.follows .mixedOrders = true) (hf : P.funcs.toList.all fitFn = true) (hz : zl.all (zFits P.types.toList) = true) : LOk (lkD P (Tr.ofList P.funcs.toList) (Tr.ofList P.types.toList) tab zl dl) P :=
  let h := zzb1 (tab := tab) hm hf hz
  ⟨⟨h.info, h.plainEq, h.zt⟩, h.func, h.mixed⟩
theorem zfj {P : Program} {fs : Tr Func} {ts : Tr TypeInfo} {tab : List (Nat × XFn)} {zl : List (Nat × Nat)} {dl : List Nat} {B : Nat} (h : ∀ p ∈ tab, XOk P B p.1 p.2) : ExtOk (lkD P fs ts tab zl dl) P B :=
  fun f g hg => h (f, g) (zas hg)
noncomputable def trOf (l : List (Nat × XFn)) : Tr XFn := lrec (β := Tr XFn) Tr.nil (fun p _ t => t.set p.1 p.2) l
noncomputable def uTr (l : List Nat) : Tr Unit := lrec (β := Tr Unit) Tr.nil (fun k _ t => t.set k ()) l
noncomputable def lkT (P : Program) (fs : Tr Func) (ts : Tr TypeInfo) (tab : Tr XFn) (zl : List (Nat × Nat)) (dt : Tr Unit) : Lk :=
  { func := fun f => fs.get f, info := fun t => ts.get t, plainEq := fun t => !P.stoodInHeld t && !P.eqGuardType P.depth t, ext := fun f => tab.get f, zt := fun t => zLook zl t, dfn := fun f => orec false (fun _ => true) (dt.get f) }
theorem lkT_ok {P : Program} {tab : Tr XFn} {zl : List (Nat × Nat)} {dt : Tr Unit} (hm : P.follows .mixedOrders = true) (hf : P.funcs.toList.all fitFn = true) (hz : zl.all (zFits P.types.toList) = true) : LOk (lkT P (Tr.ofList P.funcs.toList) (Tr.ofList P.types.toList) tab zl dt) P :=
  let h := zzb1 (tab := []) hm hf hz
  ⟨⟨h.info, h.plainEq, h.zt⟩, h.func, h.mixed⟩
def TOk (P : Program) (t : Tr XFn) : Prop := ∀ B f g, t.get f = some g → XOk P B f g
theorem zgj {P : Program} {fs : Tr Func} {ts : Tr TypeInfo} {tab : Tr XFn} {zl : List (Nat × Nat)} {dt : Tr Unit} (h : TOk P tab) (B : Nat) : ExtOk (lkT P fs ts tab zl dt) P B :=
  fun f g hg => h B f g hg
theorem TOk.set {P : Program} {t : Tr XFn} {f : Nat} {g : XFn} (ht : TOk P t) (h : ∀ B, XOk P B f g) : TOk P (t.set f g) := fun B f' g' he => by
  rw [Tr.get_set] at he
  split at he
  · next e => subst e; cases he; exact h B
  · exact ht B f' g' he
theorem TOk.of {P : Program} : ∀ (l : List (Nat × XFn)), (∀ B, ∀ p ∈ l, XOk P B p.1 p.2) → TOk P (trOf l)
  | [], _ => fun B f g he => by
    have he : (Tr.nil : Tr XFn).get f = some g := he
    rw [Tr.get_nil] at he; cases he
  | p :: l, h => (TOk.of l fun B q hq => h B q (List.mem_cons_of_mem _ hq)).set fun B => h B p List.mem_cons_self
end Go.Ev
