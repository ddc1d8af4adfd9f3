import Derived.Test.YtnkomaedmblemaaEvRun7
set_option linter.unusedSimpArgs false
set_option linter.unusedVariables false
namespace Go.Ev
section
variable {L : Lk} {P : Program} {B : Nat}

theorem evReq_ok (hL : LOk L P) (hX : ExtOk L P B) : ∀ n, CodeRec P B n (evReq L n) := by
  intro n
  induction n with
  | zero => exact ⟨⟨fun _ _ _ _ h => (by cases h), fun _ _ _ _ h => (by cases h)⟩, fun _ _ _ _ h => (by cases h), fun _ _ _ _ _ _ _ h => (by cases h)⟩
  | succ n ih =>
    refine ⟨⟨?_, ?_⟩, ?_, ?_⟩
    · intro f args H out h E w us hw hS hus
      have h : (match L.ext f with
        | some g => (match g args H with | some p => some (out1 p.1 p.2) | none => none)
        | none => match L.func f with
          | none => none
          | some fn => match fn.body with
            | none => none
            | some c => match Nat.ble (len args) fn.ntmps with
              | false => none
              | true => match evCode L (evReq L n) c (setArgs args 0 .nil) H with
                | none => none
                | some o => match o.ex with
                  | .ret | .normal => (match evResults L o.T o.H fn.results.toList with
                    | some vs => (match vs with | [v] => some (out1 v o.H) | vs => some (out1 (.tup vs) o.H))
                    | none => none)
                  | _ => none) = some out := h
      split at h
      · next g hg =>
        split at h
        · next p hp => cases h; exact hX f g hg args H p hp E w us hw hS hus
        · cases h
      · split at h
        · cases h
        · next fn hfn =>
          split at h
          · cases h
          · next c hc =>
            split at h
            · cases h
            · next hlen =>
              rw [len_eq] at hlen
              split at h
              · cases h
              · next o ho =>
                have fin : (o.ex = .ret ∨ o.ex = .normal) → (match evResults L o.T o.H fn.results.toList with
                    | some vs => (match vs with | [v] => some (out1 v o.H) | vs => some (out1 (.tup vs) o.H))
                    | none => none) = some out → CallOk P B E H w f us (outVal out) out.H := by
                  intro hex h
                  split at h
                  · next vs hvs =>
                    have he : out = out1 (tupOf vs) o.H := by
                      cases vs with
                      | nil => cases h; rfl
                      | cons v vs => cases vs with
                        | nil => cases h; rfl
                        | cons v' vs => cases h; rfl
                    rw [he]
                    exact call_ok hL ih hfn hc (Nat.le_of_ble_eq_true hlen) ho hex hvs hw hS hus
                  · cases h
                split at h
                · next hex => exact fin (.inl hex) h
                · next hex => exact fin (.inr hex) h
                · cases h
    · intro l args H out h E w us hw hS hus
      have h : (match Nat.ble H.lo l, H.get l with
        | true, some (.loop .ready none T _ ps assign body) => (match Nat.beq (len args) (len ps) with
          | false => none
          | true => match evCode L (evReq L n) assign (setParams (ps.zip args) T) H with
            | none => none
            | some o1 => match o1.ex with
              | .normal => (match o1.H.get l with
                | some (.loop .ready none T2 n2 ps2 as2 bd2) => (match evCode L (evReq L n) body o1.T (o1.H.put l (.loop .busy none T2 n2 ps2 as2 bd2)) with
                  | none => none
                  | some o2 => match o2.H.get l with
                    | some (.loop .busy _ T n ps assign body) => (match o2.ex with
                      | .normal => some (out1 (.bool true) (o2.H.put l (.loop .ready none T n ps assign body)))
                      | .exit id => some (out1 (.bool false) (o2.H.put l (.loop .done (some (.exit id)) T n ps assign body)))
                      | .ret => some (out1 (.bool false) (o2.H.put l (.loop .done (some .ret) T n ps assign body)))
                      | .goto _ => none)
                    | _ => none)
                | _ => none)
              | _ => none)
        | _, _ => none) = some out := h
      split at h
      · next T k ps assign body hlo hg =>
        split at h
        · cases h
        · next hlen =>
          have hlen := Nat.eq_of_beq_eq_true hlen
          rw [len_eq, len_eq] at hlen
          split at h
          · cases h
          · next o1 ho1 =>
            split at h
            · next hx1 =>
              split at h
              · next T2 n2 ps2 as2 bd2 hg1 =>
                split at h
                · cases h
                · next o2 ho2 =>
                  split at h
                  · next pe T3 n3 ps3 as3 bd3 hg2 =>
                    refine round_ok hL ih (Nat.le_of_ble_eq_true hlo) hg hlen ho1 hx1 hg1 ho2 hg2 ?_ hw hS hus
                    split at h
                    · next hx => cases h; exact .inl ⟨hx, rfl⟩
                    · next id hx => cases h; exact .inr (.inl ⟨id, hx, rfl⟩)
                    · next hx => cases h; exact .inr (.inr ⟨hx, rfl⟩)
                    · cases h
                  · cases h
              · cases h
            · cases h
      · cases h
    · intro body T H out h F hF N m hwf E w a hA hm Q hQ
      have h : (match evCode L (evReq L n) body T H with
        | none => none
        | some o => match o.ex with
          | .normal => evReq L n (.loop body o.T o.H)
          | _ => some o) = some out := h
      split at h
      · cases h
      · next o ho =>
        rw [roundsIn_succ]
        refine evCode_ok hL.toLOk0 hL.mixed ih m body F hF T H o ho hwf N E w a hA hm _ fun e a1 w1 hb => ?_
        obtain ⟨⟨E1, h1, h2, h3, h4⟩, h5, h6, h7⟩ := hb
        generalize hex : o.ex = ex at h h6
        cases h6 with
        | normal => exact ih.loop body o.T o.H out h F hF N m hwf E1 w1 a1 ⟨h5, h1, h2, h4, Nat.le_trans hA.base h3.size, fun l hl => let ⟨r, hr⟩ := hA.rnd l hl; h3.loops l r hr⟩ (by omega) Q fun e2 a2 w2 hb2 => hQ e2 a2 w2 (hb2.trans h3 h7)
        | exit id => cases h; exact hQ _ _ _ ⟨⟨E1, h1, h2, h3, h4⟩, h5, by rw [hex]; exact .exit id, h7⟩
        | ret => cases h; exact hQ _ _ _ ⟨⟨E1, h1, h2, h3, h4⟩, h5, by rw [hex]; exact .ret, h7⟩
        | goto l => cases h; exact hQ _ _ _ ⟨⟨E1, h1, h2, h3, h4⟩, h5, by rw [hex]; exact .goto l, h7⟩
    · intro g ps assign body T H out h F hF N m hps hwa hwb x E w a hA hm hx Q hQ
      have h : (match evCallFn g [.yld H.next] with
        | some (.enter f args) => (match L.func f with
          | none => none
          | some fn => match fn.body with
            | none => none
            | some _ => match evReq L n (.call f args (H.new (.loop .ready none T 0 ps.toList assign body))) with
              | none => none
              | some o => match Nat.ble o.H.lo H.next, o.H.get H.next with
                | true, some (.loop st pend _ _ _ _ _) => (match st with
                  | .busy => none
                  | _ => match pend with
                    | none => some ⟨.normal, T, o.H.put H.next .defd⟩
                    | some (.exit id) => some ⟨.exit id, T, o.H.put H.next .defd⟩
                    | some .ret => some ⟨.ret, T, o.H.put H.next .defd⟩
                    | _ => none)
                | _, _ => none)
        | _ => none) = some out := h
      split at h
      · next f args hcf =>
        split at h
        · cases h
        · next fn hfn =>
          split at h
          · cases h
          · next c hc =>
            split at h
            · cases h
            · next o ho =>
              split at h
              · next st pend T5 n5 ps5 as5 bd5 hlo hg =>
                have go := fun hst hout => range_ok (out := out) hL ih hF hcf hfn hc ho (Nat.le_of_ble_eq_true hlo) hg hst hout hps hwa hwb hA hm hx hQ
                split at h
                · cases h
                · next hne =>
                  split at h
                  · cases h; exact go hne (.inl ⟨rfl, rfl⟩)
                  · cases h; exact go hne (.inr (.inl ⟨_, rfl, rfl⟩))
                  · cases h; exact go hne (.inr (.inr ⟨rfl, rfl⟩))
                  · cases h
              · cases h
      · cases h
end

/-- The heap of a program that has none of its own. -/
noncomputable def H0 : AH := { tree := .nil, next := 0, lo := 0, hide := [] }
theorem H0_get (i : Nat) : H0.get i = none := by
  unfold AH.get H0
  cases AH.vis { tree := .nil, next := 0, lo := 0, hide := [] } i with
  | false => rfl
  | true => exact Tr.get_nil i
theorem H0_wf : H0.Wf := ⟨fun i b h => (by rw [show H0.tree.get i = none from Tr.get_nil i] at h; cases h), Nat.le_refl _, fun r hr => by cases hr⟩
theorem H0_st (E : Env) (w : World) : St w.heap.size E H0 w := fun E' _ =>
  ⟨fun i b h => (by rw [H0_get] at h; cases h), fun i j b c h => (by rw [H0_get] at h; cases h), fun i b h => (by rw [H0_get] at h; cases h), Nat.le_refl _⟩

end Go.Ev
