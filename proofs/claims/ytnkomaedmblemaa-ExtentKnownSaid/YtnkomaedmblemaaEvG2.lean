import Derived.Test.YtnkomaedmblemaaEvG
set_option linter.unusedSimpArgs false
set_option linter.unusedVariables false
namespace Go.Ev
section
variable {L : Lk} {rec : Rec} {kk : Tr AV → AH → Option Out}

theorem light_same {T : Tr AV} {o : Oper} {H : AH} {r : AV × AH} (hl : isHeavy L o = false) (h : evOper L rec T o H = some r) : r.2 = H := by
  unfold evOper at h
  split at h
  · cases h
  · next nx hnx =>
    have hv : ∃ v, nx = .val v H := by
      unfold isHeavy kindOf at hl
      cases hp : pureOp L o.op with
      | true => obtain ⟨v, hv, _⟩ := pure_any hp hnx; exact ⟨v, hv⟩
      | false =>
        rw [hp] at hl
        cases hr : readOp o.op with
        | true => obtain ⟨v, hv, _⟩ := read_any hr hnx; exact ⟨v, hv⟩
        | false => rw [hr] at hl; cases hl
    obtain ⟨v, rfl⟩ := hv
    simp only [Option.some.injEq] at h
    rw [← h]

/-- What a light operation's node does. -/
noncomputable def lightSem (L : Lk) (rec : Rec) (kk : Tr AV → AH → Option Out) (o : Oper) (k : K2) (T : Tr AV) (H : AH) : Option Out :=
  match evOper L rec T o H with
  | some r => runK L rec kk k (putT T o.dst r.1) H
  | none => none
noncomputable def heavySem (L : Lk) (rec : Rec) (kk : Tr AV → AH → Option Out) (o : Oper) (w : Bool) (k : K2) (T : Tr AV) (H : AH) : Option Out :=
  match evOper L rec T o (hIn w H) with
  | some r => runK L rec kk k (putT T o.dst r.1) (hOut w H r.2)
  | none => none

theorem outVal_lo (o : Out) : dflt (Tr.getLo .d0 .d0 o.T) = outVal o := by
  unfold outVal
  have : o.T.get 0 = Tr.getLo .d0 .d0 o.T := Tr.get_lo _ (by decide)
  rw [this]
  cases Tr.getLo .d0 .d0 o.T <;> rfl

theorem run_gl (o : Oper) (k : K2) (T : Tr AV) (H : AH) : runK L rec kk (.gl o (dOf o.dst) k) T H = lightSem L rec kk o k T H := by
  show orec none (fun r => Prod.rec (motive := fun _ => Option Out) (fun v _ => runK L rec kk k (putS (dOf o.dst) v T) H) r) (evOper L rec T o H) = _
  unfold lightSem
  cases evOper L rec T o H with
  | none => rfl
  | some r => show runK L rec kk k (putS (dOf o.dst) r.1 T) H = _; rw [putS_dOf]
theorem run_gh (o : Oper) (w : Bool) (k : K2) (T : Tr AV) (H : AH) : runK L rec kk (.gh w o (dOf o.dst) k) T H = heavySem L rec kk o w k T H := by
  show orec none (fun r => Prod.rec (motive := fun _ => Option Out) (fun v H' => runK L rec kk k (putS (dOf o.dst) v T) (hOut w H H')) r) (evOper L rec T o (hIn w H)) = _
  unfold heavySem
  cases evOper L rec T o (hIn w H) with
  | none => rfl
  | some r => show runK L rec kk k (putS (dOf o.dst) r.1 T) (hOut w H r.2) = _; rw [putS_dOf]
theorem run_fail (T : Tr AV) (H : AH) : runK L rec kk .fail T H = none := rfl

theorem light_val {o : Oper} {T : Tr AV} {H : AH} {x : Option AV} (h : evOp L T o H = val1 x H) (k : K2) : lightSem L rec kk o k T H = orec none (fun v => runK L rec kk k (putS (dOf o.dst) v T) H) x := by
  unfold lightSem evOper
  rw [h]
  cases x with
  | none => rfl
  | some v => show runK L rec kk k (putT T o.dst v) H = _; rw [← putS_dOf]; rfl
theorem run_mv (x : O2) (o : Oper) (k : K2) (T : Tr AV) (H : AH) (h : evOp L T o H = val1 (some (x.ev T)) H) : runK L rec kk (.mv x (dOf o.dst) k) T H = lightSem L rec kk o k T H := by
  rw [light_val h]; rfl
theorem run_p1 (f : AV → Option AV) (x : O2) (o : Oper) (k : K2) (T : Tr AV) (H : AH) (h : evOp L T o H = val1 (f (x.ev T)) H) : runK L rec kk (.p1 f x (dOf o.dst) k) T H = lightSem L rec kk o k T H := by
  rw [light_val h]; rfl
theorem run_p2 (f : AV → AV → Option AV) (x y : O2) (o : Oper) (k : K2) (T : Tr AV) (H : AH) (h : evOp L T o H = val1 (f (x.ev T) (y.ev T)) H) : runK L rec kk (.p2 f x y (dOf o.dst) k) T H = lightSem L rec kk o k T H := by
  rw [light_val h]; rfl
theorem run_r1 (f : AV → AH → Option AV) (x : O2) (o : Oper) (k : K2) (T : Tr AV) (H : AH) (h : evOp L T o H = val1 (f (x.ev T) H) H) : runK L rec kk (.r1 f x (dOf o.dst) k) T H = lightSem L rec kk o k T H := by
  rw [light_val h]; rfl
theorem light_none {o : Oper} {T : Tr AV} {H : AH} (h : evOp L T o H = none) (k : K2) : lightSem L rec kk o k T H = none := by
  unfold lightSem evOper; rw [h]
theorem heavy_none {o : Oper} {T : Tr AV} {H : AH} {w : Bool} (h : evOp L T o (hIn w H) = none) (k : K2) : heavySem L rec kk o w k T H = none := by
  unfold heavySem evOper; rw [h]

theorem node_light (o : Oper) (w : Bool) (k : K2) (T : Tr AV) (H : AH) (hl : isHeavy L o = false) : runK L rec kk (node L o w k) T H = lightSem L rec kk o k T H := by
  obtain ⟨dst, op, ty, pos, after, guard⟩ := o
  unfold node
  rw [hl]
  cases op with
  | move x =>
    have he : evOp L T ⟨dst, .move x, ty, pos, after, guard⟩ H = val1 (opnd T x) H := rfl
    rw [opnd_opd] at he
    cases hx : opd x with
    | none => rw [hx] at he; simp only [hx]; exact (light_none he k).symm
    | some a => rw [hx] at he; simp only [hx]; exact run_mv a _ k T H he
  | assign x =>
    have he : evOp L T ⟨dst, .assign x, ty, pos, after, guard⟩ H = val1 (opnd T x) H := rfl
    rw [opnd_opd] at he
    cases hx : opd x with
    | none => rw [hx] at he; simp only [hx]; exact (light_none he k).symm
    | some a => rw [hx] at he; simp only [hx]; exact run_mv a _ k T H he
  | binOp op t x y yt =>
    have he : evOp L T ⟨dst, .binOp op t x y yt, ty, pos, after, guard⟩ H = (match opnd T x, opnd T y with | some v, some u => val1 (evBin L op t x y v u) H | _, _ => none) := rfl
    rw [opnd_opd, opnd_opd] at he
    cases hx : opd x with
    | none => rw [hx] at he; simp only [hx]; exact (light_none he k).symm
    | some a =>
      rw [hx] at he
      cases hy : opd y with
      | none => rw [hy] at he; simp only [hx, hy]; exact (light_none he k).symm
      | some b =>
        rw [hy] at he
        simp only [hx, hy]
        exact run_p2 (binF op (evBin L op t x y)) a b ⟨dst, .binOp op t x y yt, ty, pos, after, guard⟩ k T H (by rw [binF_eq]; exact he)
  | unOp op t x =>
    cases op with
    | not =>
      have he : evOp L T ⟨dst, .unOp .not t x, ty, pos, after, guard⟩ H = (match opnd T x with | some v => val1 (evUn .not v) H | none => none) := rfl
      rw [opnd_opd] at he
      cases hx : opd x with
      | none => rw [hx] at he; simp only [hx]; exact (light_none he k).symm
      | some a =>
        rw [hx] at he; simp only [hx]
        refine run_p1 _ a _ k T H (he.trans ?_)
        simp only
        congr 1
        cases a.ev T <;> first | rfl | (next b => cases b <;> rfl)
    | _ => exact run_gl _ k T H
  | load t a =>
    have he : evOp L T ⟨dst, .load t a, ty, pos, after, guard⟩ H = (match opnd T a with | some v => val1 (evLoad L t v H) H | none => none) := rfl
    rw [opnd_opd] at he
    cases hg : L.isAgg t with
    | none =>
      simp only [hg]
      refine (light_none ?_ k).symm
      rw [he]
      cases opd a with
      | none => rfl
      | some x => simp only; unfold evLoad; rw [hg]; cases x.ev T <;> rfl
    | some g =>
      cases g with
      | true =>
        cases hs : L.size t with
        | none =>
          simp only [hg, hs]
          refine (light_none ?_ k).symm
          rw [he]
          cases opd a with
          | none => rfl
          | some x => simp only; unfold evLoad; rw [hg, hs]; cases x.ev T <;> rfl
        | some s =>
          simp only [hg, hs]
          cases hx : opd a with
          | none => rw [hx] at he; exact (light_none he k).symm
          | some x => rw [hx] at he; exact run_r1 (ldN s) x ⟨dst, .load t a, ty, pos, after, guard⟩ k T H (by rw [ldN_eq hg hs]; exact he)
      | false =>
        simp only [hg]
        cases hx : opd a with
        | none => rw [hx] at he; exact (light_none he k).symm
        | some x => rw [hx] at he; exact run_r1 ld1 x ⟨dst, .load t a, ty, pos, after, guard⟩ k T H (by rw [ld1_eq hg]; exact he)
  | indexAddr t x ix =>
    have he : evOp L T ⟨dst, .indexAddr t x ix, ty, pos, after, guard⟩ H = (match opnd T x, opnd T ix with | some v, some u => val1 (evIndexAddr L t v u) H | _, _ => none) := rfl
    rw [opnd_opd, opnd_opd] at he
    have hno : (∀ a b, evIndexAddr L t a b = none) → lightSem L rec kk ⟨dst, .indexAddr t x ix, ty, pos, after, guard⟩ k T H = none := fun h => by
      refine light_none ?_ k
      rw [he]
      cases opd x <;> cases opd ix <;> first | rfl | (simp only; rw [h]; rfl)
    have fin : ∀ f : AV → AV → Option AV, (∀ a b, f a b = evIndexAddr L t a b) →
        runK L rec kk (orec K2.fail (fun a => orec .fail (fun b => .p2 f a b (dOf dst) k) (opd ix)) (opd x)) T H = lightSem L rec kk ⟨dst, .indexAddr t x ix, ty, pos, after, guard⟩ k T H := fun f hf => by
      cases hx : opd x with
      | none => rw [hx] at he; exact (light_none he k).symm
      | some a =>
        rw [hx] at he
        cases hy : opd ix with
        | none => rw [hy] at he; exact (light_none he k).symm
        | some b => rw [hy] at he; exact run_p2 f a b ⟨dst, .indexAddr t x ix, ty, pos, after, guard⟩ k T H (by rw [hf]; exact he)
    cases hu : L.under t with
    | none => simp only [hu]; refine (hno fun a b => ?_).symm; unfold evIndexAddr; rw [hu]; cases natOf b <;> cases a <;> rfl
    | some d =>
      cases d with
      | slice e =>
        cases hz : L.size e with
        | none => simp only [hu, hz]; refine (hno fun a b => ?_).symm; unfold evIndexAddr; rw [hu]; cases natOf b <;> cases a <;> simp only [hz]
        | some z => simp only [hu, hz]; exact fin _ (fun a b => ixS_eq hu hz a b)
      | array n e =>
        cases hz : L.size e with
        | none => simp only [hu, hz]; refine (hno fun a b => ?_).symm; unfold evIndexAddr; rw [hu]; cases natOf b <;> cases a <;> simp only [hz]
        | some z => simp only [hu, hz]; exact fin _ (fun a b => ixA_eq hu hz a b)
      | _ => simp only [hu]; refine (hno fun a b => ?_).symm; unfold evIndexAddr; rw [hu]; cases natOf b <;> cases a <;> rfl
  | fieldAddr s x f =>
    have he : evOp L T ⟨dst, .fieldAddr s x f, ty, pos, after, guard⟩ H = (match opnd T x with | some v => val1 (evFieldAddr L s v f) H | none => none) := rfl
    rw [opnd_opd] at he
    have hno : (∀ a, evFieldAddr L s a f = none) → lightSem L rec kk ⟨dst, .fieldAddr s x f, ty, pos, after, guard⟩ k T H = none := fun h => by
      refine light_none ?_ k
      rw [he]
      cases opd x <;> first | rfl | (simp only; rw [h]; rfl)
    cases hu : L.under s with
    | none => simp only [hu]; refine (hno fun a => ?_).symm; unfold evFieldAddr; rw [hu]; cases a <;> rfl
    | some d =>
      cases d with
      | struct fields =>
        cases hf : nth fields.toList f with
        | none => simp only [hu, hf]; refine (hno fun a => ?_).symm; unfold evFieldAddr; rw [hu]; cases a <;> simp only [hf]
        | some fd =>
          cases hz : L.size fd.type with
          | none => simp only [hu, hf, hz]; refine (hno fun a => ?_).symm; unfold evFieldAddr; rw [hu]; cases a <;> simp only [hf, hz]
          | some z =>
            simp only [hu, hf, hz]
            cases h0 : Nat.beq z 0 with
            | true => refine (hno fun a => ?_).symm; unfold evFieldAddr; rw [hu]; cases a <;> simp only [hf, hz, h0]
            | false =>
              cases hx : opd x with
              | none => rw [hx] at he; exact (light_none he k).symm
              | some a => rw [hx] at he; exact run_p1 (fa fd.offset) a ⟨dst, .fieldAddr s x f, ty, pos, after, guard⟩ k T H (by rw [fa_eq hu hf hz h0]; exact he)
      | _ => simp only [hu]; refine (hno fun a => ?_).symm; unfold evFieldAddr; rw [hu]; cases a <;> rfl
  | extract x ix =>
    have he : evOp L T ⟨dst, .extract x ix, ty, pos, after, guard⟩ H = (match opnd T x with | some (.tup vs) => val1 (nth vs ix) H | _ => none) := rfl
    rw [opnd_opd] at he
    cases hx : opd x with
    | none => rw [hx] at he; simp only [hx]; exact (light_none he k).symm
    | some a =>
      rw [hx] at he; simp only [hx]
      refine run_p1 _ a _ k T H (he.trans ?_)
      simp only
      cases a.ev T <;> first | rfl | (show val1 _ H = val1 (nthF _ _) H; rw [nthF_eq])
  | _ => exact run_gl _ k T H

theorem heavy_val {o : Oper} {T : Tr AV} {H : AH} {w : Bool} {x : Option (AV × AH)} (h : evOp L T o (hIn w H) = val2 x) (k : K2) :
    heavySem L rec kk o w k T H = orec none (fun r => Prod.rec (motive := fun _ => Option Out) (fun v H' => runK L rec kk k (putS (dOf o.dst) v T) (hOut w H H')) r) x := by
  unfold heavySem evOper
  rw [h]
  cases x with
  | none => rfl
  | some r => show runK L rec kk k (putT T o.dst r.1) (hOut w H r.2) = _; rw [← putS_dOf]; rfl

theorem node_heavy (o : Oper) (w : Bool) (k : K2) (T : Tr AV) (H : AH) (hl : isHeavy L o = true) : runK L rec kk (node L o w k) T H = heavySem L rec kk o w k T H := by
  obtain ⟨dst, op, ty, pos, after, guard⟩ := o
  unfold node
  rw [hl]
  cases op with
  | alloc e =>
    have he : evOp L T ⟨dst, .alloc e, ty, pos, after, guard⟩ (hIn w H) = (match L.zero e, L.size e with | some z, some s => some (.val (.ptr (hIn w H).next 0) ((hIn w H).new (.cells z.cells e s false false))) | _, _ => none) := rfl
    cases hz : L.zero e with
    | none => rw [hz] at he; simp only [hz]; exact (heavy_none he k).symm
    | some z =>
      cases hs : L.size e with
      | none => rw [hz, hs] at he; simp only [hz, hs]; exact (heavy_none he k).symm
      | some s =>
        rw [hz, hs] at he; simp only [hz, hs]
        rw [heavy_val (x := alF z.cells e s (hIn w H)) (by rw [he, alF_eq]; rfl)]
        rfl
  | box e x =>
    have he : evOp L T ⟨dst, .box e x, ty, pos, after, guard⟩ (hIn w H) = (match opnd T x, L.size e with | some v, some s => some (.val (.ptr (hIn w H).next 0) ((hIn w H).new (.cells v.cells e s false false))) | _, _ => none) := rfl
    rw [opnd_opd] at he
    cases hs : L.size e with
    | none =>
      rw [hs] at he; simp only [hs]
      refine (heavy_none ?_ k).symm
      rw [he]; cases opd x <;> rfl
    | some s =>
      rw [hs] at he; simp only [hs]
      cases hx : opd x with
      | none => rw [hx] at he; exact (heavy_none he k).symm
      | some a =>
        rw [hx] at he
        rw [heavy_val (x := alF (a.ev T).cells e s (hIn w H)) (by rw [he, alF_eq]; rfl)]
        rfl
  | store t a x =>
    have he : evOp L T ⟨dst, .store t a x, ty, pos, after, guard⟩ (hIn w H) = (match opnd T a, opnd T x with | some v, some u => unit1 (evStore L t v u (hIn w H)) | _, _ => none) := rfl
    rw [opnd_opd, opnd_opd] at he
    have fin : ∀ f : AV → AV → AH → Option AH, (∀ a b H, f a b H = evStore L t a b H) →
        runK L rec kk (orec K2.fail (fun a => orec .fail (fun b => .st w f a b (dOf dst) k) (opd x)) (opd a)) T H = heavySem L rec kk ⟨dst, .store t a x, ty, pos, after, guard⟩ w k T H := fun f hf => by
      cases ha : opd a with
      | none => rw [ha] at he; exact (heavy_none he k).symm
      | some a =>
        rw [ha] at he
        cases hx : opd x with
        | none => rw [hx] at he; exact (heavy_none he k).symm
        | some b =>
          rw [hx] at he
          rw [heavy_val (x := orec none (fun H' => some (AV.undef, H')) (f (a.ev T) (b.ev T) (hIn w H))) (by
            rw [he, hf]; simp only; cases evStore L t (a.ev T) (b.ev T) (hIn w H) <;> rfl)]
          show orec none (fun H' => runK L rec kk k (putS (dOf dst) .undef T) (hOut w H H')) (f (a.ev T) (b.ev T) (hIn w H)) = _
          cases f (a.ev T) (b.ev T) (hIn w H) <;> rfl
    cases hs : L.size t with
    | none =>
      simp only [hs]
      refine (heavy_none ?_ k).symm
      rw [he]
      cases opd a <;> cases opd x <;> first
        | rfl
        | (simp only; unfold evStore; rw [hs]; cases O2.ev _ T <;> rfl)
    | some s =>
      simp only [hs]
      cases hb : Nat.beq s 1 with
      | true =>
        have hs1 := Nat.eq_of_beq_eq_true hb
        subst hs1
        exact fin _ (fun a b H => st1_eq hs a b H)
      | false => exact fin _ (fun _ _ _ => rfl)
  | convert s d x =>
    have he : evOp L T ⟨dst, .convert s d x, ty, pos, after, guard⟩ (hIn w H) = (match opnd T x with | some v => val2 (evConvert L s d v (hIn w H)) | none => none) := rfl
    rw [opnd_opd] at he
    cases hs : L.under s with
    | none => simp only [hs]; exact run_gh _ w k T H
    | some sd =>
      cases hd : L.under d with
      | none => simp only [hs, hd]; exact run_gh _ w k T H
      | some dd =>
        cases dd with
        | int ki =>
          simp only [hs, hd]
          cases hx : opd x with
          | none => rw [hx] at he; exact (heavy_none he k).symm
          | some a =>
            rw [hx] at he
            rw [heavy_val he]
            show orec none (fun v => runK L rec kk k (putS (dOf dst) v T) H) (cvI ki (a.ev T)) = _
            have hc : evConvert L s d (a.ev T) (hIn w H) = orec none (fun v => some (v, hIn w H)) (cvI ki (a.ev T)) := by
              unfold evConvert
              rw [hs, hd]
              cases a.ev T <;> first | rfl | (cases sd <;> rfl) | (show some (AV.int ki (fwrap ki _), hIn w H) = some (AV.int ki (fw ki _), hIn w H); rw [fw_fwrap])
            rw [hc]
            cases cvI ki (a.ev T) with
            | none => rfl
            | some v => show runK L rec kk k (putS (dOf dst) v T) H = runK L rec kk k (putS (dOf dst) v T) (hOut w H (hIn w H)); rw [hOut_hIn]
        | _ => simp only [hs, hd]; exact run_gh _ w k T H
  | call c =>
    obtain ⟨callee, args, ats⟩ := c
    cases callee with
    | value f =>
      cases f with
      | func g =>
        have he : evOp L T ⟨dst, .call ⟨.value (.func g), args, ats⟩, ty, pos, after, guard⟩ (hIn w H) = (match opnds T args.toList with | none => none | some as => some (.enter g ([] ++ as ++ []))) := rfl
        rw [opnds_opd] at he
        simp only
        cases hm : mapO opd args.toList with
        | none => rw [hm] at he; exact (heavy_none he k).symm
        | some xs =>
          rw [hm] at he
          simp only [List.nil_append, List.append_nil] at he
          show orec none (fun o => Out.rec (motive := fun _ => Option Out) (fun _ T' H' => runK L rec kk k (putS (dOf dst) (dflt (Tr.getLo .d0 .d0 T')) T) (hOut w H H')) o) (rec (.call g (evs xs T) (hIn w H))) = _
          unfold heavySem evOper
          rw [he]
          simp only
          cases rec (.call g (evs xs T) (hIn w H)) with
          | none => rfl
          | some out =>
            show runK L rec kk k (putS (dOf dst) (dflt (Tr.getLo .d0 .d0 out.T)) T) (hOut w H out.H) = runK L rec kk k (putT T dst (outVal out)) (hOut w H out.H)
            rw [outVal_lo, putS_dOf]
      | _ => exact run_gh _ w k T H
    | _ => exact run_gh _ w k T H
  | _ => exact run_gh _ w k T H
end
end Go.Ev
