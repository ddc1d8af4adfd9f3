import Derived.Test.YtopipkafkkfpeaaGreatDoorVAAH
import Derived.Test.YtopipkafkkfpeaaGreatDoorVAAE
import Derived.Lib.Overlaps
import Derived.Test.YtopipkafkkfpeaaGreatDoorVAAF
set_option maxHeartbeats 8000000
set_option linter.unusedSimpArgs false
set_option linter.unusedVariables false
namespace Go.Ev
open Go.RowKit
noncomputable def xOver : XFn := fun args H => match args with
  | [.sl i o _ _ _, .sl j _ _ _ _] => (match Nat.beq i j, H.get i, H.get j with
    | false, some (.cells ci _ zi _ false), some (.cells cj _ _ _ false) => (match Nat.beq zi 1, Nat.blt o ci.len, Nat.blt 0 cj.len with
      | false, true, true => some (.bool false, H)
      | _, _, _ => none)
    | _, _, _ => none)
  | _ => none
theorem ztg1 {P : Program} {B : Nat} {f tS tR e size : Nat} (hf : Bare P f (Extern.SlicesOverlaps.overlaps #[tS, tS] #[tR])) (ht : P.underlying tS = some (.slice e)) (hz : ∀ w, (Go.sizeOf e).run P w = .ok size w) : XOk P B f xOver := by
  intro args H p hp E w us hw hS hus
  unfold xOver at hp
  split at hp
  · next i o n c op j p' m d oq =>
    split at hp
    · next ci ei zi opi cj ej zj opj hij hgi hgj =>
      split at hp
      · next hz1 ho hl =>
        cases hp
        have hu := hus E (Agree.refl _ _)
        subst hu
        have hne : i ≠ j := fun h => by subst h; rw [Nat.beq_refl] at hij; cases hij
        have hzn : zi ≠ 1 := fun h => by subst h; cases hz1
        rw [Nat.blt_eq, Ce.len_l] at ho hl
        obtain ⟨cs, e1, fz, a1, a2, a3⟩ := hS.self.blk i _ hgi
        obtain ⟨⟨hf1, hf2⟩, hsz, _, hmk⟩ := a3 rfl
        obtain ⟨cs2, e2, fz2, b1, b2, b3⟩ := hS.self.blk j _ hgj
        obtain ⟨_, hsz2, _, _⟩ := b3 rfl
        have hblk : (E i).blk ≠ (E j).blk := hS.self.inj i j _ _ hgi hgj hne rfl rfl
        have hsa : w.shape? (E i).blk = some (e1, cs.size) := by unfold World.shape?; rw [a1]
        have hsb : w.shape? (E j).blk = some (e2, cs2.size) := by unfold World.shape?; rw [b1]
        unfold CallOk
        have key := Go.Lib.run_overlaps_apart (P := P) w tS tR e ht size hz ⟨(E i).blk, (E i).off + o, none⟩ ⟨(E j).blk, (E j).off + p', none⟩ n (c + if op then (E i).extra else 0) m (d + if oq then (E j).extra else 0) hblk e1 e2 cs.size cs2.size hsa hsb (by omega)
          (by
            rw [zfe]
            simp only [a1]
            have := hf2 ((E i).off + o) (by omega)
            simpa [objFz] using this)
          (by
            rw [zfe]
            simp only [a1]
            have := hmk hzn
            simpa [objFz] using this)
        have : (callFunc f (concL E [.sl i o n c op, .sl j p' m d oq]).toArray).run P w = .ok (.value (.bool false)) w := hf.run key
        rw [this]
        exact Done.same hw hS (fun _ _ => rfl)
      · cases hp
    · cases hp
  · cases hp
end Go.Ev
open Go Go.Ev Go.Proofs Go.RowKit
namespace HS.Ins
set_option maxRecDepth 100000
theorem bOv : Bare Tryz.prog 341 (Extern.SlicesOverlaps.overlaps #[24, 24] #[4]) := ⟨Tryz.f341, Tryz.func341, by kernel_rfl, by kernel_rfl, by kernel_rfl, by kernel_rfl⟩
noncomputable def lookI : Lk := lkZ Tryz.prog (Tr.ofList Tryz.prog.funcs.toList) (Tr.ofList Tryz.prog.types.toList) [(341, xOver)] []
theorem lookI_ok : LOk lookI Tryz.prog := zoa1 (by kernel_rfl) (by kernel_rfl) (by kernel_rfl)
theorem noextI : lookI.ext 294 = none := rfl
noncomputable def zxf : Code := bodyN lookI 294
noncomputable def f294r0 : K2 :=
  .mv (.con .nilSl) (some (sOf 6)) <|
  .done
noncomputable def f294r1 : K2 :=
  .mv (tO 0) (some (sOf 10)) <|
  .mv (tO 1) (some (sOf 11)) <|
  .ls (fun xs _ => zkc lookI 24 true false false xs) [(tO 10), (tO 11)] (opN zxf 1 2) (some (sOf 12)) <|
  .done
noncomputable def f294r2 : K2 :=
  .mv (tO 2) (some (sOf 13)) <|
  .ln (fun xs H => fstO (zra .len lookI [24] xs H)) [(tO 13)] (some (sOf 14)) <|
  .mv (tO 14) (some (sOf 7)) <|
  .done
noncomputable def f294r3 : K2 :=
  .mv (tO 7) (some (sOf 15)) <|
  .p2 (binF .eql (evBin lookI .eql 3 (.tmp 15) (.const (.int .i64 (0))))) (tO 15) (.con (.int .i64 (0))) (some (sOf 16)) <|
  .done
noncomputable def f294r4 : K2 :=
  .mv (tO 0) (some (sOf 17)) <|
  .mv (tO 17) (some (sOf 6)) <|
  .done
noncomputable def f294r5 : K2 :=
  .mv (tO 0) (some (sOf 18)) <|
  .ln (fun xs H => fstO (zra .len lookI [24] xs H)) [(tO 18)] (some (sOf 19)) <|
  .mv (tO 19) (some (sOf 8)) <|
  .done
noncomputable def f294r6 : K2 :=
  .mv (tO 1) (some (sOf 20)) <|
  .mv (tO 8) (some (sOf 21)) <|
  .p2 (binF .eql (evBin lookI .eql 3 (.tmp 20) (.tmp 21))) (tO 20) (tO 21) (some (sOf 22)) <|
  .done
noncomputable def f294r7 : K2 :=
  .mv (tO 0) (some (sOf 23)) <|
  .mv (tO 2) (some (sOf 24)) <|
  .hn false (appX 87 44 152) [(tO 23), (tO 24)] (some (sOf 25)) <|
  .mv (tO 25) (some (sOf 6)) <|
  .done
noncomputable def f294r8 : K2 :=
  .mv (tO 8) (some (sOf 26)) <|
  .mv (tO 7) (some (sOf 27)) <|
  .p2 (binF .add (evBin lookI .add 3 (.tmp 26) (.tmp 27))) (tO 26) (tO 27) (some (sOf 28)) <|
  .mv (tO 0) (some (sOf 29)) <|
  .ln (fun xs H => fstO (zra .cap lookI [24] xs H)) [(tO 29)] (some (sOf 30)) <|
  .p2 (binF .gtr (evBin lookI .gtr 3 (.tmp 28) (.tmp 30))) (tO 28) (tO 30) (some (sOf 31)) <|
  .done
noncomputable def f294r9 : K2 :=
  .mv (tO 0) (some (sOf 32)) <|
  .mv (tO 1) (some (sOf 33)) <|
  .ls (fun xs _ => zkc lookI 24 false true false xs) [(tO 32), (tO 33)] (opN zxf 9 2) (some (sOf 34)) <|
  .mv (tO 8) (some (sOf 35)) <|
  .mv (tO 7) (some (sOf 36)) <|
  .p2 (binF .add (evBin lookI .add 3 (.tmp 35) (.tmp 36))) (tO 35) (tO 36) (some (sOf 37)) <|
  .mv (tO 1) (some (sOf 38)) <|
  .p2 (binF .sub (evBin lookI .sub 3 (.tmp 37) (.tmp 38))) (tO 37) (tO 38) (some (sOf 39)) <|
  .hn false (zra .append lookI [24, 3]) [(tO 34), (tO 39)] (some (sOf 40)) <|
  .mv (tO 40) (some (sOf 9)) <|
  .done
noncomputable def f294r10 : K2 :=
  .mv (tO 9) (some (sOf 41)) <|
  .mv (tO 1) (some (sOf 42)) <|
  .ls (fun xs _ => zkc lookI 24 true false false xs) [(tO 41), (tO 42)] (opN zxf 10 2) (some (sOf 43)) <|
  .mv (tO 2) (some (sOf 44)) <|
  .hn false (zra .copy lookI [24, 24]) [(tO 43), (tO 44)] (some (sOf 45)) <|
  .done
noncomputable def f294r11 : K2 :=
  .mv (tO 9) (some (sOf 46)) <|
  .mv (tO 1) (some (sOf 47)) <|
  .mv (tO 7) (some (sOf 48)) <|
  .p2 (binF .add (evBin lookI .add 3 (.tmp 47) (.tmp 48))) (tO 47) (tO 48) (some (sOf 49)) <|
  .ln (fun xs _ => zkc lookI 24 true false false xs) [(tO 46), (tO 49)] (some (sOf 50)) <|
  .mv (tO 0) (some (sOf 51)) <|
  .mv (tO 1) (some (sOf 52)) <|
  .ln (fun xs _ => zkc lookI 24 true false false xs) [(tO 51), (tO 52)] (some (sOf 53)) <|
  .hn false (zra .copy lookI [24, 24]) [(tO 50), (tO 53)] (some (sOf 54)) <|
  .done
noncomputable def f294r12 : K2 :=
  .mv (tO 9) (some (sOf 55)) <|
  .mv (tO 55) (some (sOf 6)) <|
  .done
noncomputable def f294r13 : K2 :=
  .mv (tO 0) (some (sOf 56)) <|
  .mv (tO 8) (some (sOf 57)) <|
  .mv (tO 7) (some (sOf 58)) <|
  .p2 (binF .add (evBin lookI .add 3 (.tmp 57) (.tmp 58))) (tO 57) (tO 58) (some (sOf 59)) <|
  .ls (fun xs _ => zkc lookI 24 false true false xs) [(tO 56), (tO 59)] (opN zxf 13 4) (some (sOf 60)) <|
  .mv (tO 60) (some (sOf 0)) <|
  .done
noncomputable def f294r14 : K2 :=
  .mv (tO 2) (some (sOf 61)) <|
  .mv (tO 0) (some (sOf 62)) <|
  .mv (tO 1) (some (sOf 63)) <|
  .mv (tO 7) (some (sOf 64)) <|
  .p2 (binF .add (evBin lookI .add 3 (.tmp 63) (.tmp 64))) (tO 63) (tO 64) (some (sOf 65)) <|
  .ls (fun xs _ => zkc lookI 24 true false false xs) [(tO 62), (tO 65)] (opN zxf 14 5) (some (sOf 66)) <|
  .cl false 341 [(tO 61), (tO 66)] (some (sOf 67)) <|
  .p1 notF (tO 67) (some (sOf 68)) <|
  .done
noncomputable def f294r15 : K2 :=
  .mv (tO 0) (some (sOf 69)) <|
  .mv (tO 1) (some (sOf 70)) <|
  .mv (tO 7) (some (sOf 71)) <|
  .p2 (binF .add (evBin lookI .add 3 (.tmp 70) (.tmp 71))) (tO 70) (tO 71) (some (sOf 72)) <|
  .ln (fun xs _ => zkc lookI 24 true false false xs) [(tO 69), (tO 72)] (some (sOf 73)) <|
  .mv (tO 0) (some (sOf 74)) <|
  .mv (tO 1) (some (sOf 75)) <|
  .ln (fun xs _ => zkc lookI 24 true false false xs) [(tO 74), (tO 75)] (some (sOf 76)) <|
  .hn false (zra .copy lookI [24, 24]) [(tO 73), (tO 76)] (some (sOf 77)) <|
  .done
noncomputable def f294r16 : K2 :=
  .mv (tO 0) (some (sOf 78)) <|
  .mv (tO 1) (some (sOf 79)) <|
  .ls (fun xs _ => zkc lookI 24 true false false xs) [(tO 78), (tO 79)] (opN zxf 16 2) (some (sOf 80)) <|
  .mv (tO 2) (some (sOf 81)) <|
  .hn false (zra .copy lookI [24, 24]) [(tO 80), (tO 81)] (some (sOf 82)) <|
  .done
noncomputable def f294r17 : K2 :=
  .mv (tO 0) (some (sOf 83)) <|
  .mv (tO 83) (some (sOf 6)) <|
  .done
noncomputable def f294r18 : K2 :=
  .mv (tO 0) (some (sOf 84)) <|
  .mv (tO 8) (some (sOf 85)) <|
  .ls (fun xs _ => zkc lookI 24 true false false xs) [(tO 84), (tO 85)] (opN zxf 18 2) (some (sOf 86)) <|
  .mv (tO 2) (some (sOf 87)) <|
  .hn false (zra .copy lookI [24, 24]) [(tO 86), (tO 87)] (some (sOf 88)) <|
  .done
noncomputable def f294r19 : K2 :=
  .mv (tO 0) (some (sOf 89)) <|
  .mv (tO 1) (some (sOf 90)) <|
  .ls (fun xs _ => zkc lookI 24 true false false xs) [(tO 89), (tO 90)] (opN zxf 19 2) (some (sOf 91)) <|
  .mv (tO 7) (some (sOf 92)) <|
  .cl false 342 [(tO 91), (tO 92)] (some (sOf 93)) <|
  .done
noncomputable def f294r20 : K2 :=
  .mv (tO 0) (some (sOf 94)) <|
  .mv (tO 94) (some (sOf 6)) <|
  .done
noncomputable def f294c : C2 := (.seq (.reg f294r0)
  (.seq (.reg f294r1)
  (.seq (.reg f294r2)
  (.seq (.seq (.reg f294r3)
  (.cond (tO 16) (.seq (.reg f294r4)
  .ret) .skip))
  (.seq (.reg f294r5)
  (.seq (.seq (.reg f294r6)
  (.cond (tO 22) (.seq (.reg f294r7)
  .ret) .skip))
  (.seq (.seq (.reg f294r8)
  (.cond (tO 31) (.seq (.reg f294r9)
  (.seq (.reg f294r10)
  (.seq (.reg f294r11)
  (.seq (.reg f294r12)
  .ret)))) .skip))
  (.seq (.reg f294r13)
  (.seq (.seq (.reg f294r14)
  (.cond (tO 68) (.seq (.reg f294r15)
  (.seq (.reg f294r16)
  (.seq (.reg f294r17)
  .ret))) .skip))
  (.seq (.reg f294r18)
  (.seq (.reg f294r19)
  (.seq (.reg f294r20)
  .ret))))))))))))
theorem zvd1 : fnF lookI 294 = some ⟨95, f294c, [.tmp 6]⟩ := by kernel_rfl
end HS.Ins
open Go Go.Proofs Go.RowKit
namespace HS.Ins
open Go.Ev
open Ra Rb Rc Rd Re Rf Rg Rh Ri Rj Rk Rl Rm Rn Ro Rp Rq Rr
set_option maxRecDepth 100000
theorem app_z {L : Lk} {t t' e z b : Nat} {zv : AV} {H : AH} (ht : L.under t = some (.slice e)) (ht' : L.under t' = some (.int .i64)) (hz : L.size e = some z) (hb : L.bytes e = some b) (hzv : L.zero e = some zv) (hzl : zv.cells.length = z) (hz0 : 0 < z)
    {i o l c n : Nat} {ro op' : Bool} {e' z' : Nat} {row : List AV} (hr : Row H i ro op' e' z' row) (hl : o + l * z ≤ row.length) (hc : c < l + n) (hbb : (l + n) * b ≤ 140737488355328) (hm : l + n ≤ 9223372036854775807) (hone : (Ce.repC zv.cells n).one = true) (hh : H.hide = []) :
    ∃ H', zra .append L [t, t'] [.sl i o l c false, .int .i64 (n : Nat)] H = some (.sl H.next 0 (l + n) (l + n) true, H') ∧ HX H H' ∧ H'.next = H.next + 1 ∧ Row H' H.next false true e z ((row.drop o).take (l * z) ++ (Ce.repC zv.cells n).l) := by
  obtain ⟨cc, h2, rfl⟩ := hr
  obtain ⟨old, h3, h4⟩ := Ce.sub_ex (c := cc) (o := o) (n := l * z) hl
  have hnb : n * b ≤ 140737488355328 := Nat.le_trans (Nat.mul_le_mul_right b (Nat.le_add_left n l)) hbb
  refine ⟨H.new (.cells (Ce.app old (Ce.repC zv.cells n)) e z true false), ?_, HX.new _ _, rfl, ?_⟩
  · show (match L.under t' with
      | some (.slice _) => zid L t (.sl i o l c false) (.int .i64 (n : Nat)) H
      | some .string => zid L t (.sl i o l c false) (.int .i64 (n : Nat)) H
      | some (.int _) => zce L t (.sl i o l c false) (.int .i64 (n : Nat)) H
      | _ => none) = _
    rw [ht']
    show zce L t (.sl i o l c false) (.int .i64 (.ofNat n)) H = _
    unfold zce
    rw [ht]
    simp only [hz, hb, hzv]
    rw [show (Nat.beq z 0 || !Nat.beq (len zv.cells) z) = false from by
      rw [znc, hzl, Nat.beq_refl]
      cases z with
      | zero => omega
      | succ z => rfl]
    rw [show Nat.ble (n * b) 140737488355328 = true from Nat.ble_eq_true_of_le hnb, show Nat.ble n 9223372036854775807 = true from Nat.ble_eq_true_of_le (by omega)]
    simp only [Bool.and_self, hone]
    unfold zlk
    simp only
    rw [show Nat.ble (l + n) c = false from by cases h : Nat.ble (l + n) c with | false => rfl | true => have := Nat.le_of_ble_eq_true h; omega]
    simp only
    rw [show Nat.ble ((l + n) * b) 140737488355328 = true from Nat.ble_eq_true_of_le hbb, show Nat.ble (l + n) 9223372036854775807 = true from Nat.ble_eq_true_of_le hm]
    have : H.subC i o (l * z) = some old := by unfold AH.subC; rw [h2]; exact h3
    rw [this]
    rfl
  · have := Row.new hh (Ce.app old (Ce.repC zv.cells n)) e z true false
    rwa [Ce.app_l, h4] at this
theorem uR : lookI.under 24 = some (.slice 87) := by kernel_rfl
theorem uN : lookI.under 3 = some (.int .i64) := by kernel_rfl
theorem zR : lookI.size 87 = some 44 := by kernel_rfl
theorem bR : lookI.bytes 87 = some 152 := by kernel_rfl
noncomputable abbrev zv : AV := match lookI.zero 87 with | some v => v | none => .undef
theorem zvR : lookI.zero 87 = some zv := by kernel_rfl
theorem zlR : zv.cells.length = 44 := by kernel_rfl
theorem zoR : zv.cells.all AV.oneCell = true := by kernel_rfl
theorem zjd1 (n : Nat) : (Ce.repC zv.cells n).one = true := by
  unfold Ce.repC
  split
  · rfl
  · show (rep zv.cells n).all AV.oneCell = true
    induction n with
    | zero => rfl
    | succ n ih => rw [zoh, List.all_append, zoR, ih]; rfl
theorem ln (i o n c : Nat) (op : Bool) (H : AH) : fstO (zra .len lookI [24] [.sl i o n c op] H) = some (.int .i64 (n : Nat)) := by kernel_rfl
theorem cp (i n : Nat) (H : AH) (c : Nat) : fstO (zra .cap lookI [24] [.sl i 0 n c false] H) = some (.int .i64 ((c : Nat) : Int)) := by kernel_rfl
end HS.Ins
open Go Go.Proofs Go.RowKit
namespace HS.Ins
open Go.Ev
open Ra Rb Rc Rd Re Rf Rg Rh Ri Rj Rk Rl Rm Rn Ro Rp Rq Rr
set_option maxRecDepth 100000
theorem zug1 {c l o z : Nat} (h : l < c) : offOf c l o z = o + l * z := by
  unfold offOf
  have : Nat.beq c l = false := by
    cases hb : Nat.beq c l with
    | false => rfl
    | true => have := Nat.eq_of_beq_eq_true hb; omega
  rw [this]
theorem sl_lo {L : Lk} {t e z : Nat} {i o n c : Nat} {op : Bool} {p : Nat} (ht : L.under t = some (.slice e)) (hz : L.size e = some z) (h0 : p ≤ n) (h1 : n ≤ c) (h2 : p < c) :
    zkc L t true false false [.sl i o n c op, .int .i64 (p : Nat)] = some (.sl i (o + p * z) (n - p) (c - p) op) := by
  show zbe L t (.sl i o n c op) (some (.int .i64 (.ofNat p))) none none = _
  unfold zbe
  rw [ht]
  show (match L.size e with | none => none | some z => (match some n with
        | none => none
        | some h => match Nat.ble p h && Nat.ble h c with
            | true => (match op with
              | false => some (AV.sl i (offOf c p o z) (h - p) (c - p) false)
              | true => match Nat.beq c p with
                | true => none
                | false => some (AV.sl i (o + p * z) (h - p) (c - p) true))
            | false => none)) = _
  rw [hz]
  simp only
  rw [show Nat.ble p n = true from Nat.ble_eq_true_of_le h0, show Nat.ble n c = true from Nat.ble_eq_true_of_le h1]
  have hb : Nat.beq c p = false := by
    cases hb : Nat.beq c p with
    | false => rfl
    | true => have := Nat.eq_of_beq_eq_true hb; omega
  cases op with
  | false => simp only [Bool.and_self, zug1 h2]
  | true => simp only [Bool.and_self, hb]
set_option maxHeartbeats 4000000 in
theorem insA (H : AH) (b n p j q c2 : Nat) (op2 : Bool) (l : List AV) (cv : Ce) (hp : p < n) (hl : l.length = n * 44) (hn : (n + 1) * 152 ≤ 140737488355328) (hr : Row H b false false 87 44 l) (hb : b < H.next) (hv : H.subC j q 44 = some cv) (hcl : cv.l.length = 44) (hone : cv.one = true) (hj : j < H.next) (hone2 : l.all AV.oneCell = true) (hlo : H.lo ≤ H.next) (hh : H.hide = []) :
    FnE lookI 294 [.sl b 0 n n false, .int .i64 (p : Nat), .sl j q 1 c2 op2] H fun r H' => r = .sl H.next 0 (n + 1) (n + 1) true ∧ Row H' H.next false true 87 44 (l.take (p * 44) ++ cv.l ++ l.drop (p * 44)) ∧ HX H H' ∧ H'.next = H.next + 1 := by
  refine zzc zvd1 noextI rfl ?_
  unfold f294c
  obtain ⟨H1, ha, hx1, hn1, hr1⟩ := app_z (L := lookI) (t := 24) (t' := 3) (H := H) (i := b) (o := 0) (l := p) (c := n) (n := n + 1 - p) uR uN zR bR zvR zlR (by decide) hr (by rw [hl]; omega) (by omega) (by rw [show p + (n + 1 - p) = n + 1 from by omega]; exact hn) (by omega) (zjd1 _) hh
  rw [show p + (n + 1 - p) = n + 1 from by omega] at ha
  have hcast : ((n + 1 - p : Nat) : Int) = (n : Int) + 1 - (p : Int) := by omega
  rw [hcast] at ha
  have hx01 : H.next < H1.next := by omega
  have hh1 : H1.hide = [] := hx1.hide.trans hh
  have hA : (l.take (p * 44)).length = p * 44 := by rw [List.length_take, hl]; omega
  obtain ⟨zs, hzs, hzl⟩ : ∃ zs, zs = (Ce.repC zv.cells (n + 1 - p)).l ∧ zs.length = (n + 1 - p) * 44 := ⟨_, rfl, by rw [Ce.repC_l, zed, zlR]⟩
  rw [← hzs, List.drop_zero] at hr1
  have min1 : minN 1 (n + 1 - p) = 1 := by unfold minN; rw [show Nat.ble 1 (n + 1 - p) = true from Nat.ble_eq_true_of_le (by omega)]
  have hsv : zac 44 (.sl j q 1 c2 op2) (minN 1 (n + 1 - p)) H1 = some cv := by
    rw [min1]
    show AH.subC H1 j q (1 * 44) = _
    rw [Nat.one_mul, ← hv]
    unfold AH.subC
    rw [hx1.get hj]
  obtain ⟨H2, hc1, hr2, hp2, hn2⟩ := zra1 (L := lookI) (ts := []) (t := 24) (t' := 24) (e := 87) (H := H1) (i := H.next) (o := p * 44) (n := n + 1 - p) (c := n + 1 - p) (op := true) (x := .sl j q 1 c2 op2) (m := 1) (new := cv) uR zR rfl hsv hr1 hh1 (by rw [hx1.lo]; exact hlo) hone (by rw [List.length_append, hA, hzl, hcl]; omega)
  have er2 : (l.take (p * 44) ++ zs).take (p * 44) ++ cv.l ++ (l.take (p * 44) ++ zs).drop (p * 44 + cv.l.length) = l.take (p * 44) ++ cv.l ++ zs.drop 44 := by
    rw [List.take_append_of_le_length (by omega), List.take_of_length_le (by omega), List.drop_append, List.drop_of_length_le (by omega), hA, hcl]
    simp
  rw [er2] at hr2
  have hh2 : H2.hide = [] := hp2.hide.trans hh1
  have hrb : Row H2 b false false 87 44 l := (hr.hx hx1 hb).hp hp2 (by omega) (by omega)
  obtain ⟨nw, hs2, hnl⟩ := zuw (z := 44) (i := b) (o := p * 44) (n := n - p) (m := n - p) (c := n - p) (op := false) hrb (by rw [hl]; omega)
  have hnl : nw.l = l.drop (p * 44) := by
    rw [hnl, List.take_of_length_le]
    rw [List.length_drop, hl]; omega
  have hnll : nw.l.length = (n - p) * 44 := by rw [hnl, List.length_drop, hl]; omega
  have one2 : nw.one = true := by
    cases nw with
    | lst x =>
      have hx : x = l.drop (p * 44) := hnl
      show x.all AV.oneCell = true
      rw [hx, List.all_eq_true]
      exact fun v hv => List.all_eq_true.1 hone2 v (List.mem_of_mem_drop hv)
    | byt n N => rfl
  have min2 : minN (n - p) (n + 1 - (p + 1)) = n - p := by unfold minN; rw [show Nat.ble (n - p) (n + 1 - (p + 1)) = true from Nat.ble_eq_true_of_le (by omega)]
  obtain ⟨H3, hc2, hr3, hp3, hn3⟩ := zra1 (L := lookI) (ts := []) (t := 24) (t' := 24) (e := 87) (H := H2) (i := H.next) (o := (p + 1) * 44) (n := n + 1 - (p + 1)) (c := n + 1 - (p + 1)) (op := true) (x := .sl b (p * 44) (n - p) (n - p) false) (m := n - p) (new := nw) uR zR rfl (by rw [min2]; exact hs2) hr2 hh2 (by rw [hp2.lo, hx1.lo]; exact hlo) one2 (by rw [List.length_append, List.length_append, hA, List.length_drop, hzl, hcl, hnll]; omega)
  have er3 : (l.take (p * 44) ++ cv.l ++ zs.drop 44).take ((p + 1) * 44) ++ nw.l ++ (l.take (p * 44) ++ cv.l ++ zs.drop 44).drop ((p + 1) * 44 + nw.l.length) = l.take (p * 44) ++ cv.l ++ l.drop (p * 44) := by
    have h1 : (l.take (p * 44) ++ cv.l).length = (p + 1) * 44 := by rw [List.length_append, hA, hcl]; omega
    rw [List.take_append_of_le_length (by omega), List.take_of_length_le (by omega), List.drop_of_length_le (by rw [List.length_append, h1, List.length_drop, hzl, hnll]; omega), hnl, List.append_nil]
  rw [er3] at hr3
  have hx3 : HX H H3 := (((hx1.hp fun _ => True).trans hp2 (r := fun _ => True) fun i hi _ => ⟨trivial, by omega⟩).trans hp3 (r := fun _ => True) fun i hi _ => ⟨trivial, by omega⟩).hx fun _ _ => trivial
  have qc := fun H' => cp b n H' n
  have ql := ln
  have q1 : zkc lookI 24 true false false [.sl b 0 n n false, .int .i64 (p : Nat)] = some (.sl b (p * 44) (n - p) (n - p) false) := by
    rw [sl_lo uR zR (by omega) (Nat.le_refl _) hp, Nat.zero_add]
  have q2 : zkc lookI 24 false true false [.sl b 0 n n false, .int .i64 (p : Nat)] = some (.sl b 0 p n false) := by
    rw [sl_hi uR zR (by omega) (by omega)]; rfl
  have q3 : zkc lookI 24 true false false [.sl H.next 0 (n + 1) (n + 1) true, .int .i64 (p : Nat)] = some (.sl H.next (p * 44) (n + 1 - p) (n + 1 - p) true) := by
    rw [sl_lo uR zR (by omega) (Nat.le_refl _) (by omega), Nat.zero_add]
  have q4 : zkc lookI 24 true false false [.sl H.next 0 (n + 1) (n + 1) true, .int .i64 ((p : Int) + ((1 : Nat) : Int))] = some (.sl H.next ((p + 1) * 44) (n + 1 - (p + 1)) (n + 1 - (p + 1)) true) := by
    have := @sl_lo lookI 24 87 44 H.next 0 (n + 1) (n + 1) true (p + 1) uR zR (by omega) (Nat.le_refl _) (by omega)
    rw [Nat.zero_add] at this
    exact this
  (repeat' (first | refine Z ?_ | refine Zq ?_ | refine zba (by decide) ?_ | ((first | refine' Y ?_ ?_ | refine' X ?_ ?_ ?_); rotate_left; (· (first | (simp (disch := omega) only [evl, Nat.reduceEqDiff, Nat.reduceAdd, reduceIte, reduceCtorEq, qc, ql, q1, q2, q3, q4] <;> exact rfl) | exact rfl)); all_goals try (refine fun (hb : _ = _) => ?_; try simp only [Zu, ne_eq, reduceCtorEq] at hb)) | (apply zca; · simp [evl])))
  refine rk_hn (by (simp (disch := omega) only [evl, Nat.reduceEqDiff, Nat.reduceAdd, reduceIte, reduceCtorEq]); exact ha) ?_
  simp only [zxa]
  (repeat' (first | refine Z ?_ | refine Zq ?_ | refine zba (by decide) ?_ | ((first | refine' Y ?_ ?_ | refine' X ?_ ?_ ?_); rotate_left; (· (first | (simp (disch := omega) only [evl, Nat.reduceEqDiff, Nat.reduceAdd, reduceIte, reduceCtorEq, qc, ql, q1, q2, q3, q4] <;> exact rfl) | exact rfl)); all_goals try (refine fun (hb : _ = _) => ?_; try simp only [Zu, ne_eq, reduceCtorEq] at hb)) | (apply zca; · simp [evl])))
  refine rk_hn (by (simp (disch := omega) only [evl, Nat.reduceEqDiff, Nat.reduceAdd, reduceIte, reduceCtorEq]); exact hc1) ?_
  simp only [zxa]
  (repeat' (first | refine Z ?_ | refine Zq ?_ | refine zba (by decide) ?_ | ((first | refine' Y ?_ ?_ | refine' X ?_ ?_ ?_); rotate_left; (· (first | (simp (disch := omega) only [evl, Nat.reduceEqDiff, Nat.reduceAdd, reduceIte, reduceCtorEq, qc, ql, q1, q2, q3, q4] <;> exact rfl) | exact rfl)); all_goals try (refine fun (hb : _ = _) => ?_; try simp only [Zu, ne_eq, reduceCtorEq] at hb)) | (apply zca; · simp [evl])))
  refine rk_hn (by (simp (disch := omega) only [evl, Nat.reduceEqDiff, Nat.reduceAdd, reduceIte, reduceCtorEq]); exact hc2) ?_
  simp only [zxa]
  (repeat' (first | refine Z ?_ | refine Zq ?_ | refine zba (by decide) ?_ | ((first | refine' Y ?_ ?_ | refine' X ?_ ?_ ?_); rotate_left; (· (first | (simp (disch := omega) only [evl, Nat.reduceEqDiff, Nat.reduceAdd, reduceIte, reduceCtorEq] <;> exact rfl) | exact rfl)); all_goals try (refine fun (hb : _ = _) => ?_; try simp only [Zu, ne_eq, reduceCtorEq] at hb)) | (apply zca; · simp [evl])))
  refine zdb ?_; refine zae (zwe _ _) ⟨?_, hr3, hx3, by omega⟩
  (simp (disch := omega) only [evl, Nat.reduceEqDiff, Nat.reduceAdd, reduceIte, reduceCtorEq])
end HS.Ins
open Go Go.Proofs Go.RowKit
namespace HS.Ins
open Go.Ev
open Ra Rb Rc Rd Re Rf Rg Rh Ri Rj Rk Rl Rm Rn Ro Rp Rq Rr
set_option maxRecDepth 100000
theorem ovF (H : AH) (i o n c j p m d : Nat) (op oq : Bool) {ci cj : Ce} {ei ej zi zj : Nat} {opi opj : Bool} (hij : i ≠ j) (hi : H.get i = some (.cells ci ei zi opi false)) (hj : H.get j = some (.cells cj ej zj opj false)) (hz : zi ≠ 1) (ho : o < ci.l.length) (hl : 0 < cj.l.length) :
    FnE lookI 341 [.sl i o n c op, .sl j p m d oq] H fun r H' => r = .bool false ∧ H' = H := by
  refine zhd1 (show lookI.ext 341 = some xOver from rfl) ?_
  have h1 : Nat.beq i j = false := by
    cases hb : Nat.beq i j with
    | false => rfl
    | true => exact absurd (Nat.eq_of_beq_eq_true hb) hij
  have h2 : Nat.beq zi 1 = false := by
    cases hb : Nat.beq zi 1 with
    | false => rfl
    | true => exact absurd (Nat.eq_of_beq_eq_true hb) hz
  show (match Nat.beq i j, H.get i, H.get j with
    | false, some (.cells ci _ zi _ false), some (.cells cj _ _ _ false) => (match Nat.beq zi 1, Nat.blt o ci.len, Nat.blt 0 cj.len with
      | false, true, true => some (AV.bool false, H)
      | _, _, _ => none)
    | _, _, _ => none) = _
  rw [h1, hi, hj]
  simp only
  rw [h2, show Nat.blt o ci.len = true from by rw [Nat.blt_eq, Ce.len_l]; exact ho, show Nat.blt 0 cj.len = true from by rw [Nat.blt_eq, Ce.len_l]; exact hl]
set_option maxHeartbeats 4000000 in
theorem insB (H : AH) (b n p x j q c2 : Nat) (op2 : Bool) (l rs : List AV) (cv cj : Ce) (ej zj : Nat) (opj : Bool) (hp : p < n) (hx : 0 < x) (hl : l.length = n * 44) (hrs : rs.length = x * 44) (hbig : n ≤ 1000000) (hr : Row H b false false 87 44 (l ++ rs)) (hv : H.subC j q 44 = some cv) (hcl : cv.l.length = 44) (hone : cv.one = true) (hjg : H.get j = some (.cells cj ej zj opj false)) (hjz : zj ≠ 1) (hq : q < cj.l.length) (hjb : j ≠ b) (hbn : b < H.next) (hjn : j < H.next) (hone2 : l.all AV.oneCell = true) (hlo : H.lo ≤ b) (hh : H.hide = []) :
    FnE lookI 294 [.sl b 0 n (n + x) false, .int .i64 (p : Nat), .sl j q 1 c2 op2] H fun r H' => r = .sl b 0 (n + 1) (n + x) false ∧ Row H' b false false 87 44 (l.take (p * 44) ++ cv.l ++ l.drop (p * 44) ++ rs.drop 44) ∧ HP (· ≠ b) H H' ∧ H'.next = H.next := by
  refine zzc zvd1 noextI rfl ?_
  unfold f294c
  have hA : (l.take (p * 44)).length = p * 44 := by rw [List.length_take, hl]; omega
  have hD : (l.drop (p * 44)).length = (n - p) * 44 := by rw [List.length_drop, hl]; omega
  have min2 : minN (n + 1 - p) (n + 1 - (p + 1)) = n - p := by
    unfold minN
    split
    · next h => have := Nat.le_of_ble_eq_true h; omega
    · omega
  obtain ⟨nw, hs2, hnl⟩ := zuw (z := 44) (i := b) (o := p * 44) (n := n - p) (m := n + 1 - p) (c := n + x - p) (op := false) hr (by rw [List.length_append, hl, hrs]; omega)
  have hnl : nw.l = l.drop (p * 44) := by
    rw [hnl, List.drop_append_of_le_length (by omega), List.take_append_of_le_length (by omega), List.take_of_length_le (by omega)]
  have hnll : nw.l.length = (n - p) * 44 := by rw [hnl, hD]
  have one2 : nw.one = true := by
    cases nw with
    | lst y =>
      have hy : y = l.drop (p * 44) := hnl
      show y.all AV.oneCell = true
      rw [hy, List.all_eq_true]
      exact fun v hv => List.all_eq_true.1 hone2 v (List.mem_of_mem_drop hv)
    | byt n N => rfl
  obtain ⟨H2, hc1, hr2, hp2, hn2⟩ := zra1 (L := lookI) (ts := []) (t := 24) (t' := 24) (e := 87) (H := H) (i := b) (o := (p + 1) * 44) (n := n + 1 - (p + 1)) (c := n + x - (p + 1)) (op := false) (x := .sl b (p * 44) (n + 1 - p) (n + x - p) false) (m := n + 1 - p) (new := nw) uR zR rfl (by rw [min2]; exact hs2) hr hh hlo one2 (by rw [List.length_append, hl, hrs, hnll]; omega)
  have hh2 : H2.hide = [] := hp2.hide.trans hh
  have hT : ((l ++ rs).take ((p + 1) * 44)).length = (p + 1) * 44 := by rw [List.length_take, List.length_append, hl, hrs]; omega
  have min1 : minN 1 (n + 1 - p) = 1 := by unfold minN; rw [show Nat.ble 1 (n + 1 - p) = true from Nat.ble_eq_true_of_le (by omega)]
  have hsv : zac 44 (.sl j q 1 c2 op2) (minN 1 (n + 1 - p)) H2 = some cv := by
    rw [min1]
    show AH.subC H2 j q (1 * 44) = _
    rw [Nat.one_mul, ← hv]
    unfold AH.subC
    rw [hp2.get hjn hjb]
  obtain ⟨H3, hc2, hr3, hp3, hn3⟩ := zra1 (L := lookI) (ts := []) (t := 24) (t' := 24) (e := 87) (H := H2) (i := b) (o := p * 44) (n := n + 1 - p) (c := n + x - p) (op := false) (x := .sl j q 1 c2 op2) (m := 1) (new := cv) uR zR rfl hsv hr2 hh2 (by rw [hp2.lo]; exact hlo) hone (by rw [List.length_append, List.length_append, hT, hnll, hcl]; omega)
  have er : ((l ++ rs).take ((p + 1) * 44) ++ nw.l ++ (l ++ rs).drop ((p + 1) * 44 + nw.l.length)).take (p * 44) ++ cv.l ++ ((l ++ rs).take ((p + 1) * 44) ++ nw.l ++ (l ++ rs).drop ((p + 1) * 44 + nw.l.length)).drop (p * 44 + cv.l.length) = l.take (p * 44) ++ cv.l ++ l.drop (p * 44) ++ rs.drop 44 := by
    have e1 : ((l ++ rs).take ((p + 1) * 44) ++ nw.l ++ (l ++ rs).drop ((p + 1) * 44 + nw.l.length)).take (p * 44) = l.take (p * 44) := by
      rw [List.append_assoc, List.take_append_of_le_length (by omega), List.take_take, Nat.min_eq_left (by omega), List.take_append_of_le_length (by omega)]
    have e2 : ((l ++ rs).take ((p + 1) * 44) ++ nw.l ++ (l ++ rs).drop ((p + 1) * 44 + nw.l.length)).drop (p * 44 + cv.l.length) = l.drop (p * 44) ++ rs.drop 44 := by
      rw [hcl, show p * 44 + 44 = (p + 1) * 44 from by omega, List.append_assoc, List.drop_append_of_le_length (by omega), List.drop_of_length_le (by omega), List.nil_append, hnl, hD]
      congr 1
      rw [List.drop_append, List.drop_of_length_le (by omega), List.nil_append]
      congr 1
      omega
    rw [e1, e2, List.append_assoc]
    simp [List.append_assoc]
  rw [er] at hr3
  obtain ⟨cb, hbg, hbl⟩ := hr
  have hov := ovF H j q 1 c2 b ((p + 1) * 44) (n + 1 - (p + 1)) (n + x - (p + 1)) op2 false hjb hjg hbg hjz hq (by rw [hbl, List.length_append, hl]; omega)
  have qc := fun H' => cp b n H' (n + x)
  have ql := ln
  have q1 : zkc lookI 24 true false false [.sl b 0 n (n + x) false, .int .i64 (p : Nat)] = some (.sl b (p * 44) (n - p) (n + x - p) false) := by
    rw [sl_lo uR zR (by omega) (by omega) (by omega), Nat.zero_add]
  have q5 : zkc lookI 24 false true false [.sl b 0 n (n + x) false, .int .i64 ((n : Int) + ((1 : Nat) : Int))] = some (.sl b 0 (n + 1) (n + x) false) := by
    rw [sl_hi uR zR (by omega) (by omega)]; rfl
  have q6 : zkc lookI 24 true false false [.sl b 0 (n + 1) (n + x) false, .int .i64 ((p : Int) + ((1 : Nat) : Int))] = some (.sl b ((p + 1) * 44) (n + 1 - (p + 1)) (n + x - (p + 1)) false) := by
    have := @sl_lo lookI 24 87 44 b 0 (n + 1) (n + x) false (p + 1) uR zR (by omega) (by omega) (by omega)
    rw [Nat.zero_add] at this
    exact this
  have q7 : zkc lookI 24 true false false [.sl b 0 (n + 1) (n + x) false, .int .i64 (p : Nat)] = some (.sl b (p * 44) (n + 1 - p) (n + x - p) false) := by
    rw [sl_lo uR zR (by omega) (by omega) (by omega), Nat.zero_add]
  (repeat' (first | refine Z ?_ | refine Zq ?_ | refine zba (by decide) ?_ | ((first | refine' Y ?_ ?_ | refine' X ?_ ?_ ?_); rotate_left; (· (first | (simp (disch := omega) only [evl, Nat.reduceEqDiff, Nat.reduceAdd, reduceIte, reduceCtorEq, qc, ql, q1, q5, q6, q7] <;> exact rfl) | exact rfl)); all_goals try (refine fun (hb : _ = _) => ?_; try simp only [Zu, ne_eq, reduceCtorEq] at hb)) | (apply zca; · simp [evl])))
  refine rk_cl (by (simp (disch := omega) only [evl, Nat.reduceEqDiff, Nat.reduceAdd, reduceIte, reduceCtorEq]); exact hov) ?_
  rintro r H1 ⟨rfl, rfl⟩
  simp only [zxa]
  (repeat' (first | refine Z ?_ | refine Zq ?_ | refine zba (by decide) ?_ | ((first | refine' Y ?_ ?_ | refine' X ?_ ?_ ?_); rotate_left; (· (first | (simp (disch := omega) only [evl, Nat.reduceEqDiff, Nat.reduceAdd, reduceIte, reduceCtorEq, qc, ql, q1, q5, q6, q7] <;> exact rfl) | exact rfl)); all_goals try (refine fun (hb : _ = _) => ?_; try simp only [Zu, ne_eq, reduceCtorEq] at hb)) | (apply zca; · simp [evl])))
  refine rk_hn (by (simp (disch := omega) only [evl, Nat.reduceEqDiff, Nat.reduceAdd, reduceIte, reduceCtorEq]); exact hc1) ?_
  simp only [zxa]
  (repeat' (first | refine Z ?_ | refine Zq ?_ | refine zba (by decide) ?_ | ((first | refine' Y ?_ ?_ | refine' X ?_ ?_ ?_); rotate_left; (· (first | (simp (disch := omega) only [evl, Nat.reduceEqDiff, Nat.reduceAdd, reduceIte, reduceCtorEq, qc, ql, q1, q5, q6, q7] <;> exact rfl) | exact rfl)); all_goals try (refine fun (hb : _ = _) => ?_; try simp only [Zu, ne_eq, reduceCtorEq] at hb)) | (apply zca; · simp [evl])))
  refine rk_hn (by (simp (disch := omega) only [evl, Nat.reduceEqDiff, Nat.reduceAdd, reduceIte, reduceCtorEq]); exact hc2) ?_
  simp only [zxa]
  (repeat' (first | refine Z ?_ | refine Zq ?_ | refine zba (by decide) ?_ | ((first | refine' Y ?_ ?_ | refine' X ?_ ?_ ?_); rotate_left; (· (first | (simp (disch := omega) only [evl, Nat.reduceEqDiff, Nat.reduceAdd, reduceIte, reduceCtorEq] <;> exact rfl) | exact rfl)); all_goals try (refine fun (hb : _ = _) => ?_; try simp only [Zu, ne_eq, reduceCtorEq] at hb)) | (apply zca; · simp [evl])))
  refine zdb ?_; refine zae (zwe _ _) ⟨?_, hr3, hp2.trans hp3 fun _ _ h => ⟨h, h⟩, by omega⟩
  (simp (disch := omega) only [evl, Nat.reduceEqDiff, Nat.reduceAdd, reduceIte, reduceCtorEq])
end HS.Ins
open Go Go.Proofs Go.RowKit
namespace HS.Ins
open Go.Ev
open Ra Rb Rc Rd Re Rf Rg Rh Ri Rj Rk Rl Rm Rn Ro Rp Rq Rr
set_option maxRecDepth 100000
noncomputable def insL (l v : List AV) (k : Nat) : List AV := l.take k ++ v ++ l.drop k
noncomputable def xInsert : XFn := fun args H => match args with
  | [.sl b 0 n c true, .int .i64 (.ofNat p), .sl j q 1 c2 op2] => (match H.hide with
    | [] => (match Nat.ble H.lo b, Nat.beq j b, H.get b, H.get j, H.subC j q 44 with
      | true, false, some (.cells cb e z true false), some (.cells cj ej zj opj false), some cv =>
        (match (Nat.beq n c && Nat.blt p n && Nat.beq e 87 && Nat.beq z 44 && Nat.beq cb.len (n * 44)) && (!Nat.beq zj 1 && Nat.beq cv.len 44 && cv.one && cb.l.all AV.oneCell && Nat.blt q cj.len && Nat.ble n 1000000) with
        | true => some (.sl H.next 0 (n + 1) (n + 1) true, (H.drop b).new (.cells (.lst (insL cb.l cv.l (p * 44))) 87 44 true false))
        | false => none)
      | _, _, _, _, _ => none)
    | _ :: _ => none)
  | _ => none
theorem puR : Tryz.prog.underlying 24 = some (.slice 87) := by kernel_rfl
theorem pzR (w : World) : (Go.sizeOf 87).run Tryz.prog w = .ok 44 w := zeb lookI_ok.toLOk0 zR w
theorem overR (B : Nat) : XOk Tryz.prog B 341 xOver := by
  have h := @ztg1 Tryz.prog B 341 24 4 87 44 bOv puR pzR
  exact h
theorem ztr (B : Nat) : ExtOk lookI Tryz.prog B := by
  exact zpa1 (fun p hp => by
    rcases List.mem_singleton.1 hp with rfl
    exact overR B)
end HS.Ins
open Go Go.Proofs Go.RowKit
namespace HS.Ins
open Go.Ev
open Ra Rb Rc Rd Re Rf Rg Rh Ri Rj Rk Rl Rm Rn Ro Rp Rq Rr
set_option maxRecDepth 100000
theorem BRel.cells_l {E : Env} {i e z : Nat} {op ro : Bool} {c c' : Ce} {w : World} (h : BRel E i (.cells c e z op ro) w) (hc : c'.l = c.l) : BRel E i (.cells c' e z op ro) w := by
  obtain ⟨cs, e', fz, h1, h2, h3⟩ := h
  refine ⟨cs, e', fz, h1, ?_, ?_⟩
  · rw [hc]; exact h2
  · rw [hc]; exact h3
theorem zur {H HB H' : AH} {b : Nat} {X : ABlk} (hw : H.Wf) (hw2 : H'.Wf) (hb : b < H.next) (h1 : ∀ k, k < H.next → k ≠ b → H'.tree.get k = H.tree.get k) (hn : H'.next ≤ H.next + 1) (k : Nat) :
    ((H.drop b).new X).tree.get k = if k = H.next then some X else if k = b then some .defd else (if k < H.next then H'.tree.get k else none) := by
  show ((H.tree.set b .defd).set H.next X).get k = _
  rw [Tr.get_set, Tr.get_set]
  split
  · rfl
  · next hk =>
    split
    · rfl
    · next hk2 =>
      split
      · next hk3 => rw [h1 k hk3 hk2]
      · next hk3 =>
        cases hx : H.tree.get k with
        | none => rfl
        | some y => exact absurd (hw.tree k y hx) (by omega)
set_option maxHeartbeats 4000000 in
theorem xInsert_ok (B : Nat) : XOk Tryz.prog B 294 xInsert := by
  intro args H pp hp E w us hw hS hus
  unfold xInsert at hp
  split at hp
  · next b n c p j q c2 op2 =>
    split at hp
    · next hh =>
      split at hp
      · next cb e z cj ej zj opj cv hlo hji hg hgj hsub =>
        split at hp
        · next hcond =>
          cases hp
          simp only [Bool.and_eq_true, Bool.not_eq_true'] at hcond
          obtain ⟨⟨⟨⟨⟨hnc, hpn⟩, he⟩, hz⟩, hlen⟩, ⟨⟨⟨⟨⟨hzj, hcl⟩, hone⟩, hone2⟩, hq⟩, hbig⟩⟩ := hcond
          have hnc := Nat.eq_of_beq_eq_true hnc
          have he := Nat.eq_of_beq_eq_true he
          have hz := Nat.eq_of_beq_eq_true hz
          have hlen := Nat.eq_of_beq_eq_true hlen
          have hcl := Nat.eq_of_beq_eq_true hcl
          rw [Ce.len_l] at hlen hcl
          rw [Nat.blt_eq] at hpn hq
          rw [Ce.len_l] at hq
          have hbig := Nat.le_of_ble_eq_true hbig
          have hlo := Nat.le_of_ble_eq_true hlo
          have hzj : zj ≠ 1 := fun h => by subst h; rw [Nat.beq_refl] at hzj; cases hzj
          have hjb : j ≠ b := fun h => by subst h; rw [Nat.beq_refl] at hji; cases hji
          subst hnc he hz
          have hi := hw.get_lt hg
          have hj := hw.get_lt hgj
          have hvis := (AH.get_some.1 hg).1
          obtain ⟨rs, hrl, hrE, hS1, hP1, hw1⟩ := zyb1 hw hS hg hlo
          have hgB : ∀ k, (H.put b (.cells (.lst (cb.l ++ rs)) 87 44 false false)).get k = if k = b then some (.cells (.lst (cb.l ++ rs)) 87 44 false false) else H.get k := fun k => AH.put_get hvis _ k
          have hnB : (H.put b (.cells (.lst (cb.l ++ rs)) 87 44 false false)).next = H.next := rfl
          have hlB : (H.put b (.cells (.lst (cb.l ++ rs)) 87 44 false false)).lo = H.lo := rfl
          have hhB : (H.put b (.cells (.lst (cb.l ++ rs)) 87 44 false false)).hide = [] := hh
          have hzB : (H.put b (.cells (.lst (cb.l ++ rs)) 87 44 false false)).fz = H.fz := rfl
          have hpB : HP (· ≠ b) H (H.put b (.cells (.lst (cb.l ++ rs)) 87 44 false false)) := HP.put _ _ _
          generalize H.put b (.cells (.lst (cb.l ++ rs)) 87 44 false false) = HB at *
          have hr : Row HB b false false 87 44 (cb.l ++ rs) := ⟨_, (hgB b).trans (if_pos rfl), rfl⟩
          have hsB : HB.subC j q 44 = some cv := by
            unfold AH.subC at hsub ⊢
            rw [hgB j, if_neg hjb]; exact hsub
          have hgjB : HB.get j = some (.cells cj ej zj opj false) := (hgB j).trans ((if_neg hjb).trans hgj)
          have hcc : (Ce.lst (insL cb.l cv.l (p * 44))).l = cb.l.take (p * 44) ++ cv.l ++ cb.l.drop (p * 44) := rfl
          have hil : (insL cb.l cv.l (p * 44)).length = (n + 1) * 44 := by
            unfold insL
            rw [List.length_append, List.length_append, List.length_take, List.length_drop, hlen, hcl]; omega
          rcases Nat.eq_zero_or_pos (E b).extra with hx0 | hx0
          · -- no room
            have hrs : rs = [] := List.eq_nil_of_length_eq_zero (by rw [hrl, hx0, Nat.zero_mul])
            subst hrs
            rw [List.append_nil] at hr
            have hus' : StL E HB.next [.sl b 0 n n false, .int .i64 (p : Nat), .sl j q 1 c2 op2] us := fun E' hE => by
              rw [hus E' (by rw [hnB] at hE; exact hE)]
              have hei : E' b = E b := hE b (by rw [hnB]; exact hi)
              show [Value.slice (some ⟨(E' b).blk, (E' b).off + 0, none⟩) n (n + (E' b).extra), _, _] = [Value.slice (some ⟨(E' b).blk, (E' b).off + 0, none⟩) n (n + 0), _, _]
              rw [hei, hx0]
              rfl
            refine (zhm lookI_ok (ztr B) (insA HB b n p j q c2 op2 cb.l cv hpn hlen (by omega) hr (by rw [hnB]; exact hi) hsB hcl hone (by rw [hnB]; exact hj) hone2 (by rw [hlB, hnB]; exact hw.lo) hhB) E w us hw1 hS1 hus').ok ?_
            rintro v' H' u w1 ⟨rfl, ⟨cc, hg', hcc'⟩, hp', hn'⟩ ⟨E1, hv, hS2, hP2, hw2⟩
            rw [hnB] at hg' hn' hv
            have hh' : H'.hide = [] := hp'.hide.trans hhB
            have hlo' : H'.lo = H.lo := hp'.lo.trans hlB
            obtain ⟨cb', hgb, _⟩ := (hr.hx hp' (by rw [hnB]; exact hi))
            obtain ⟨hS3, hP3, hw3⟩ := zey hw2 hS2 hg' rfl (by rw [hlo']; exact hw.lo) (.cells (.lst (insL cb.l cv.l (p * 44))) 87 44 true false) (fun E' hE => BRel.cells_l ((hS2 E' hE).blk _ _ hg') (hcc.trans hcc'.symm))
            have hvn : H'.vis H.next = true := (AH.get_some.1 hg').1
            have hgb3 : (H'.put H.next (.cells (.lst (insL cb.l cv.l (p * 44))) 87 44 true false)).get b = some (.cells cb' 87 44 false false) := by
              rw [AH.put_get hvn, if_neg (by omega)]; exact hgb
            obtain ⟨hS4, hP4, hw4⟩ := zec1 hw3 hS3 hgb3 (by show H'.lo ≤ b; rw [hlo']; exact hlo)
            have hold : ∀ k, k < H.next → k ≠ b → H'.tree.get k = H.tree.get k := fun k hk hkb => by
              rw [hp'.old k (by rw [hnB]; exact hk), hpB.old k hk hkb]
            have htree : ∀ k, ((H.drop b).new (.cells (.lst (insL cb.l cv.l (p * 44))) 87 44 true false)).tree.get k = ((H'.put H.next (.cells (.lst (insL cb.l cv.l (p * 44))) 87 44 true false)).drop b).tree.get k := fun k => by
              rw [zur (HB := H') hw hw2 hi hold (by omega) k]
              show _ = ((H'.tree.set H.next _).set b .defd).get k
              rw [Tr.get_set, Tr.get_set]
              by_cases hk : k = H.next
              · rw [if_pos hk, if_neg (by omega), if_pos hk]
              · rw [if_neg hk]
                by_cases hk2 : k = b
                · rw [if_pos hk2, if_pos hk2]
                · rw [if_neg hk2, if_neg hk2, if_neg hk]
                  split
                  · rfl
                  · next hk3 =>
                    cases hx : H'.tree.get k with
                    | none => rfl
                    | some y => exact absurd (hw2.tree k y hx) (by omega)
            have hne : ((H.drop b).new (.cells (.lst (insL cb.l cv.l (p * 44))) 87 44 true false)).next = ((H'.put H.next (.cells (.lst (insL cb.l cv.l (p * 44))) 87 44 true false)).drop b).next := hn'.symm
            have hle : ((H.drop b).new (.cells (.lst (insL cb.l cv.l (p * 44))) 87 44 true false)).lo = ((H'.put H.next (.cells (.lst (insL cb.l cv.l (p * 44))) 87 44 true false)).drop b).lo := hlo'.symm
            have hhe : ((H.drop b).new (.cells (.lst (insL cb.l cv.l (p * 44))) 87 44 true false)).hide = ((H'.put H.next (.cells (.lst (insL cb.l cv.l (p * 44))) 87 44 true false)).drop b).hide := hh.trans hh'.symm
            have hze : ((H.drop b).new (.cells (.lst (insL cb.l cv.l (p * 44))) 87 44 true false)).fz = ((H'.put H.next (.cells (.lst (insL cb.l cv.l (p * 44))) 87 44 true false)).drop b).fz := (hp'.fz.trans hzB).symm
            have hget : ∀ k, ((H.drop b).new (.cells (.lst (insL cb.l cv.l (p * 44))) 87 44 true false)).get k = ((H'.put H.next (.cells (.lst (insL cb.l cv.l (p * 44))) 87 44 true false)).drop b).get k := fun k => by
              unfold AH.get AH.vis; rw [hhe, htree]
            have hwd : (H.drop b).Wf := AH.put_wf hw hi _
            refine ⟨E1, fun E' hE => hv E' fun k hk => hE k (by rw [hne]; exact hk), hS4.ext hne hget, (((hP1.trans hP2).trans hP3).trans hP4).ext2 hne hle hhe hze htree, AH.new_wf hwd _⟩
          · -- room
            obtain ⟨x, hx⟩ : ∃ x, x = (E b).extra := ⟨_, rfl⟩
            rw [← hx] at hrl hx0
            have hus' : StL E HB.next [.sl b 0 n (n + x) false, .int .i64 (p : Nat), .sl j q 1 c2 op2] us := fun E' hE => by
              rw [hus E' (by rw [hnB] at hE; exact hE)]
              have hei : E' b = E b := hE b (by rw [hnB]; exact hi)
              show [Value.slice (some ⟨(E' b).blk, (E' b).off + 0, none⟩) n (n + (E' b).extra), _, _] = [Value.slice (some ⟨(E' b).blk, (E' b).off + 0, none⟩) n (n + x + 0), _, _]
              rw [hei, hx]
              rfl
            refine (zhm lookI_ok (ztr B) (insB HB b n p x j q c2 op2 cb.l rs cv cj ej zj opj hpn hx0 hlen hrl hbig hr hsB hcl hone hgjB hzj hq hjb (by rw [hnB]; exact hi) (by rw [hnB]; exact hj) hone2 (by rw [hlB]; exact hlo) hhB) E w us hw1 hS1 hus').ok ?_
            rintro v' H' u w1 ⟨rfl, ⟨cc, hg', hcc'⟩, hp', hn'⟩ ⟨E1, hv, hS2, hP2, hw2⟩
            rw [hnB] at hn'
            have hh' : H'.hide = [] := hp'.hide.trans hhB
            have hlo' : H'.lo = H.lo := hp'.lo.trans hlB
            have hei : E1 b = E b := hP2.ext b (by rw [hnB]; exact hi)
            obtain ⟨cs, e0, fz, a1, a2, a3⟩ := hS2.self.blk b _ hg'
            have hrlen : (rs.drop 44).length = (x - 1) * 44 := by rw [List.length_drop, hrl]; omega
            have hmv := zic1 hw2 hS2 hg' rfl (by rw [hlo']; exact hlo) (.cells (.lst (insL cb.l cv.l (p * 44))) 87 44 true false) (.cells cs e0 fz) ⟨(E1 b).blk, (E1 b).off, x - 1⟩ rfl (fun r hr => by rw [a1] at hr; cases hr) (fun y off hy => by rw [a1] at hy; cases hy; rfl) (fun E' hE hn => by
              have hEb : E' b = E1 b := hE b (by rw [hn']; exact hi)
              rw [zeg a1]
              obtain ⟨ds, e2, fz2, k1, k2, k3⟩ := (hS2 E' hE).blk b _ hg'
              rw [hEb, a1] at k1
              cases k1
              obtain ⟨hf, hsz, _, hmk⟩ := k3 rfl
              rw [hEb] at hsz k2
              have hsz : cs.size = (E1 b).off + cc.l.length + 0 := hsz
              have hcl2 : cc.l = insL cb.l cv.l (p * 44) ++ rs.drop 44 := hcc'
              refine ⟨cs, e0, fz, by rw [hn]; exact a1, fun k v hk => ?_, fun _ => ⟨hf, ?_, fun _ k u hk hu => ?_, hmk⟩⟩
              · have hk : (insL cb.l cv.l (p * 44))[k]? = some v := hk
                rw [hn]
                refine k2 k v ?_
                rw [hcl2, List.getElem?_append_left (List.getElem?_eq_some_iff.1 hk).1]; exact hk
              · rw [hsz, hcl2, List.length_append, hn, hrlen]
                show _ = (E1 b).off + (insL cb.l cv.l (p * 44)).length + (x - 1) * 44
                omega
              · rw [hn] at hk
                have hk : (E1 b).off + (insL cb.l cv.l (p * 44)).length ≤ k := hk
                have hlt := (Array.getElem?_eq_some_iff.1 hu).1
                rw [hsz, hcl2, List.length_append] at hlt
                obtain ⟨d, hd⟩ : ∃ d, k = (E1 b).off + ((insL cb.l cv.l (p * 44)).length + d) := ⟨k - (E1 b).off - (insL cb.l cv.l (p * 44)).length, by omega⟩
                have hdl : d < (rs.drop 44).length := by omega
                have hget : cc.l[(insL cb.l cv.l (p * 44)).length + d]? = some ((rs.drop 44)[d]) := by
                  rw [hcl2, List.getElem?_append_right (by omega)]
                  rw [show (insL cb.l cv.l (p * 44)).length + d - (insL cb.l cv.l (p * 44)).length = d from by omega]
                  exact List.getElem?_eq_getElem hdl
                have h4 := k2 _ _ hget
                rw [← hd, hu] at h4
                refine ⟨(rs.drop 44)[d], fun E2 => ?_⟩
                have hfl : ∀ Ea Eb : Env, concL Ea (rs.drop 44) = concL Eb (rs.drop 44) := fun Ea Eb => by
                  have := (hrE Ea).trans (hrE Eb).symm
                  rw [zoc, zoc] at this ⊢
                  rw [List.map_drop, List.map_drop, this]
                have h5 := congrArg (fun l => l[d]?) (hfl E2 E')
                simp only [zda?] at h5
                rw [List.getElem?_eq_getElem hdl] at h5
                exact (Option.some.inj h5).trans (Option.some.inj h4).symm)
            rw [zeg a1] at hmv
            obtain ⟨hS3, hP3, hw3⟩ := hmv
            have hold : ∀ k, k < H.next → k ≠ b → H'.tree.get k = H.tree.get k := fun k hk hkb => by
              rw [hp'.old k (by rw [hnB]; exact hk) hkb, hpB.old k hk hkb]
            have htree : ∀ k, ((H.drop b).new (.cells (.lst (insL cb.l cv.l (p * 44))) 87 44 true false)).tree.get k = ((H'.drop b).new (.cells (.lst (insL cb.l cv.l (p * 44))) 87 44 true false)).tree.get k := fun k => by
              rw [zur (HB := H') hw hw2 hi hold (by omega) k]
              show _ = ((H'.tree.set b .defd).set H'.next _).get k
              rw [Tr.get_set, Tr.get_set, hn']
              split
              · rfl
              · split
                · rfl
                · split
                  · rfl
                  · next hk3 =>
                    cases hx : H'.tree.get k with
                    | none => rfl
                    | some y => exact absurd (hw2.tree k y hx) (by omega)
            have hne : ((H.drop b).new (.cells (.lst (insL cb.l cv.l (p * 44))) 87 44 true false)).next = ((H'.drop b).new (.cells (.lst (insL cb.l cv.l (p * 44))) 87 44 true false)).next := by
              show H.next + 1 = H'.next + 1
              rw [hn']
            have hle : ((H.drop b).new (.cells (.lst (insL cb.l cv.l (p * 44))) 87 44 true false)).lo = ((H'.drop b).new (.cells (.lst (insL cb.l cv.l (p * 44))) 87 44 true false)).lo := hlo'.symm
            have hhe : ((H.drop b).new (.cells (.lst (insL cb.l cv.l (p * 44))) 87 44 true false)).hide = ((H'.drop b).new (.cells (.lst (insL cb.l cv.l (p * 44))) 87 44 true false)).hide := hh.trans hh'.symm
            have hze : ((H.drop b).new (.cells (.lst (insL cb.l cv.l (p * 44))) 87 44 true false)).fz = ((H'.drop b).new (.cells (.lst (insL cb.l cv.l (p * 44))) 87 44 true false)).fz := (hp'.fz.trans hzB).symm
            have hget : ∀ k, ((H.drop b).new (.cells (.lst (insL cb.l cv.l (p * 44))) 87 44 true false)).get k = ((H'.drop b).new (.cells (.lst (insL cb.l cv.l (p * 44))) 87 44 true false)).get k := fun k => by
              unfold AH.get AH.vis; rw [hhe, htree]
            have hwd : (H.drop b).Wf := AH.put_wf hw hi _
            refine ⟨_, fun E' hE => ?_, hS3.ext hne hget, ((hP1.trans hP2).trans hP3).ext2 hne hle hhe hze htree, AH.new_wf hwd _⟩
            have hE2 : Agree (H'.next + 1) (E1.add H'.next ⟨(E1 b).blk, (E1 b).off, x - 1⟩) E' := fun k hk => hE k (by rw [hne]; exact hk)
            have hEn : E' H.next = ⟨(E1 b).blk, (E1 b).off, x - 1⟩ := by
              rw [← hn']
              exact (hE2 H'.next (Nat.lt_succ_self _)).trans (Env.add_self _ _ _)
            rw [hv E1 (Agree.refl _ _)]
            show Value.slice (some ⟨(E1 b).blk, (E1 b).off + 0, none⟩) (n + 1) (n + x + 0) = Value.slice (some ⟨(E' H.next).blk, (E' H.next).off + 0, none⟩) (n + 1) (n + 1 + (E' H.next).extra)
            rw [hEn]
            show Value.slice (some ⟨(E1 b).blk, (E1 b).off + 0, none⟩) (n + 1) (n + x + 0) = Value.slice (some ⟨(E1 b).blk, (E1 b).off + 0, none⟩) (n + 1) (n + 1 + (x - 1))
            rw [show n + x + 0 = n + 1 + (x - 1) from by omega]
        · cases hp
      · cases hp
    · cases hp
  · cases hp
end HS.Ins
namespace Go.Ev
open Go.RowKit
def zvr (G rt : Nat) : XFn := fun args H => match args with
  | [.ifc t _] => some (.ifc rt (.agg [.ext 2 G t]), H)
  | [.nilIfc] => some (.nilIfc, H)
  | _ => none
theorem zfy {P : Program} {B : Nat} {f G rt : Nat} (hf : Bare P f Extern.ReflectliteType.typeOf) (hG : P.globals.size = G) (hr : ∃ n, P.cutTypes.find? (·.1 == "internal/reflectlite.rtype") = some (n, rt)) : XOk P B f (zvr G rt) := by
  intro args H p hp E w us hw hS hus
  obtain ⟨nm, hr⟩ := hr
  unfold zvr at hp
  split at hp
  · next t v =>
    cases hp
    have hu := hus E (Agree.refl _ _)
    subst hu
    unfold CallOk
    have : (callFunc f (concL E [.ifc t v]).toArray).run P w = .ok (.value (.iface rt (.agg #[.pointer (some ⟨G, t, none⟩)]))) w := by
      refine hf.run ?_
      show (Extern.ReflectliteType.typeOf #[Value.iface t (conc E v)]).run P w = _
      have hi : Extern.ReflectliteType.typeOf #[Value.iface t (conc E v)] = Extern.ReflectliteType.toType t := rfl
      rw [hi]
      unfold Extern.ReflectliteType.toType cutType Extern.Rtype.handle typeHandle
      simp only [Sem.run_bind, program, Sem.run, Result.andThen_ok, hr, Sem.run_pure, hG]
    rw [this]
    exact Done.same hw hS (fun _ _ => rfl)
  · cases hp
    have hu := hus E (Agree.refl _ _)
    subst hu
    unfold CallOk
    have : (callFunc f (concL E [.nilIfc]).toArray).run P w = .ok (.value .nilIface) w := hf.run rfl
    rw [this]
    exact Done.same hw hS (fun _ _ => rfl)
  · cases hp
def zfg (G : Nat) (tab : List (Nat × Bool)) : XFn := fun args H => match args with
  | [.agg [.ext 2 g t]] => (match Nat.beq g G, tab.lookup t with | true, some b => some (.bool b, H) | _, _ => none)
  | _ => none
def eComp : Array Value → Sem Value := Extern.ReflectliteType.method fun t => do Extern.Rtype.noPackHeld "Comparable" t; pure (Value.bool (← typeInfo t).comparable)
theorem zgy {l : List (Nat × Bool)} {t : Nat} {b : Bool} (h : l.lookup t = some b) : (t, b) ∈ l := by
  induction l with
  | nil => cases h
  | cons p l ih =>
    obtain ⟨k, c⟩ := p
    rw [List.lookup_cons] at h
    split at h
    · next hk => have := eq_of_beq hk; subst this; cases h; exact List.mem_cons_self
    · exact List.mem_cons_of_mem _ (ih h)
theorem zkm {P : Program} {B : Nat} {f G : Nat} {tab : List (Nat × Bool)} {e : Array Value → Sem Value} (hf : Bare P f e)
    (ht : ∀ p ∈ tab, ∀ w, (e #[.agg #[.pointer (some ⟨G, p.1, none⟩)]]).run P w = .ok (.bool p.2) w) : XOk P B f (zfg G tab) := by
  intro args H p hp E w us hw hS hus
  unfold zfg at hp
  split at hp
  · next g t =>
    split at hp
    · next b hg hb =>
      cases hp
      have hg := Nat.eq_of_beq_eq_true hg
      subst hg
      have hu := hus E (Agree.refl _ _)
      subst hu
      unfold CallOk
      have : (callFunc f (concL E [.agg [.ext 2 g t]]).toArray).run P w = .ok (.value (.bool b)) w := hf.run (ht (t, b) (zgy hb) w)
      rw [this]
      exact Done.same hw hS (fun _ _ => rfl)
    · cases hp
  · cases hp
theorem cmp_nil {Q : Nat × Bool → Prop} : ∀ p ∈ ([] : List (Nat × Bool)), Q p := fun p h => by cases h
theorem zhy {P : Program} {e : Array Value → Sem Value} {G t : Nat} {b : Bool} {l : List (Nat × Bool)} (h : ∀ w, (e #[.agg #[.pointer (some ⟨G, t, none⟩)]]).run P w = .ok (.bool b) w)
    (hl : ∀ p ∈ l, ∀ w, (e #[.agg #[.pointer (some ⟨G, p.1, none⟩)]]).run P w = .ok (.bool p.2) w) : ∀ p ∈ (t, b) :: l, ∀ w, (e #[.agg #[.pointer (some ⟨G, p.1, none⟩)]]).run P w = .ok (.bool p.2) w := fun p hp => by
  rcases List.mem_cons.1 hp with rfl | hp
  · exact h
  · exact hl p hp
noncomputable def dLook (dl : List Nat) (f : Nat) : Bool := lrec (β := Bool) false (fun a _ ih => brec ih true (Nat.beq a f)) dl
noncomputable def lkD (P : Program) (fs : Tr Func) (ts : Tr TypeInfo) (tab : List (Nat × XFn)) (zl : List (Nat × Nat)) (dl : List Nat) : Lk :=
  { func := fun f => fs.get f, info := fun t => ts.get t, plainEq := fun t => !P.stoodInHeld t && !P.eqGuardType P.depth t, ext := fun f => xLook tab f, zt := fun t => zLook zl t, dfn := fun f => dLook dl f }
theorem lkD_ok {P : Program} {tab : List (Nat × XFn)} {zl : List (Nat × Nat)} {dl : List Nat} (hm : P.follows .mixedOrders = true) (hf : P.funcs.toList.all fitFn = true) (hz : zl.all (zFits P.types.toList) = true) : LOk (lkD P (Tr.ofList P.funcs.toList) (Tr.ofList P.types.toList) tab zl dl) P :=
  let h := zoa1 (tab := tab) hm hf hz
  ⟨⟨h.info, h.plainEq, h.zt⟩, h.func, h.mixed⟩
theorem zwr {P : Program} {fs : Tr Func} {ts : Tr TypeInfo} {tab : List (Nat × XFn)} {zl : List (Nat × Nat)} {dl : List Nat} {B : Nat} (h : ∀ p ∈ tab, XOk P B p.1 p.2) : ExtOk (lkD P fs ts tab zl dl) P B :=
  fun f g hg => h (f, g) (zcr hg)
noncomputable def trOf (l : List (Nat × XFn)) : Tr XFn := lrec (β := Tr XFn) Tr.nil (fun p _ t => t.set p.1 p.2) l
noncomputable def uTr (l : List Nat) : Tr Unit := lrec (β := Tr Unit) Tr.nil (fun k _ t => t.set k ()) l
noncomputable def lkT (P : Program) (fs : Tr Func) (ts : Tr TypeInfo) (tab : Tr XFn) (zl : List (Nat × Nat)) (dt : Tr Unit) : Lk :=
  { func := fun f => fs.get f, info := fun t => ts.get t, plainEq := fun t => !P.stoodInHeld t && !P.eqGuardType P.depth t, ext := fun f => tab.get f, zt := fun t => zLook zl t, dfn := fun f => orec false (fun _ => true) (dt.get f) }
theorem lkT_ok {P : Program} {tab : Tr XFn} {zl : List (Nat × Nat)} {dt : Tr Unit} (hm : P.follows .mixedOrders = true) (hf : P.funcs.toList.all fitFn = true) (hz : zl.all (zFits P.types.toList) = true) : LOk (lkT P (Tr.ofList P.funcs.toList) (Tr.ofList P.types.toList) tab zl dt) P :=
  let h := zoa1 (tab := []) hm hf hz
  ⟨⟨h.info, h.plainEq, h.zt⟩, h.func, h.mixed⟩
def TOk (P : Program) (t : Tr XFn) : Prop := ∀ B f g, t.get f = some g → XOk P B f g
theorem zxr {P : Program} {fs : Tr Func} {ts : Tr TypeInfo} {tab : Tr XFn} {zl : List (Nat × Nat)} {dt : Tr Unit} (h : TOk P tab) (B : Nat) : ExtOk (lkT P fs ts tab zl dt) P B :=
  fun f g hg => h B f g hg
theorem TOk.set {P : Program} {t : Tr XFn} {f : Nat} {g : XFn} (ht : TOk P t) (h : ∀ B, XOk P B f g) : TOk P (t.set f g) := fun B f' g' he => by
  rw [Tr.get_set] at he
  split at he
  · next e => subst e; cases he; exact h B
  · exact ht B f' g' he
theorem TOk.of {P : Program} : ∀ (l : List (Nat × XFn)), (∀ B, ∀ p ∈ l, XOk P B p.1 p.2) → TOk P (trOf l)
  | [], _ => fun B f g he => by
    have he : (Tr.nil : Tr XFn).get f = some g := he
    rw [Tr.get_nil] at he; cases he
  | p :: l, h => (TOk.of l fun B q hq => h B q (List.mem_cons_of_mem _ hq)).set fun B => h B p List.mem_cons_self
end Go.Ev
open Go Go.Proofs Go.RowKit
namespace HS
open Go.Ev
set_option maxRecDepth 1000000
noncomputable def zl : List (Nat × Nat) := [(69, 32), (70, 32), (208, 256), (209, 256), (487, 2), (488, 2), (489, 32)]
theorem hm0 : Tryz.prog.follows .mixedOrders = true := by kernel_rfl
theorem hf0 : Tryz.prog.funcs.toList.all fitFn = true := by kernel_rfl
theorem hz0 : zl.all (zFits Tryz.prog.types.toList) = true := by kernel_rfl
noncomputable def dl : List Nat := [148, 166, 167, 209, 211, 235, 259]
noncomputable def lk (tab : List (Nat × XFn)) : Lk := lkD Tryz.prog (Tr.ofList Tryz.prog.funcs.toList) (Tr.ofList Tryz.prog.types.toList) tab zl dl
theorem lk_ok (tab : List (Nat × XFn)) : LOk (lk tab) Tryz.prog := lkD_ok hm0 hf0 hz0
theorem zyd {P : Program} {B : Nat} {f : Nat} {g : XFn} {l : List (Nat × XFn)} (h : XOk P B f g) (hl : ∀ p ∈ l, XOk P B p.1 p.2) : ∀ p ∈ (f, g) :: l, XOk P B p.1 p.2 := fun p hp => by
  rcases List.mem_cons.1 hp with rfl | hp
  · exact h
  · exact hl p hp
theorem ziy {P : Program} {B f : Nat} {F : Fact} {l : List Fact} (h : XOk P B f F.fn) (hl : ∀ F ∈ l, XOk P B f F.fn) : ∀ G ∈ F :: l, XOk P B f G.fn := fun G hG => by
  rcases List.mem_cons.1 hG with rfl | hG
  · exact h
  · exact hl G hG
noncomputable def fI (n : Nat) : AV := .int .i64 (.ofNat n)
noncomputable def fI0 : AV := .int .i64 (.ofNat 0)
noncomputable def fB (n : Nat) : AV := .int .u8 (.ofNat n)
noncomputable def fB0 : AV := .int .u8 (.ofNat 0)
noncomputable def fU (n : Nat) : AV := .int .u64 (.ofNat n)
noncomputable def fU0 : AV := .int .u64 (.ofNat 0)
noncomputable def byL (n N : Nat) (r : List AV) : List AV := nrecF (α := Nat) (β := List AV) (fun _ => r) (fun _ ih N => zki (fun M => AV.int .u8 (.ofNat (Nat.mod N 256)) :: ih M) (Nat.div N 256)) n N
noncomputable def rpL (n : Nat) (a : AV) (r : List AV) : List AV := nrecF (α := Unit) (β := List AV) (fun _ => r) (fun _ ih u => a :: ih u) n ()
theorem s308 (B : Nat) : XOk Tryz.prog B 308 (Hs.xTurned) := Hs.xTurned_ok B
theorem s335 (B : Nat) : XOk Tryz.prog B 335 (znb1) := zob1 B
theorem s199 (B : Nat) : XOk Tryz.prog B 199 (zpr) := zvx B
theorem s368 (B : Nat) : XOk Tryz.prog B 368 (Tm.xTrim) := Tm.xTrim_ok B
theorem s294 (B : Nat) : XOk Tryz.prog B 294 (Ins.xInsert) := Ins.xInsert_ok B
theorem b231 : Bare Tryz.prog 231 Extern.ReflectliteType.typeOf := ⟨Tryz.f231, Tryz.func231, by kernel_rfl, by kernel_rfl, by kernel_rfl, by kernel_rfl⟩
theorem g231 : Tryz.prog.globals.size = 3 := by kernel_rfl
theorem c231 : Tryz.prog.cutTypes.find? (·.1 == "internal/reflectlite.rtype") = some ("internal/reflectlite.rtype", 391) := by kernel_rfl
theorem s231 (B : Nat) : XOk Tryz.prog B 231 (zvr 3 391) := by
  have h := @zfy Tryz.prog B 231 3 391 b231 g231 ⟨_, c231⟩
  exact h
theorem b426 : Bare Tryz.prog 426 eComp := ⟨Tryz.f426, Tryz.func426, by kernel_rfl, by kernel_rfl, by kernel_rfl, by kernel_rfl⟩
theorem c426_34 (w : World) : (eComp #[.agg #[.pointer (some ⟨3, 34, none⟩)]]).run Tryz.prog w = .ok (.bool true) w := by kernel_rfl
theorem zvg1 (w : World) : (eComp #[.agg #[.pointer (some ⟨3, 265, none⟩)]]).run Tryz.prog w = .ok (.bool true) w := by kernel_rfl
theorem s426 (B : Nat) : XOk Tryz.prog B 426 (zfg 3 [(34, true), (265, true)]) := by
  have h := @zkm Tryz.prog B 426 3 [(34, true), (265, true)] eComp b426 (@zhy Tryz.prog eComp 3 34 true _ c426_34 (@zhy Tryz.prog eComp 3 265 true _ zvg1 (cmp_nil)))
  exact h
theorem b257 : Bare Tryz.prog 257 Extern.BytealgIndexByte.indexByte := ⟨Tryz.f257, Tryz.func257, by kernel_rfl, by kernel_rfl, by kernel_rfl, by kernel_rfl⟩
theorem s257 (B : Nat) : XOk Tryz.prog B 257 (zeh) := by
  have h := @ztn Tryz.prog B 257 b257
  exact h
theorem b357 : Bare Tryz.prog 357 Extern.BytealgCompare.compare := ⟨Tryz.f357, Tryz.func357, by kernel_rfl, by kernel_rfl, by kernel_rfl, by kernel_rfl⟩
theorem s357 (B : Nat) : XOk Tryz.prog B 357 (zbm) := by
  have h := @zpt Tryz.prog B 357 b357
  exact h
noncomputable def tab0 : List (Nat × XFn) := [(308, Hs.xTurned), (335, znb1), (199, zpr), (368, Tm.xTrim), (294, Ins.xInsert), (231, zvr 3 391), (426, zfg 3 [(34, true), (265, true)]), (257, zeh), (357, zbm)]
theorem zjy (B : Nat) : ∀ p ∈ tab0, XOk Tryz.prog B p.1 p.2 := zyd (s308 B) (zyd (s335 B) (zyd (s199 B) (zyd (s368 B) (zyd (s294 B) (zyd (s231 B) (zyd (s426 B) (zyd (s257 B) (zyd (s357 B) (fun _ h => by cases h)))))))))
noncomputable def rgL (n a : Nat) (r : List AV) : List AV := nrecF (α := Nat) (β := List AV) (fun _ => r) (fun _ ih a => zki (fun b => fI b :: ih (Nat.add b 1)) a) n a
abbrev LT := Tr XFn
noncomputable def dT : Tr Unit := uTr dl
noncomputable def lkt (t : LT) : Lk := lkT Tryz.prog (Tr.ofList Tryz.prog.funcs.toList) (Tr.ofList Tryz.prog.types.toList) t zl dT
theorem lkt_ok (t : LT) : LOk (lkt t) Tryz.prog := lkT_ok hm0 hf0 hz0
noncomputable def T0 : LT := trOf tab0
abbrev LF := List Fact
noncomputable def cT (l : List AV) (e z : Nat) : ABlk := .cells (.lst l) e z true false
noncomputable def cF (l : List AV) (e z : Nat) : ABlk := .cells (.lst l) e z false false
noncomputable def yT (n N e z : Nat) : ABlk := .cells (.byt n N) e z true false
noncomputable def yF (n N e z : Nat) : ABlk := .cells (.byt n N) e z false false
noncomputable def sT (i n : Nat) : AV := .sl i 0 n n true
noncomputable def sF (i n : Nat) : AV := .sl i 0 n n false
noncomputable def pP (i : Nat) : AV := .ptr i 0
noncomputable def chk (t : LT) (f : Nat) (F : Fact) : Bool := F.ok && F.res (evF (lkt t) 1000000 (.call f F.args (hA F.pre)))
abbrev TO (t : LT) : Prop := TOk Tryz.prog t
theorem T0_ok : TO T0 := TOk.of _ zjy
def LO (f : Nat) (l : LF) : Prop := ∀ B, ∀ G ∈ l, XOk Tryz.prog B f G.fn
theorem LO0 (f : Nat) : LO f [] := fun _ _ h => by cases h
theorem stp {t : LT} {l : LF} {f : Nat} {F : Fact} (ht : TO t) (hc : chk t f F = true) (hl : LO f l) : LO f (F :: l) ∧ TO (t.set f (facts (F :: l))) := by
  unfold chk at hc
  rw [Bool.and_eq_true] at hc
  have hl' : LO f (F :: l) := fun B => ziy (fact_ok (lkt_ok _) (zxr ht) hc.1 (by rw [← zot]; exact hc.2) B) (hl B)
  exact ⟨hl', ht.set fun B => zex _ (hl' B)⟩
theorem zst {t : LT} {f : Nat} (ht : TO t) (hr : saysT (evF (lkt t) 1000000 (.call f [] H0)) = true) : (∀ B, XOk Tryz.prog B f zfh) ∧ TO (t.set f zfh) :=
  have h : ∀ B, XOk Tryz.prog B f zfh := fun B => zqa1 (lkt_ok _) (zxr ht) (by rw [← zot]; exact hr)
  ⟨h, ht.set h⟩
end HS
