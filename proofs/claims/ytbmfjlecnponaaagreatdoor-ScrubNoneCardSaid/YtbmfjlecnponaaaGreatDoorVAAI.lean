import Derived.Test.YtbmfjlecnponaaaGreatDoorVAAH
import Derived.Test.YtbmfjlecnponaaaGreatDoorVAAF
set_option maxHeartbeats 8000000
set_option linter.unusedSimpArgs false
set_option linter.unusedVariables false
open Go Go.Proofs Go.RowKit
namespace HS
open Go.Ev
set_option maxRecDepth 1000000
noncomputable def zl : List (Nat × Nat) := [(23, 32), (24, 32), (279, 256), (280, 256), (450, 2), (451, 2), (452, 32)]
theorem hm0 : Tryz.prog.follows .mixedOrders = true := by kernel_rfl
theorem hf0 : Tryz.prog.funcs.toList.all fitFn = true := by kernel_rfl
theorem hz0 : zl.all (zFits Tryz.prog.types.toList) = true := by kernel_rfl
noncomputable def dl : List Nat := [28, 48, 93, 96, 174, 175, 290, 328]
noncomputable def lk (tab : List (Nat × XFn)) : Lk := lkD Tryz.prog (Tr.ofList Tryz.prog.funcs.toList) (Tr.ofList Tryz.prog.types.toList) tab zl dl
theorem lk_ok (tab : List (Nat × XFn)) : LOk (lk tab) Tryz.prog := lkD_ok hm0 hf0 hz0
theorem zme {P : Program} {B : Nat} {f : Nat} {g : XFn} {l : List (Nat × XFn)} (h : XOk P B f g) (hl : ∀ p ∈ l, XOk P B p.1 p.2) : ∀ p ∈ (f, g) :: l, XOk P B p.1 p.2 := fun p hp => by
  rcases List.mem_cons.1 hp with rfl | hp
  · exact h
  · exact hl p hp
theorem zux {P : Program} {B f : Nat} {F : Fact} {l : List Fact} (h : XOk P B f F.fn) (hl : ∀ F ∈ l, XOk P B f F.fn) : ∀ G ∈ F :: l, XOk P B f G.fn := fun G hG => by
  rcases List.mem_cons.1 hG with rfl | hG
  · exact h
  · exact hl G hG
noncomputable def fI (n : Nat) : AV := .int .i64 (.ofNat n)
noncomputable def fI0 : AV := .int .i64 (.ofNat 0)
noncomputable def fB (n : Nat) : AV := .int .u8 (.ofNat n)
noncomputable def fB0 : AV := .int .u8 (.ofNat 0)
noncomputable def fU (n : Nat) : AV := .int .u64 (.ofNat n)
noncomputable def fU0 : AV := .int .u64 (.ofNat 0)
noncomputable def byL (n N : Nat) (r : List AV) : List AV := nrecF (α := Nat) (β := List AV) (fun _ => r) (fun _ ih N => zfi (fun M => AV.int .u8 (.ofNat (Nat.mod N 256)) :: ih M) (Nat.div N 256)) n N
noncomputable def rpL (n : Nat) (a : AV) (r : List AV) : List AV := nrecF (α := Unit) (β := List AV) (fun _ => r) (fun _ ih u => a :: ih u) n ()
theorem s272 (B : Nat) : XOk Tryz.prog B 272 (Hs.xTurned) := Hs.xTurned_ok B
theorem s244 (B : Nat) : XOk Tryz.prog B 244 (zab1) := zbb1 B
theorem s137 (B : Nat) : XOk Tryz.prog B 137 (zhr) := zix B
theorem s317 (B : Nat) : XOk Tryz.prog B 317 (Tm.xTrim) := Tm.xTrim_ok B
theorem b303 : Bare Tryz.prog 303 Extern.ReflectliteType.typeOf := ⟨Tryz.f303, Tryz.func303, by kernel_rfl, by kernel_rfl, by kernel_rfl, by kernel_rfl⟩
theorem g303 : Tryz.prog.globals.size = 3 := by kernel_rfl
theorem c303 : Tryz.prog.cutTypes.find? (·.1 == "internal/reflectlite.rtype") = some ("internal/reflectlite.rtype", 409) := by kernel_rfl
theorem s303 (B : Nat) : XOk Tryz.prog B 303 (zlr 3 409) := by
  have h := @zrx Tryz.prog B 303 3 409 b303 g303 ⟨_, c303⟩
  exact h
theorem b396 : Bare Tryz.prog 396 eComp := ⟨Tryz.f396, Tryz.func396, by kernel_rfl, by kernel_rfl, by kernel_rfl, by kernel_rfl⟩
theorem c396_40 (w : World) : (eComp #[.agg #[.pointer (some ⟨3, 40, none⟩)]]).run Tryz.prog w = .ok (.bool true) w := by kernel_rfl
theorem zig1 (w : World) : (eComp #[.agg #[.pointer (some ⟨3, 332, none⟩)]]).run Tryz.prog w = .ok (.bool true) w := by kernel_rfl
theorem s396 (B : Nat) : XOk Tryz.prog B 396 (zzf 3 [(40, true), (332, true)]) := by
  have h := @zdm Tryz.prog B 396 3 [(40, true), (332, true)] eComp b396 (@ztx Tryz.prog eComp 3 40 true _ c396_40 (@ztx Tryz.prog eComp 3 332 true _ zig1 (cmp_nil)))
  exact h
theorem b279 : Bare Tryz.prog 279 Extern.BytealgIndexByte.indexByte := ⟨Tryz.f279, Tryz.func279, by kernel_rfl, by kernel_rfl, by kernel_rfl, by kernel_rfl⟩
theorem s279 (B : Nat) : XOk Tryz.prog B 279 (zbh) := by
  have h := @zmn Tryz.prog B 279 b279
  exact h
theorem b282 : Bare Tryz.prog 282 Extern.BytealgCompare.compare := ⟨Tryz.f282, Tryz.func282, by kernel_rfl, by kernel_rfl, by kernel_rfl, by kernel_rfl⟩
theorem s282 (B : Nat) : XOk Tryz.prog B 282 (zvl) := by
  have h := @zet Tryz.prog B 282 b282
  exact h
noncomputable def tab0 : List (Nat × XFn) := [(272, Hs.xTurned), (244, zab1), (137, zhr), (317, Tm.xTrim), (303, zlr 3 409), (396, zzf 3 [(40, true), (332, true)]), (279, zbh), (282, zvl)]
theorem zvx (B : Nat) : ∀ p ∈ tab0, XOk Tryz.prog B p.1 p.2 := zme (s272 B) (zme (s244 B) (zme (s137 B) (zme (s317 B) (zme (s303 B) (zme (s396 B) (zme (s279 B) (zme (s282 B) (fun _ h => by cases h))))))))
noncomputable def rgL (n a : Nat) (r : List AV) : List AV := nrecF (α := Nat) (β := List AV) (fun _ => r) (fun _ ih a => zfi (fun b => fI b :: ih (Nat.add b 1)) a) n a
abbrev LT := Tr XFn
noncomputable def dT : Tr Unit := uTr dl
noncomputable def lkt (t : LT) : Lk := lkT Tryz.prog (Tr.ofList Tryz.prog.funcs.toList) (Tr.ofList Tryz.prog.types.toList) t zl dT
theorem lkt_ok (t : LT) : LOk (lkt t) Tryz.prog := lkT_ok hm0 hf0 hz0
noncomputable def T0 : LT := trOf tab0
abbrev LF := List Fact
noncomputable def cT (l : List AV) (e z : Nat) : ABlk := .cells (.lst l) e z true false
noncomputable def cF (l : List AV) (e z : Nat) : ABlk := .cells (.lst l) e z false false
noncomputable def yT (n N e z : Nat) : ABlk := .cells (.byt n N) e z true false
noncomputable def yF (n N e z : Nat) : ABlk := .cells (.byt n N) e z false false
noncomputable def sT (i n : Nat) : AV := .sl i 0 n n true
noncomputable def sF (i n : Nat) : AV := .sl i 0 n n false
noncomputable def pP (i : Nat) : AV := .ptr i 0
noncomputable def chk (t : LT) (f : Nat) (F : Fact) : Bool := F.ok && F.res (evF (lkt t) 1000000 (.call f F.args (hA F.pre)))
abbrev TO (t : LT) : Prop := TOk Tryz.prog t
theorem T0_ok : TO T0 := TOk.of _ zvx
def LO (f : Nat) (l : LF) : Prop := ∀ B, ∀ G ∈ l, XOk Tryz.prog B f G.fn
theorem LO0 (f : Nat) : LO f [] := fun _ _ h => by cases h
theorem stp {t : LT} {l : LF} {f : Nat} {F : Fact} (ht : TO t) (hc : chk t f F = true) (hl : LO f l) : LO f (F :: l) ∧ TO (t.set f (facts (F :: l))) := by
  unfold chk at hc
  rw [Bool.and_eq_true] at hc
  have hl' : LO f (F :: l) := fun B => zux (fact_ok (lkt_ok _) (znr ht) hc.1 (by rw [← zdt]; exact hc.2) B) (hl B)
  exact ⟨hl', ht.set fun B => zrw _ (hl' B)⟩
theorem zst {t : LT} {f : Nat} (ht : TO t) (hr : saysT (evF (lkt t) 1000000 (.call f [] H0)) = true) : (∀ B, XOk Tryz.prog B f zkg) ∧ TO (t.set f zkg) :=
  have h : ∀ B, XOk Tryz.prog B f zkg := fun B => zea1 (lkt_ok _) (znr ht) (by rw [← zdt]; exact hr)
  ⟨h, ht.set h⟩
end HS
