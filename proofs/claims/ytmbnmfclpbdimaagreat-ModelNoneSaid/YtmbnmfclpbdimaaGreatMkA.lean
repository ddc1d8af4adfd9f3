import Derived.Test.YtmbnmfclpbdimaaGreatEvG
import Derived.Test.YtmbnmfclpbdimaaGreatRows
import Derived.KernelRfl
open Go Go.Ev Go.Proofs Go.RowKit
namespace M1
set_option maxRecDepth 100000
theorem b107 : Bare Tryz.prog 107 Extern.BytealgIndexByte.indexByte := ⟨Tryz.f107, Tryz.func107, by kernel_rfl, by kernel_rfl, by kernel_rfl, by kernel_rfl⟩
theorem b199 : Bare Tryz.prog 199 Extern.BytealgCompare.compare := ⟨Tryz.f199, Tryz.func199, by kernel_rfl, by kernel_rfl, by kernel_rfl, by kernel_rfl⟩
def zl : List (Nat × Nat) := [(80,32),(81,32),(90,256),(91,16384),(92,16384),(101,16384)]
noncomputable def tab : List (Nat × XFn) := [(107, xIndexByte), (199, xCompare)]
theorem tab_ok (B : Nat) : ∀ p ∈ tab, XOk Tryz.prog B p.1 p.2 := by
  intro p hp
  simp only [tab, List.mem_cons, List.not_mem_nil, or_false] at hp
  rcases hp with rfl | rfl
  · show XOk Tryz.prog B 107 xIndexByte; exact xIndexByte_ok b107
  · show XOk Tryz.prog B 199 xCompare; exact xCompare_ok b199
noncomputable def look : Lk := lkZ Tryz.prog (Tr.ofList Tryz.prog.funcs.toList) (Tr.ofList Tryz.prog.types.toList) tab zl
theorem look_ok : LOk look Tryz.prog := lkZ_ok (by kernel_rfl) (by kernel_rfl) (by kernel_rfl)
end M1
