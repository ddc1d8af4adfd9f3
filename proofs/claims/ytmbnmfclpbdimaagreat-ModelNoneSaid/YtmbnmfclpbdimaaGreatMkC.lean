import Derived.Test.YtmbnmfclpbdimaaGreatMkB
import Derived.Test.YtmbnmfclpbdimaaGreatEvG
open Go Go.Ev Go.Proofs Go.RowKit
namespace M1
set_option maxRecDepth 100000
theorem extA (B : Nat) : ExtOk look Tryz.prog B := extOkZ_of (tab_ok B)
noncomputable def tab2 : List (Nat × XFn) := (11, xTrue) :: tab
theorem tab2_ok (B : Nat) : ∀ p ∈ tab2, XOk Tryz.prog B p.1 p.2 := by
  intro p hp
  rcases List.mem_cons.1 hp with rfl | hp
  · exact xTrue_ok look_ok extA (by rw [← evF_eq]; exact saysA)
  · exact tab_ok B p hp
noncomputable def look2 : Lk := lkZ Tryz.prog (Tr.ofList Tryz.prog.funcs.toList) (Tr.ofList Tryz.prog.types.toList) tab2 zl
theorem look2_ok : LOk look2 Tryz.prog := lkZ_ok (by kernel_rfl) (by kernel_rfl) (by kernel_rfl)
theorem says : saysTrue (evF look2 1000000 (.call 3 [] H0)) = true := by kernel_rfl
end M1
