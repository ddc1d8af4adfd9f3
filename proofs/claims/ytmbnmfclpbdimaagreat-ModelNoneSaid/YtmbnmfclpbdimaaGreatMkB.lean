import Derived.Test.YtmbnmfclpbdimaaGreatMkA
open Go Go.Ev Go.Proofs Go.RowKit
namespace M1
set_option maxRecDepth 100000
theorem saysA : saysTrue (evF look 1000000 (.call 11 [] H0)) = true := by kernel_rfl
end M1
