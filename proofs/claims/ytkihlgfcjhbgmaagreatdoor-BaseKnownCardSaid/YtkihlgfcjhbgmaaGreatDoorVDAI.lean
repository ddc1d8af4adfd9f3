import Derived.Test.YtkihlgfcjhbgmaaGreatDoorRows
import Derived.Test.YtkihlgfcjhbgmaaGreatDoorCards
import Derived.JoinedOf
import Derived.KernelRfl
import Derived.ProofKit
import Derived.SevenTiedAt
import Derived.Stop.Joined
import Derived.Test.YtkihlgfcjhbgmaaGreatDoorVDAC
import Derived.Test.YtkihlgfcjhbgmaaGreatDoorVDAD
import Derived.Test.YtkihlgfcjhbgmaaGreatDoorVDAE
import Derived.Test.YtkihlgfcjhbgmaaGreatDoorVDAF
import Derived.Test.YtkihlgfcjhbgmaaGreatDoorVDAG
import Derived.Test.YtkihlgfcjhbgmaaGreatDoorVDAH
set_option maxHeartbeats 8000000
namespace Go.Proofs.YtkihlgfcjhbgmaaGreatDoor
open Go
namespace baseKnown
set_option maxRecDepth 100000
theorem jf : joinedFacts Tryz.prog 3 Tryz.f3 Rows.baseKnownSpec Rows.baseKnownRow = true := by
  unfold joinedFacts
  exact (andT (andT (andT (andT (andT (andT (andT (andT (andT (andT (andT (andT (andT (andT (andT (andT (andT (andT (andT (andT (andT (andT (andT (andT (andT (andT (andT (andT (andT (andT (andT jf0 jf1) jf2) jf3) jf4) jf5) jf6) jf7) jf8) jf9) jf10) jf11) jf12) jf13) jf14) jf15) jf16) jf17) jf18) jf19) jf20) jf21) jf22) jf23) jf24) jf25) jf26) jf27) jf28) jf29) jf30) jf31)
end baseKnown
end Go.Proofs.YtkihlgfcjhbgmaaGreatDoor
