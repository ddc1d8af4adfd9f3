import Derived.Test.YtkihlgfcjhbgmaaGreatDoorVAAP
import Derived.Test.YtkihlgfcjhbgmaaGreatDoorRows
import Derived.Test.YtkihlgfcjhbgmaaGreatDoorCards
import Derived.JoinedOf
import Derived.KernelRfl
import Derived.ProofKit
import Derived.SevenTiedAt
import Derived.Stop.Joined
set_option maxHeartbeats 8000000
namespace Go.Proofs.YtkihlgfcjhbgmaaGreatDoor
open Go
namespace baseKnown
set_option maxRecDepth 100000
theorem andT {a b : Bool} (ha : a = true) (hb : b = true) : (a && b) = true := by rw [ha, hb]; rfl
theorem jf0 : ((Rows.baseKnownRow).wf (OpenSpec.ofChange Rows.baseKnownSpec)) = true := by kernel_rfl
theorem jf1 : (laidOutB Tryz.prog) = true := LaidX.laidOut
theorem jf2 : (mapsRowed Tryz.prog) = true := by kernel_rfl
theorem jf3 : (Tryz.f3.params.all (Tryz.prog.readableRec ·)) = true := by kernel_rfl
theorem jf4 : (namedTie Tryz.prog (Rows.baseKnownRow).named (Rows.baseKnownSpec).vars) = true := by kernel_rfl
theorem jf5 : (((Rows.baseKnownRow).stops == [])) = true := by kernel_rfl
theorem jf6 : ((Tryz.prog.stops == [])) = true := by kernel_rfl
theorem jf7 : (((Rows.baseKnownRow).knobs == [])) = true := by kernel_rfl
theorem jf8 : ((Tryz.prog.stopKnobs == [])) = true := by kernel_rfl
theorem jf13 : (((Rows.baseKnownRow).maps == (Tryz.f3.params.toList ++ (Rows.baseKnownSpec).plain.varTypes Tryz.prog).any (Tryz.prog.mapsRec ·))) = true := by kernel_rfl
theorem jf14 : (((Rows.baseKnownRow).ifaces == (Tryz.f3.params.toList ++ (Rows.baseKnownSpec).plain.varTypes Tryz.prog).any (Tryz.prog.ifacesRec ·))) = true := by kernel_rfl
theorem jf15 : (((Rows.baseKnownRow).mapsOut == Tryz.prog.mapsAmong Tryz.f3.resultTypes.toList)) = true := by kernel_rfl
theorem jf16 : (((Rows.baseKnownRow).loops == (Tryz.f3.params.toList ++ (Rows.baseKnownSpec).plain.varTypes Tryz.prog).any (Tryz.prog.loopsFrom ·))) = true := by kernel_rfl
theorem jf17 : (((Rows.baseKnownRow).wideKeys == (Tryz.f3.params.toList ++ (Rows.baseKnownSpec).plain.varTypes Tryz.prog ++ Tryz.f3.resultTypes.toList).any (Tryz.prog.wideKeysFrom ·))) = true := by kernel_rfl
theorem jf18 : ((Rows.baseKnownSpec).vars.all (Tryz.prog.varReadable ·)) = true := by kernel_rfl
theorem jf19 : (Tryz.f3.resultTypes.all (fun t => Tryz.prog.readableRec t && decide (t < Tryz.prog.types.size))) = true := by kernel_rfl
theorem jf20 : (((Rows.baseKnownRow).ifacesOut == Tryz.f3.resultTypes.toList.any (Tryz.prog.ifacesRec ·))) = true := by kernel_rfl
theorem jf21 : (((Rows.baseKnownRow).loopsOut == Tryz.f3.resultTypes.toList.any (Tryz.prog.loopsFrom ·))) = true := by kernel_rfl
theorem jf22 : (((Rows.baseKnownRow).plainKeys == Tryz.prog.plainKeys)) = true := by kernel_rfl
theorem jf23 : ((Rows.baseKnownRow).shortTexts.isNone) = true := by kernel_rfl
theorem jf24 : (Tryz.prog.stopsHeard) = true := by kernel_rfl
theorem jf25 : (Tryz.prog.mayEnter) = true := by kernel_rfl
theorem jf26 : (((Rows.baseKnownRow).lifted == Tryz.prog.liftsFinal)) = true := by kernel_rfl
theorem jf27 : ((Tryz.prog.make == some (Rows.baseKnownRow).make)) = true := by kernel_rfl
theorem jf28 : (((Rows.baseKnownRow).kinds == (if (Rows.baseKnownRow).domain.isEmpty then [] else Tryz.f3.params.toList.map fun t => match Tryz.prog.underlying t with | some (.int k) => some k | _ => none))) = true := by kernel_rfl
theorem jf29 : (((Rows.baseKnownRow).pinned == (Rows.baseKnownRow).pinnedBy)) = true := by kernel_rfl
theorem jf30 : (((Rows.baseKnownRow).veiled == (Tryz.f3.params.toList ++ (Rows.baseKnownSpec).plain.varTypes Tryz.prog ++ Tryz.f3.resultTypes.toList).any (Tryz.prog.veiledRec ·))) = true := by kernel_rfl
theorem jf31 : ((Rows.baseKnownRow).veiledFits Tryz.prog Tryz.f3.params.toList (Tryz.f3.params.toList ++ (Rows.baseKnownSpec).plain.varTypes Tryz.prog ++ Tryz.f3.resultTypes.toList)) = true := by kernel_rfl
end baseKnown
end Go.Proofs.YtkihlgfcjhbgmaaGreatDoor
