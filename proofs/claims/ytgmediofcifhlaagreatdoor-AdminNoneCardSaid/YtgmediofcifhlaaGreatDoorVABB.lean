import Derived.Test.YtgmediofcifhlaaGreatDoorRows
import Derived.Test.YtgmediofcifhlaaGreatDoorCards
import Derived.JoinedOf
import Derived.KernelRfl
import Derived.ProofKit
import Derived.SevenTiedAt
import Derived.Stop.Joined
set_option maxHeartbeats 8000000
namespace Go.Proofs.YtgmediofcifhlaaGreatDoor
open Go
namespace adminNone
set_option maxRecDepth 100000
theorem andT {a b : Bool} (ha : a = true) (hb : b = true) : (a && b) = true := by rw [ha, hb]; rfl
theorem jf0 : ((Rows.adminNoneRow).wf (OpenSpec.ofChange Rows.adminNoneSpec)) = true := by kernel_rfl
theorem jf1 : (laidOutB Tryz.prog) = true := by kernel_rfl
theorem jf2 : (mapsRowed Tryz.prog) = true := by kernel_rfl
theorem jf3 : (Tryz.f3.params.all (Tryz.prog.readableRec ·)) = true := by kernel_rfl
theorem jf4 : (namedTie Tryz.prog (Rows.adminNoneRow).named (Rows.adminNoneSpec).vars) = true := by kernel_rfl
theorem jf5 : (((Rows.adminNoneRow).stops == [])) = true := by kernel_rfl
theorem jf6 : ((Tryz.prog.stops == [])) = true := by kernel_rfl
theorem jf7 : (((Rows.adminNoneRow).knobs == [])) = true := by kernel_rfl
theorem jf8 : ((Tryz.prog.stopKnobs == [])) = true := by kernel_rfl
theorem jf13 : (((Rows.adminNoneRow).maps == (Tryz.f3.params.toList ++ (Rows.adminNoneSpec).plain.varTypes Tryz.prog).any (Tryz.prog.mapsRec ·))) = true := by kernel_rfl
theorem jf14 : (((Rows.adminNoneRow).ifaces == (Tryz.f3.params.toList ++ (Rows.adminNoneSpec).plain.varTypes Tryz.prog).any (Tryz.prog.ifacesRec ·))) = true := by kernel_rfl
theorem jf15 : (((Rows.adminNoneRow).mapsOut == Tryz.prog.mapsAmong Tryz.f3.resultTypes.toList)) = true := by kernel_rfl
theorem jf16 : (((Rows.adminNoneRow).loops == (Tryz.f3.params.toList ++ (Rows.adminNoneSpec).plain.varTypes Tryz.prog).any (Tryz.prog.loopsFrom ·))) = true := by kernel_rfl
theorem jf17 : (((Rows.adminNoneRow).wideKeys == (Tryz.f3.params.toList ++ (Rows.adminNoneSpec).plain.varTypes Tryz.prog ++ Tryz.f3.resultTypes.toList).any (Tryz.prog.wideKeysFrom ·))) = true := by kernel_rfl
theorem jf18 : ((Rows.adminNoneSpec).vars.all (Tryz.prog.varReadable ·)) = true := by kernel_rfl
theorem jf19 : (Tryz.f3.resultTypes.all (fun t => Tryz.prog.readableRec t && decide (t < Tryz.prog.types.size))) = true := by kernel_rfl
theorem jf20 : (((Rows.adminNoneRow).ifacesOut == Tryz.f3.resultTypes.toList.any (Tryz.prog.ifacesRec ·))) = true := by kernel_rfl
theorem jf21 : (((Rows.adminNoneRow).loopsOut == Tryz.f3.resultTypes.toList.any (Tryz.prog.loopsFrom ·))) = true := by kernel_rfl
theorem jf22 : (((Rows.adminNoneRow).plainKeys == Tryz.prog.plainKeys)) = true := by kernel_rfl
theorem jf23 : ((Rows.adminNoneRow).shortTexts.isNone) = true := by kernel_rfl
theorem jf24 : (Tryz.prog.stopsHeard) = true := by kernel_rfl
theorem jf25 : (Tryz.prog.mayEnter) = true := by kernel_rfl
theorem jf26 : (((Rows.adminNoneRow).lifted == Tryz.prog.liftsFinal)) = true := by kernel_rfl
theorem jf27 : ((Tryz.prog.make == some (Rows.adminNoneRow).make)) = true := by kernel_rfl
theorem jf28 : (((Rows.adminNoneRow).kinds == (if (Rows.adminNoneRow).domain.isEmpty then [] else Tryz.f3.params.toList.map fun t => match Tryz.prog.underlying t with | some (.int k) => some k | _ => none))) = true := by kernel_rfl
theorem jf29 : (((Rows.adminNoneRow).pinned == (Rows.adminNoneRow).pinnedBy)) = true := by kernel_rfl
theorem jf30 : (((Rows.adminNoneRow).veiled == (Tryz.f3.params.toList ++ (Rows.adminNoneSpec).plain.varTypes Tryz.prog ++ Tryz.f3.resultTypes.toList).any (Tryz.prog.veiledRec ·))) = true := by kernel_rfl
theorem jf31 : ((Rows.adminNoneRow).veiledFits Tryz.prog Tryz.f3.params.toList (Tryz.f3.params.toList ++ (Rows.adminNoneSpec).plain.varTypes Tryz.prog ++ Tryz.f3.resultTypes.toList)) = true := by kernel_rfl
end adminNone
end Go.Proofs.YtgmediofcifhlaaGreatDoor
