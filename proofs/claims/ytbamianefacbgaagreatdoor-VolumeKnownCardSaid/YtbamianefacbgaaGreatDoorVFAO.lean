import Derived.Test.YtbamianefacbgaaGreatDoorRows
import Derived.Test.YtbamianefacbgaaGreatDoorCards
import Derived.JoinedOf
import Derived.KernelRfl
import Derived.ProofKit
import Derived.SevenTiedAt
import Derived.Stop.Joined
set_option maxHeartbeats 8000000
namespace Go.Proofs.YtbamianefacbgaaGreatDoor
open Go
namespace volumeKnown
set_option maxRecDepth 100000
theorem andT {a b : Bool} (ha : a = true) (hb : b = true) : (a && b) = true := by rw [ha, hb]; rfl
theorem jf0 : ((Rows.volumeKnownRow).wf (OpenSpec.ofChange Rows.volumeKnownSpec)) = true := by kernel_rfl
theorem jf1 : (laidOutB Tryz.prog) = true := by kernel_rfl
theorem jf2 : (mapsRowed Tryz.prog) = true := by kernel_rfl
theorem jf3 : (Tryz.f4.params.all (Tryz.prog.readableRec ·)) = true := by kernel_rfl
theorem jf4 : (namedTie Tryz.prog (Rows.volumeKnownRow).named (Rows.volumeKnownSpec).vars) = true := by kernel_rfl
theorem jf5 : (((Rows.volumeKnownRow).stops == [])) = true := by kernel_rfl
theorem jf6 : ((Tryz.prog.stops == [])) = true := by kernel_rfl
theorem jf7 : (((Rows.volumeKnownRow).knobs == [])) = true := by kernel_rfl
theorem jf8 : ((Tryz.prog.stopKnobs == [])) = true := by kernel_rfl
theorem jf9 : (((Rows.volumeKnownRow).inPlace == Tryz.prog.inPlace 4)) = true := by kernel_rfl
theorem jf10 : (((Rows.volumeKnownRow).unfollowed == Tryz.prog.unfollowed 4)) = true := by kernel_rfl
theorem jf11 : (((Rows.volumeKnownRow).recurses == Tryz.prog.recurses 4)) = true := by kernel_rfl
theorem jf12 : (((Rows.volumeKnownRow).named == Tryz.prog.varsNamed 4)) = true := by kernel_rfl
theorem jf13 : (((Rows.volumeKnownRow).maps == (Tryz.f4.params.toList ++ (Rows.volumeKnownSpec).plain.varTypes Tryz.prog).any (Tryz.prog.mapsRec ·))) = true := by kernel_rfl
theorem jf14 : (((Rows.volumeKnownRow).ifaces == (Tryz.f4.params.toList ++ (Rows.volumeKnownSpec).plain.varTypes Tryz.prog).any (Tryz.prog.ifacesRec ·))) = true := by kernel_rfl
theorem jf15 : (((Rows.volumeKnownRow).mapsOut == Tryz.prog.mapsAmong Tryz.f4.resultTypes.toList)) = true := by kernel_rfl
theorem jf16 : (((Rows.volumeKnownRow).loops == (Tryz.f4.params.toList ++ (Rows.volumeKnownSpec).plain.varTypes Tryz.prog).any (Tryz.prog.loopsFrom ·))) = true := by kernel_rfl
theorem jf17 : (((Rows.volumeKnownRow).wideKeys == (Tryz.f4.params.toList ++ (Rows.volumeKnownSpec).plain.varTypes Tryz.prog ++ Tryz.f4.resultTypes.toList).any (Tryz.prog.wideKeysFrom ·))) = true := by kernel_rfl
theorem jf18 : ((Rows.volumeKnownSpec).vars.all (Tryz.prog.varReadable ·)) = true := by kernel_rfl
theorem jf19 : (Tryz.f4.resultTypes.all (fun t => Tryz.prog.readableRec t && decide (t < Tryz.prog.types.size))) = true := by kernel_rfl
theorem jf20 : (((Rows.volumeKnownRow).ifacesOut == Tryz.f4.resultTypes.toList.any (Tryz.prog.ifacesRec ·))) = true := by kernel_rfl
theorem jf21 : (((Rows.volumeKnownRow).loopsOut == Tryz.f4.resultTypes.toList.any (Tryz.prog.loopsFrom ·))) = true := by kernel_rfl
theorem jf22 : (((Rows.volumeKnownRow).plainKeys == Tryz.prog.plainKeys)) = true := by kernel_rfl
theorem jf23 : ((Rows.volumeKnownRow).shortTexts.isNone) = true := by kernel_rfl
theorem jf24 : (Tryz.prog.stopsHeard) = true := by kernel_rfl
theorem jf25 : (Tryz.prog.mayEnter) = true := by kernel_rfl
theorem jf26 : (((Rows.volumeKnownRow).lifted == Tryz.prog.liftsFinal)) = true := by kernel_rfl
theorem jf27 : ((Tryz.prog.make == some (Rows.volumeKnownRow).make)) = true := by kernel_rfl
theorem jf28 : (((Rows.volumeKnownRow).kinds == (if (Rows.volumeKnownRow).domain.isEmpty then [] else Tryz.f4.params.toList.map fun t => match Tryz.prog.underlying t with | some (.int k) => some k | _ => none))) = true := by kernel_rfl
theorem jf29 : (((Rows.volumeKnownRow).pinned == (Rows.volumeKnownRow).pinnedBy)) = true := by kernel_rfl
theorem jf30 : (((Rows.volumeKnownRow).veiled == (Tryz.f4.params.toList ++ (Rows.volumeKnownSpec).plain.varTypes Tryz.prog ++ Tryz.f4.resultTypes.toList).any (Tryz.prog.veiledRec ·))) = true := by kernel_rfl
theorem jf31 : ((Rows.volumeKnownRow).veiledFits Tryz.prog Tryz.f4.params.toList (Tryz.f4.params.toList ++ (Rows.volumeKnownSpec).plain.varTypes Tryz.prog ++ Tryz.f4.resultTypes.toList)) = true := by kernel_rfl
theorem jf : joinedFacts Tryz.prog 4 Tryz.f4 Rows.volumeKnownSpec Rows.volumeKnownRow = true := by
  unfold joinedFacts
  exact (andT (andT (andT (andT (andT (andT (andT (andT (andT (andT (andT (andT (andT (andT (andT (andT (andT (andT (andT (andT (andT (andT (andT (andT (andT (andT (andT (andT (andT (andT (andT jf0 jf1) jf2) jf3) jf4) jf5) jf6) jf7) jf8) jf9) jf10) jf11) jf12) jf13) jf14) jf15) jf16) jf17) jf18) jf19) jf20) jf21) jf22) jf23) jf24) jf25) jf26) jf27) jf28) jf29) jf30) jf31)
theorem cf1 : Tryz.pinned.checked.prog.funcNamed Rows.volumeKnownRow.func = some 4 := by kernel_rfl
theorem cf2 : Tryz.f4.isInstance Tryz.pinned.checked.prog Rows.volumeKnownRow.origin Rows.volumeKnownRow.targs := of_decide_eq_true (by kernel_rfl)
theorem cf3 : Tryz.f4.isWrapper Tryz.pinned.checked.prog Rows.volumeKnownRow.wrapper Rows.volumeKnownRow.mainSum := by unfold Func.isWrapper; first | (rw [if_pos (by decide +kernel)]; kernel_rfl) | (rw [if_neg (by decide +kernel)]; exact ⟨rfl, rfl⟩)
theorem cf4 : Rows.volumeKnownRow.wfByText (OpenSpec.ofChange Rows.volumeKnownSpec) = true := by kernel_rfl
theorem cf5 : Tryz.pinned.checked.prog.mainIs = some (((true, "7027be25ff07ab6982452c4339c87bc0ca108be1ea9a9dc1bc13c51c3fb37d3d") : Bool × String).1, ((true, "7027be25ff07ab6982452c4339c87bc0ca108be1ea9a9dc1bc13c51c3fb37d3d") : Bool × String).2.toList) := by kernel_rfl
theorem cf6 : true = Tryz.pinned.checked.prog.looks [] := by kernel_rfl
theorem cf7 : false = Rows.volumeKnownRow.goesBy Tryz.pinned.checked.prog := by kernel_rfl
end volumeKnown
end Go.Proofs.YtbamianefacbgaaGreatDoor
