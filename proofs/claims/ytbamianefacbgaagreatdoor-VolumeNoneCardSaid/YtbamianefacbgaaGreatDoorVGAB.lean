import Derived.Test.YtbamianefacbgaaGreatDoorRows
import Derived.Test.YtbamianefacbgaaGreatDoorCards
import Derived.JoinedOf
import Derived.KernelRfl
import Derived.ProofKit
import Derived.SevenTiedAt
import Derived.Stop.Joined
set_option maxHeartbeats 8000000
namespace Go.Proofs.YtbamianefacbgaaGreatDoor
open Go
namespace volumeNone
set_option maxRecDepth 100000
theorem andT {a b : Bool} (ha : a = true) (hb : b = true) : (a && b) = true := by rw [ha, hb]; rfl
theorem jf0 : ((Rows.volumeNoneRow).wf (OpenSpec.ofChange Rows.volumeNoneSpec)) = true := by kernel_rfl
theorem jf1 : (laidOutB Tryz.prog) = true := by kernel_rfl
theorem jf2 : (mapsRowed Tryz.prog) = true := by kernel_rfl
theorem jf3 : (Tryz.f3.params.all (Tryz.prog.readableRec ·)) = true := by kernel_rfl
theorem jf4 : (namedTie Tryz.prog (Rows.volumeNoneRow).named (Rows.volumeNoneSpec).vars) = true := by kernel_rfl
theorem jf5 : (((Rows.volumeNoneRow).stops == [])) = true := by kernel_rfl
theorem jf6 : ((Tryz.prog.stops == [])) = true := by kernel_rfl
theorem jf7 : (((Rows.volumeNoneRow).knobs == [])) = true := by kernel_rfl
theorem jf8 : ((Tryz.prog.stopKnobs == [])) = true := by kernel_rfl
theorem jf9 : (((Rows.volumeNoneRow).inPlace == Tryz.prog.inPlace 3)) = true := by kernel_rfl
theorem jf10 : (((Rows.volumeNoneRow).unfollowed == Tryz.prog.unfollowed 3)) = true := by kernel_rfl
theorem jf11 : (((Rows.volumeNoneRow).recurses == Tryz.prog.recurses 3)) = true := by kernel_rfl
theorem jf12 : (((Rows.volumeNoneRow).named == Tryz.prog.varsNamed 3)) = true := by kernel_rfl
theorem jf13 : (((Rows.volumeNoneRow).maps == (Tryz.f3.params.toList ++ (Rows.volumeNoneSpec).plain.varTypes Tryz.prog).any (Tryz.prog.mapsRec ·))) = true := by kernel_rfl
theorem jf14 : (((Rows.volumeNoneRow).ifaces == (Tryz.f3.params.toList ++ (Rows.volumeNoneSpec).plain.varTypes Tryz.prog).any (Tryz.prog.ifacesRec ·))) = true := by kernel_rfl
theorem jf15 : (((Rows.volumeNoneRow).mapsOut == Tryz.prog.mapsAmong Tryz.f3.resultTypes.toList)) = true := by kernel_rfl
theorem jf16 : (((Rows.volumeNoneRow).loops == (Tryz.f3.params.toList ++ (Rows.volumeNoneSpec).plain.varTypes Tryz.prog).any (Tryz.prog.loopsFrom ·))) = true := by kernel_rfl
theorem jf17 : (((Rows.volumeNoneRow).wideKeys == (Tryz.f3.params.toList ++ (Rows.volumeNoneSpec).plain.varTypes Tryz.prog ++ Tryz.f3.resultTypes.toList).any (Tryz.prog.wideKeysFrom ·))) = true := by kernel_rfl
theorem jf18 : ((Rows.volumeNoneSpec).vars.all (Tryz.prog.varReadable ·)) = true := by kernel_rfl
theorem jf19 : (Tryz.f3.resultTypes.all (fun t => Tryz.prog.readableRec t && decide (t < Tryz.prog.types.size))) = true := by kernel_rfl
theorem jf20 : (((Rows.volumeNoneRow).ifacesOut == Tryz.f3.resultTypes.toList.any (Tryz.prog.ifacesRec ·))) = true := by kernel_rfl
theorem jf21 : (((Rows.volumeNoneRow).loopsOut == Tryz.f3.resultTypes.toList.any (Tryz.prog.loopsFrom ·))) = true := by kernel_rfl
theorem jf22 : (((Rows.volumeNoneRow).plainKeys == Tryz.prog.plainKeys)) = true := by kernel_rfl
theorem jf23 : ((Rows.volumeNoneRow).shortTexts.isNone) = true := by kernel_rfl
theorem jf24 : (Tryz.prog.stopsHeard) = true := by kernel_rfl
theorem jf25 : (Tryz.prog.mayEnter) = true := by kernel_rfl
theorem jf26 : (((Rows.volumeNoneRow).lifted == Tryz.prog.liftsFinal)) = true := by kernel_rfl
theorem jf27 : ((Tryz.prog.make == some (Rows.volumeNoneRow).make)) = true := by kernel_rfl
theorem jf28 : (((Rows.volumeNoneRow).kinds == (if (Rows.volumeNoneRow).domain.isEmpty then [] else Tryz.f3.params.toList.map fun t => match Tryz.prog.underlying t with | some (.int k) => some k | _ => none))) = true := by kernel_rfl
theorem jf29 : (((Rows.volumeNoneRow).pinned == (Rows.volumeNoneRow).pinnedBy)) = true := by kernel_rfl
theorem jf30 : (((Rows.volumeNoneRow).veiled == (Tryz.f3.params.toList ++ (Rows.volumeNoneSpec).plain.varTypes Tryz.prog ++ Tryz.f3.resultTypes.toList).any (Tryz.prog.veiledRec ·))) = true := by kernel_rfl
theorem jf31 : ((Rows.volumeNoneRow).veiledFits Tryz.prog Tryz.f3.params.toList (Tryz.f3.params.toList ++ (Rows.volumeNoneSpec).plain.varTypes Tryz.prog ++ Tryz.f3.resultTypes.toList)) = true := by kernel_rfl
theorem jf : joinedFacts Tryz.prog 3 Tryz.f3 Rows.volumeNoneSpec Rows.volumeNoneRow = true := by
  unfold joinedFacts
  exact (andT (andT (andT (andT (andT (andT (andT (andT (andT (andT (andT (andT (andT (andT (andT (andT (andT (andT (andT (andT (andT (andT (andT (andT (andT (andT (andT (andT (andT (andT (andT jf0 jf1) jf2) jf3) jf4) jf5) jf6) jf7) jf8) jf9) jf10) jf11) jf12) jf13) jf14) jf15) jf16) jf17) jf18) jf19) jf20) jf21) jf22) jf23) jf24) jf25) jf26) jf27) jf28) jf29) jf30) jf31)
theorem cf1 : Tryz.pinned.checked.prog.funcNamed Rows.volumeNoneRow.func = some 3 := by kernel_rfl
theorem cf2 : Tryz.f3.isInstance Tryz.pinned.checked.prog Rows.volumeNoneRow.origin Rows.volumeNoneRow.targs := of_decide_eq_true (by kernel_rfl)
theorem cf3 : Tryz.f3.isWrapper Tryz.pinned.checked.prog Rows.volumeNoneRow.wrapper Rows.volumeNoneRow.mainSum := by unfold Func.isWrapper; first | (rw [if_pos (by decide +kernel)]; kernel_rfl) | (rw [if_neg (by decide +kernel)]; exact ⟨rfl, rfl⟩)
theorem cf4 : Rows.volumeNoneRow.wfByText (OpenSpec.ofChange Rows.volumeNoneSpec) = true := by kernel_rfl
theorem cf5 : Tryz.pinned.checked.prog.mainIs = some (((true, "7027be25ff07ab6982452c4339c87bc0ca108be1ea9a9dc1bc13c51c3fb37d3d") : Bool × String).1, ((true, "7027be25ff07ab6982452c4339c87bc0ca108be1ea9a9dc1bc13c51c3fb37d3d") : Bool × String).2.toList) := by kernel_rfl
theorem cf6 : true = Tryz.pinned.checked.prog.looks [] := by kernel_rfl
theorem cf7 : false = Rows.volumeNoneRow.goesBy Tryz.pinned.checked.prog := by kernel_rfl
theorem cf8 : ([34].all fun u => !Tryz.prog.wantsStandIn u) = true := by kernel_rfl
end volumeNone
end Go.Proofs.YtbamianefacbgaaGreatDoor
