import Derived.Test.YtbamianefacbgaaGreatDoorRows
import Derived.Test.YtbamianefacbgaaGreatDoorCards
import Derived.JoinedOf
import Derived.KernelRfl
import Derived.ProofKit
import Derived.SevenTiedAt
import Derived.Stop.Joined
set_option maxHeartbeats 8000000
namespace Go.Proofs.YtbamianefacbgaaGreatDoor
open Go
namespace resilverNone
set_option maxRecDepth 100000
theorem andT {a b : Bool} (ha : a = true) (hb : b = true) : (a && b) = true := by rw [ha, hb]; rfl
theorem jf0 : ((Rows.resilverNoneRow).wf (OpenSpec.ofChange Rows.resilverNoneSpec)) = true := by kernel_rfl
theorem jf1 : (laidOutB Tryz.prog) = true := by kernel_rfl
theorem jf2 : (mapsRowed Tryz.prog) = true := by kernel_rfl
theorem jf3 : (Tryz.f5.params.all (Tryz.prog.readableRec ·)) = true := by kernel_rfl
theorem jf4 : (namedTie Tryz.prog (Rows.resilverNoneRow).named (Rows.resilverNoneSpec).vars) = true := by kernel_rfl
theorem jf5 : (((Rows.resilverNoneRow).stops == [])) = true := by kernel_rfl
theorem jf6 : ((Tryz.prog.stops == [])) = true := by kernel_rfl
theorem jf7 : (((Rows.resilverNoneRow).knobs == [])) = true := by kernel_rfl
theorem jf8 : ((Tryz.prog.stopKnobs == [])) = true := by kernel_rfl
theorem jf9 : (((Rows.resilverNoneRow).inPlace == Tryz.prog.inPlace 5)) = true := by kernel_rfl
theorem jf10 : (((Rows.resilverNoneRow).unfollowed == Tryz.prog.unfollowed 5)) = true := by kernel_rfl
theorem jf11 : (((Rows.resilverNoneRow).recurses == Tryz.prog.recurses 5)) = true := by kernel_rfl
theorem jf12 : (((Rows.resilverNoneRow).named == Tryz.prog.varsNamed 5)) = true := by kernel_rfl
theorem jf13 : (((Rows.resilverNoneRow).maps == (Tryz.f5.params.toList ++ (Rows.resilverNoneSpec).plain.varTypes Tryz.prog).any (Tryz.prog.mapsRec ·))) = true := by kernel_rfl
theorem jf14 : (((Rows.resilverNoneRow).ifaces == (Tryz.f5.params.toList ++ (Rows.resilverNoneSpec).plain.varTypes Tryz.prog).any (Tryz.prog.ifacesRec ·))) = true := by kernel_rfl
theorem jf15 : (((Rows.resilverNoneRow).mapsOut == Tryz.prog.mapsAmong Tryz.f5.resultTypes.toList)) = true := by kernel_rfl
theorem jf16 : (((Rows.resilverNoneRow).loops == (Tryz.f5.params.toList ++ (Rows.resilverNoneSpec).plain.varTypes Tryz.prog).any (Tryz.prog.loopsFrom ·))) = true := by kernel_rfl
theorem jf17 : (((Rows.resilverNoneRow).wideKeys == (Tryz.f5.params.toList ++ (Rows.resilverNoneSpec).plain.varTypes Tryz.prog ++ Tryz.f5.resultTypes.toList).any (Tryz.prog.wideKeysFrom ·))) = true := by kernel_rfl
theorem jf18 : ((Rows.resilverNoneSpec).vars.all (Tryz.prog.varReadable ·)) = true := by kernel_rfl
theorem jf19 : (Tryz.f5.resultTypes.all (fun t => Tryz.prog.readableRec t && decide (t < Tryz.prog.types.size))) = true := by kernel_rfl
theorem jf20 : (((Rows.resilverNoneRow).ifacesOut == Tryz.f5.resultTypes.toList.any (Tryz.prog.ifacesRec ·))) = true := by kernel_rfl
theorem jf21 : (((Rows.resilverNoneRow).loopsOut == Tryz.f5.resultTypes.toList.any (Tryz.prog.loopsFrom ·))) = true := by kernel_rfl
theorem jf22 : (((Rows.resilverNoneRow).plainKeys == Tryz.prog.plainKeys)) = true := by kernel_rfl
theorem jf23 : ((Rows.resilverNoneRow).shortTexts.isNone) = true := by kernel_rfl
theorem jf24 : (Tryz.prog.stopsHeard) = true := by kernel_rfl
theorem jf25 : (Tryz.prog.mayEnter) = true := by kernel_rfl
theorem jf26 : (((Rows.resilverNoneRow).lifted == Tryz.prog.liftsFinal)) = true := by kernel_rfl
theorem jf27 : ((Tryz.prog.make == some (Rows.resilverNoneRow).make)) = true := by kernel_rfl
theorem jf28 : (((Rows.resilverNoneRow).kinds == (if (Rows.resilverNoneRow).domain.isEmpty then [] else Tryz.f5.params.toList.map fun t => match Tryz.prog.underlying t with | some (.int k) => some k | _ => none))) = true := by kernel_rfl
theorem jf29 : (((Rows.resilverNoneRow).pinned == (Rows.resilverNoneRow).pinnedBy)) = true := by kernel_rfl
theorem jf30 : (((Rows.resilverNoneRow).veiled == (Tryz.f5.params.toList ++ (Rows.resilverNoneSpec).plain.varTypes Tryz.prog ++ Tryz.f5.resultTypes.toList).any (Tryz.prog.veiledRec ·))) = true := by kernel_rfl
theorem jf31 : ((Rows.resilverNoneRow).veiledFits Tryz.prog Tryz.f5.params.toList (Tryz.f5.params.toList ++ (Rows.resilverNoneSpec).plain.varTypes Tryz.prog ++ Tryz.f5.resultTypes.toList)) = true := by kernel_rfl
theorem jf : joinedFacts Tryz.prog 5 Tryz.f5 Rows.resilverNoneSpec Rows.resilverNoneRow = true := by
  unfold joinedFacts
  exact (andT (andT (andT (andT (andT (andT (andT (andT (andT (andT (andT (andT (andT (andT (andT (andT (andT (andT (andT (andT (andT (andT (andT (andT (andT (andT (andT (andT (andT (andT (andT jf0 jf1) jf2) jf3) jf4) jf5) jf6) jf7) jf8) jf9) jf10) jf11) jf12) jf13) jf14) jf15) jf16) jf17) jf18) jf19) jf20) jf21) jf22) jf23) jf24) jf25) jf26) jf27) jf28) jf29) jf30) jf31)
theorem cf1 : Tryz.pinned.checked.prog.funcNamed Rows.resilverNoneRow.func = some 5 := by kernel_rfl
theorem cf2 : Tryz.f5.isInstance Tryz.pinned.checked.prog Rows.resilverNoneRow.origin Rows.resilverNoneRow.targs := of_decide_eq_true (by kernel_rfl)
theorem cf3 : Tryz.f5.isWrapper Tryz.pinned.checked.prog Rows.resilverNoneRow.wrapper Rows.resilverNoneRow.mainSum := by unfold Func.isWrapper; first | (rw [if_pos (by decide +kernel)]; kernel_rfl) | (rw [if_neg (by decide +kernel)]; exact ⟨rfl, rfl⟩)
theorem cf4 : Rows.resilverNoneRow.wfByText (OpenSpec.ofChange Rows.resilverNoneSpec) = true := by kernel_rfl
theorem cf5 : Tryz.pinned.checked.prog.mainIs = some (((true, "7027be25ff07ab6982452c4339c87bc0ca108be1ea9a9dc1bc13c51c3fb37d3d") : Bool × String).1, ((true, "7027be25ff07ab6982452c4339c87bc0ca108be1ea9a9dc1bc13c51c3fb37d3d") : Bool × String).2.toList) := by kernel_rfl
theorem cf6 : true = Tryz.pinned.checked.prog.looks [] := by kernel_rfl
theorem cf7 : false = Rows.resilverNoneRow.goesBy Tryz.pinned.checked.prog := by kernel_rfl
theorem cf8 : ([3].all fun u => !Tryz.prog.wantsStandIn u) = true := by kernel_rfl
end resilverNone
end Go.Proofs.YtbamianefacbgaaGreatDoor
