import Derived.Test.YtbmfjlecnponaaaGreatDoorRows
import Derived.Test.YtbmfjlecnponaaaGreatDoorCards
import Derived.JoinedOf
import Derived.KernelRfl
import Derived.ProofKit
import Derived.SevenTiedAt
import Derived.Stop.Joined
set_option maxHeartbeats 8000000
namespace Go.Proofs.YtbmfjlecnponaaaGreatDoor
open Go
namespace scrubKnown
set_option maxRecDepth 100000
theorem andT {a b : Bool} (ha : a = true) (hb : b = true) : (a && b) = true := by rw [ha, hb]; rfl
theorem jf0 : ((Rows.scrubKnownRow).wf (OpenSpec.ofChange Rows.scrubKnownSpec)) = true := by kernel_rfl
theorem jf1 : (laidOutB Tryz.prog) = true := by kernel_rfl
theorem jf2 : (mapsRowed Tryz.prog) = true := by kernel_rfl
theorem jf3 : (Tryz.f4.params.all (Tryz.prog.readableRec ·)) = true := by kernel_rfl
theorem jf4 : (namedTie Tryz.prog (Rows.scrubKnownRow).named (Rows.scrubKnownSpec).vars) = true := by kernel_rfl
theorem jf5 : (((Rows.scrubKnownRow).stops == [])) = true := by kernel_rfl
theorem jf6 : ((Tryz.prog.stops == [])) = true := by kernel_rfl
theorem jf7 : (((Rows.scrubKnownRow).knobs == [])) = true := by kernel_rfl
theorem jf8 : ((Tryz.prog.stopKnobs == [])) = true := by kernel_rfl
theorem jf9 : (((Rows.scrubKnownRow).inPlace == Tryz.prog.inPlace 4)) = true := by kernel_rfl
theorem jf10 : (((Rows.scrubKnownRow).unfollowed == Tryz.prog.unfollowed 4)) = true := by kernel_rfl
theorem jf11 : (((Rows.scrubKnownRow).recurses == Tryz.prog.recurses 4)) = true := by kernel_rfl
theorem jf12 : (((Rows.scrubKnownRow).named == Tryz.prog.varsNamed 4)) = true := by kernel_rfl
theorem jf13 : (((Rows.scrubKnownRow).maps == (Tryz.f4.params.toList ++ (Rows.scrubKnownSpec).plain.varTypes Tryz.prog).any (Tryz.prog.mapsRec ·))) = true := by kernel_rfl
theorem jf14 : (((Rows.scrubKnownRow).ifaces == (Tryz.f4.params.toList ++ (Rows.scrubKnownSpec).plain.varTypes Tryz.prog).any (Tryz.prog.ifacesRec ·))) = true := by kernel_rfl
theorem jf15 : (((Rows.scrubKnownRow).mapsOut == Tryz.prog.mapsAmong Tryz.f4.resultTypes.toList)) = true := by kernel_rfl
theorem jf16 : (((Rows.scrubKnownRow).loops == (Tryz.f4.params.toList ++ (Rows.scrubKnownSpec).plain.varTypes Tryz.prog).any (Tryz.prog.loopsFrom ·))) = true := by kernel_rfl
theorem jf17 : (((Rows.scrubKnownRow).wideKeys == (Tryz.f4.params.toList ++ (Rows.scrubKnownSpec).plain.varTypes Tryz.prog ++ Tryz.f4.resultTypes.toList).any (Tryz.prog.wideKeysFrom ·))) = true := by kernel_rfl
theorem jf18 : ((Rows.scrubKnownSpec).vars.all (Tryz.prog.varReadable ·)) = true := by kernel_rfl
theorem jf19 : (Tryz.f4.resultTypes.all (fun t => Tryz.prog.readableRec t && decide (t < Tryz.prog.types.size))) = true := by kernel_rfl
theorem jf20 : (((Rows.scrubKnownRow).ifacesOut == Tryz.f4.resultTypes.toList.any (Tryz.prog.ifacesRec ·))) = true := by kernel_rfl
theorem jf21 : (((Rows.scrubKnownRow).loopsOut == Tryz.f4.resultTypes.toList.any (Tryz.prog.loopsFrom ·))) = true := by kernel_rfl
theorem jf22 : (((Rows.scrubKnownRow).plainKeys == Tryz.prog.plainKeys)) = true := by kernel_rfl
theorem jf23 : ((Rows.scrubKnownRow).shortTexts.isNone) = true := by kernel_rfl
theorem jf24 : (Tryz.prog.stopsHeard) = true := by kernel_rfl
theorem jf25 : (Tryz.prog.mayEnter) = true := by kernel_rfl
theorem jf26 : (((Rows.scrubKnownRow).lifted == Tryz.prog.liftsFinal)) = true := by kernel_rfl
theorem jf27 : ((Tryz.prog.make == some (Rows.scrubKnownRow).make)) = true := by kernel_rfl
theorem jf28 : (((Rows.scrubKnownRow).kinds == (if (Rows.scrubKnownRow).domain.isEmpty then [] else Tryz.f4.params.toList.map fun t => match Tryz.prog.underlying t with | some (.int k) => some k | _ => none))) = true := by kernel_rfl
theorem jf29 : (((Rows.scrubKnownRow).pinned == (Rows.scrubKnownRow).pinnedBy)) = true := by kernel_rfl
theorem jf30 : (((Rows.scrubKnownRow).veiled == (Tryz.f4.params.toList ++ (Rows.scrubKnownSpec).plain.varTypes Tryz.prog ++ Tryz.f4.resultTypes.toList).any (Tryz.prog.veiledRec ·))) = true := by kernel_rfl
theorem jf31 : ((Rows.scrubKnownRow).veiledFits Tryz.prog Tryz.f4.params.toList (Tryz.f4.params.toList ++ (Rows.scrubKnownSpec).plain.varTypes Tryz.prog ++ Tryz.f4.resultTypes.toList)) = true := by kernel_rfl
theorem jf : joinedFacts Tryz.prog 4 Tryz.f4 Rows.scrubKnownSpec Rows.scrubKnownRow = true := by
  unfold joinedFacts
  exact (andT (andT (andT (andT (andT (andT (andT (andT (andT (andT (andT (andT (andT (andT (andT (andT (andT (andT (andT (andT (andT (andT (andT (andT (andT (andT (andT (andT (andT (andT (andT jf0 jf1) jf2) jf3) jf4) jf5) jf6) jf7) jf8) jf9) jf10) jf11) jf12) jf13) jf14) jf15) jf16) jf17) jf18) jf19) jf20) jf21) jf22) jf23) jf24) jf25) jf26) jf27) jf28) jf29) jf30) jf31)
theorem cf1 : Tryz.pinned.checked.prog.funcNamed Rows.scrubKnownRow.func = some 4 := by kernel_rfl
theorem cf2 : Tryz.f4.isInstance Tryz.pinned.checked.prog Rows.scrubKnownRow.origin Rows.scrubKnownRow.targs := of_decide_eq_true (by kernel_rfl)
theorem cf3 : Tryz.f4.isWrapper Tryz.pinned.checked.prog Rows.scrubKnownRow.wrapper Rows.scrubKnownRow.mainSum := by unfold Func.isWrapper; first | (rw [if_pos (by decide +kernel)]; kernel_rfl) | (rw [if_neg (by decide +kernel)]; exact ⟨rfl, rfl⟩)
theorem cf4 : Rows.scrubKnownRow.wfByText (OpenSpec.ofChange Rows.scrubKnownSpec) = true := by kernel_rfl
theorem cf5 : Tryz.pinned.checked.prog.mainIs = some (((true, "49fb91091cb497753d8d6a7b4de6b76de13df1d4a0554aacd5896d04352eae88") : Bool × String).1, ((true, "49fb91091cb497753d8d6a7b4de6b76de13df1d4a0554aacd5896d04352eae88") : Bool × String).2.toList) := by kernel_rfl
theorem cf6 : true = Tryz.pinned.checked.prog.looks [] := by kernel_rfl
theorem cf7 : false = Rows.scrubKnownRow.goesBy Tryz.pinned.checked.prog := by kernel_rfl
end scrubKnown
end Go.Proofs.YtbmfjlecnponaaaGreatDoor
