import Derived.Test.YtkgcignjblgifaaGreatDoorRows
import Derived.Test.YtkgcignjblgifaaGreatDoorCards
import Derived.JoinedOf
import Derived.KernelRfl
import Derived.ProofKit
import Derived.SevenTiedAt
import Derived.Stop.Joined
set_option maxHeartbeats 8000000
namespace Go.Proofs.YtkgcignjblgifaaGreatDoor
open Go
namespace poolKnown
set_option maxRecDepth 100000
theorem andT {a b : Bool} (ha : a = true) (hb : b = true) : (a && b) = true := by rw [ha, hb]; rfl
theorem jf0 : ((Rows.poolKnownRow).wf (OpenSpec.ofChange Rows.poolKnownSpec)) = true := by kernel_rfl
theorem jf1 : (laidOutB Tryz.prog) = true := by kernel_rfl
theorem jf2 : (mapsRowed Tryz.prog) = true := by kernel_rfl
theorem jf3 : (Tryz.f4.params.all (Tryz.prog.readableRec ·)) = true := by kernel_rfl
theorem jf4 : (namedTie Tryz.prog (Rows.poolKnownRow).named (Rows.poolKnownSpec).vars) = true := by kernel_rfl
theorem jf5 : (((Rows.poolKnownRow).stops == [])) = true := by kernel_rfl
theorem jf6 : ((Tryz.prog.stops == [])) = true := by kernel_rfl
theorem jf7 : (((Rows.poolKnownRow).knobs == [])) = true := by kernel_rfl
theorem jf8 : ((Tryz.prog.stopKnobs == [])) = true := by kernel_rfl
theorem jf9 : (((Rows.poolKnownRow).inPlace == Tryz.prog.inPlace 4)) = true := by kernel_rfl
theorem jf10 : (((Rows.poolKnownRow).unfollowed == Tryz.prog.unfollowed 4)) = true := by kernel_rfl
theorem jf11 : (((Rows.poolKnownRow).recurses == Tryz.prog.recurses 4)) = true := by kernel_rfl
theorem jf12 : (((Rows.poolKnownRow).named == Tryz.prog.varsNamed 4)) = true := by kernel_rfl
theorem jf13 : (((Rows.poolKnownRow).maps == (Tryz.f4.params.toList ++ (Rows.poolKnownSpec).plain.varTypes Tryz.prog).any (Tryz.prog.mapsRec ·))) = true := by kernel_rfl
theorem jf14 : (((Rows.poolKnownRow).ifaces == (Tryz.f4.params.toList ++ (Rows.poolKnownSpec).plain.varTypes Tryz.prog).any (Tryz.prog.ifacesRec ·))) = true := by kernel_rfl
theorem jf15 : (((Rows.poolKnownRow).mapsOut == Tryz.prog.mapsAmong Tryz.f4.resultTypes.toList)) = true := by kernel_rfl
theorem jf16 : (((Rows.poolKnownRow).loops == (Tryz.f4.params.toList ++ (Rows.poolKnownSpec).plain.varTypes Tryz.prog).any (Tryz.prog.loopsFrom ·))) = true := by kernel_rfl
theorem jf17 : (((Rows.poolKnownRow).wideKeys == (Tryz.f4.params.toList ++ (Rows.poolKnownSpec).plain.varTypes Tryz.prog ++ Tryz.f4.resultTypes.toList).any (Tryz.prog.wideKeysFrom ·))) = true := by kernel_rfl
theorem jf18 : ((Rows.poolKnownSpec).vars.all (Tryz.prog.varReadable ·)) = true := by kernel_rfl
theorem jf19 : (Tryz.f4.resultTypes.all (fun t => Tryz.prog.readableRec t && decide (t < Tryz.prog.types.size))) = true := by kernel_rfl
theorem jf20 : (((Rows.poolKnownRow).ifacesOut == Tryz.f4.resultTypes.toList.any (Tryz.prog.ifacesRec ·))) = true := by kernel_rfl
theorem jf21 : (((Rows.poolKnownRow).loopsOut == Tryz.f4.resultTypes.toList.any (Tryz.prog.loopsFrom ·))) = true := by kernel_rfl
theorem jf22 : (((Rows.poolKnownRow).plainKeys == Tryz.prog.plainKeys)) = true := by kernel_rfl
theorem jf23 : ((Rows.poolKnownRow).shortTexts.isNone) = true := by kernel_rfl
theorem jf24 : (Tryz.prog.stopsHeard) = true := by kernel_rfl
theorem jf25 : (Tryz.prog.mayEnter) = true := by kernel_rfl
theorem jf26 : (((Rows.poolKnownRow).lifted == Tryz.prog.liftsFinal)) = true := by kernel_rfl
theorem jf27 : ((Tryz.prog.make == some (Rows.poolKnownRow).make)) = true := by kernel_rfl
theorem jf28 : (((Rows.poolKnownRow).kinds == (if (Rows.poolKnownRow).domain.isEmpty then [] else Tryz.f4.params.toList.map fun t => match Tryz.prog.underlying t with | some (.int k) => some k | _ => none))) = true := by kernel_rfl
theorem jf29 : (((Rows.poolKnownRow).pinned == (Rows.poolKnownRow).pinnedBy)) = true := by kernel_rfl
theorem jf30 : (((Rows.poolKnownRow).veiled == (Tryz.f4.params.toList ++ (Rows.poolKnownSpec).plain.varTypes Tryz.prog ++ Tryz.f4.resultTypes.toList).any (Tryz.prog.veiledRec ·))) = true := by kernel_rfl
theorem jf31 : ((Rows.poolKnownRow).veiledFits Tryz.prog Tryz.f4.params.toList (Tryz.f4.params.toList ++ (Rows.poolKnownSpec).plain.varTypes Tryz.prog ++ Tryz.f4.resultTypes.toList)) = true := by kernel_rfl
theorem jf : joinedFacts Tryz.prog 4 Tryz.f4 Rows.poolKnownSpec Rows.poolKnownRow = true := by
  unfold joinedFacts
  exact (andT (andT (andT (andT (andT (andT (andT (andT (andT (andT (andT (andT (andT (andT (andT (andT (andT (andT (andT (andT (andT (andT (andT (andT (andT (andT (andT (andT (andT (andT (andT jf0 jf1) jf2) jf3) jf4) jf5) jf6) jf7) jf8) jf9) jf10) jf11) jf12) jf13) jf14) jf15) jf16) jf17) jf18) jf19) jf20) jf21) jf22) jf23) jf24) jf25) jf26) jf27) jf28) jf29) jf30) jf31)
theorem cf1 : Tryz.pinned.checked.prog.funcNamed Rows.poolKnownRow.func = some 4 := by kernel_rfl
theorem cf2 : Tryz.f4.isInstance Tryz.pinned.checked.prog Rows.poolKnownRow.origin Rows.poolKnownRow.targs := of_decide_eq_true (by kernel_rfl)
theorem cf3 : Tryz.f4.isWrapper Tryz.pinned.checked.prog Rows.poolKnownRow.wrapper Rows.poolKnownRow.mainSum := by unfold Func.isWrapper; first | (rw [if_pos (by decide +kernel)]; kernel_rfl) | (rw [if_neg (by decide +kernel)]; exact ⟨rfl, rfl⟩)
theorem cf4 : Rows.poolKnownRow.wfByText (OpenSpec.ofChange Rows.poolKnownSpec) = true := by kernel_rfl
theorem cf5 : Tryz.pinned.checked.prog.mainIs = some (((true, "cbb7302e7709ae8de86530219339a063e1d96191601844cbf93c27ad55cd13e3") : Bool × String).1, ((true, "cbb7302e7709ae8de86530219339a063e1d96191601844cbf93c27ad55cd13e3") : Bool × String).2.toList) := by kernel_rfl
theorem cf6 : true = Tryz.pinned.checked.prog.looks [] := by kernel_rfl
theorem cf7 : false = Rows.poolKnownRow.goesBy Tryz.pinned.checked.prog := by kernel_rfl
end poolKnown
end Go.Proofs.YtkgcignjblgifaaGreatDoor
