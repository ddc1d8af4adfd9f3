import Derived.Test.YtkgcignjblgifaaGreatDoorRows
import Derived.Test.YtkgcignjblgifaaGreatDoorCards
import Derived.JoinedOf
import Derived.KernelRfl
import Derived.ProofKit
import Derived.SevenTiedAt
import Derived.Stop.Joined
namespace Go.Proofs.YtkgcignjblgifaaGreatDoor
open Go
namespace poolNone
set_option maxRecDepth 100000
theorem andT {a b : Bool} (ha : a = true) (hb : b = true) : (a && b) = true := by rw [ha, hb]; rfl
theorem jf0 : ((Rows.poolNoneRow).wf (OpenSpec.ofChange Rows.poolNoneSpec)) = true := by kernel_rfl
theorem jf1 : (laidOutB Tryz.prog) = true := by kernel_rfl
theorem jf2 : (mapsRowed Tryz.prog) = true := by kernel_rfl
theorem jf3 : (Tryz.f3.params.all (Tryz.prog.readableRec ·)) = true := by kernel_rfl
theorem jf4 : (namedTie Tryz.prog (Rows.poolNoneRow).named (Rows.poolNoneSpec).vars) = true := by kernel_rfl
theorem jf5 : (((Rows.poolNoneRow).stops == [])) = true := by kernel_rfl
theorem jf6 : ((Tryz.prog.stops == [])) = true := by kernel_rfl
theorem jf7 : (((Rows.poolNoneRow).knobs == [])) = true := by kernel_rfl
theorem jf8 : ((Tryz.prog.stopKnobs == [])) = true := by kernel_rfl
theorem jf9 : (((Rows.poolNoneRow).inPlace == Tryz.prog.inPlace 3)) = true := by kernel_rfl
theorem jf10 : (((Rows.poolNoneRow).unfollowed == Tryz.prog.unfollowed 3)) = true := by kernel_rfl
theorem jf11 : (((Rows.poolNoneRow).recurses == Tryz.prog.recurses 3)) = true := by kernel_rfl
theorem jf12 : (((Rows.poolNoneRow).named == Tryz.prog.varsNamed 3)) = true := by kernel_rfl
theorem jf13 : (((Rows.poolNoneRow).maps == (Tryz.f3.params.toList ++ (Rows.poolNoneSpec).plain.varTypes Tryz.prog).any (Tryz.prog.mapsRec ·))) = true := by kernel_rfl
theorem jf14 : (((Rows.poolNoneRow).ifaces == (Tryz.f3.params.toList ++ (Rows.poolNoneSpec).plain.varTypes Tryz.prog).any (Tryz.prog.ifacesRec ·))) = true := by kernel_rfl
theorem jf15 : (((Rows.poolNoneRow).mapsOut == Tryz.prog.mapsAmong Tryz.f3.resultTypes.toList)) = true := by kernel_rfl
theorem jf16 : (((Rows.poolNoneRow).loops == (Tryz.f3.params.toList ++ (Rows.poolNoneSpec).plain.varTypes Tryz.prog).any (Tryz.prog.loopsFrom ·))) = true := by kernel_rfl
theorem jf17 : (((Rows.poolNoneRow).wideKeys == (Tryz.f3.params.toList ++ (Rows.poolNoneSpec).plain.varTypes Tryz.prog ++ Tryz.f3.resultTypes.toList).any (Tryz.prog.wideKeysFrom ·))) = true := by kernel_rfl
theorem jf18 : ((Rows.poolNoneSpec).vars.all (Tryz.prog.varReadable ·)) = true := by kernel_rfl
theorem jf19 : (Tryz.f3.resultTypes.all (fun t => Tryz.prog.readableRec t && decide (t < Tryz.prog.types.size))) = true := by kernel_rfl
theorem jf20 : (((Rows.poolNoneRow).ifacesOut == Tryz.f3.resultTypes.toList.any (Tryz.prog.ifacesRec ·))) = true := by kernel_rfl
theorem jf21 : (((Rows.poolNoneRow).loopsOut == Tryz.f3.resultTypes.toList.any (Tryz.prog.loopsFrom ·))) = true := by kernel_rfl
theorem jf22 : (((Rows.poolNoneRow).plainKeys == Tryz.prog.plainKeys)) = true := by kernel_rfl
theorem jf23 : ((Rows.poolNoneRow).shortTexts.isNone) = true := by kernel_rfl
theorem jf24 : (Tryz.prog.stopsHeard) = true := by kernel_rfl
theorem jf25 : (Tryz.prog.mayEnter) = true := by kernel_rfl
theorem jf26 : (((Rows.poolNoneRow).lifted == Tryz.prog.liftsFinal)) = true := by kernel_rfl
theorem jf27 : ((Tryz.prog.make == some (Rows.poolNoneRow).make)) = true := by kernel_rfl
theorem jf28 : (((Rows.poolNoneRow).kinds == (if (Rows.poolNoneRow).domain.isEmpty then [] else Tryz.f3.params.toList.map fun t => match Tryz.prog.underlying t with | some (.int k) => some k | _ => none))) = true := by kernel_rfl
theorem jf29 : (((Rows.poolNoneRow).pinned == (Rows.poolNoneRow).pinnedBy)) = true := by kernel_rfl
theorem jf30 : (((Rows.poolNoneRow).veiled == (Tryz.f3.params.toList ++ (Rows.poolNoneSpec).plain.varTypes Tryz.prog ++ Tryz.f3.resultTypes.toList).any (Tryz.prog.veiledRec ·))) = true := by kernel_rfl
theorem jf31 : ((Rows.poolNoneRow).veiledFits Tryz.prog Tryz.f3.params.toList (Tryz.f3.params.toList ++ (Rows.poolNoneSpec).plain.varTypes Tryz.prog ++ Tryz.f3.resultTypes.toList)) = true := by kernel_rfl
theorem jf : joinedFacts Tryz.prog 3 Tryz.f3 Rows.poolNoneSpec Rows.poolNoneRow = true := by
  unfold joinedFacts
  exact (andT (andT (andT (andT (andT (andT (andT (andT (andT (andT (andT (andT (andT (andT (andT (andT (andT (andT (andT (andT (andT (andT (andT (andT (andT (andT (andT (andT (andT (andT (andT jf0 jf1) jf2) jf3) jf4) jf5) jf6) jf7) jf8) jf9) jf10) jf11) jf12) jf13) jf14) jf15) jf16) jf17) jf18) jf19) jf20) jf21) jf22) jf23) jf24) jf25) jf26) jf27) jf28) jf29) jf30) jf31)
theorem cf1 : Tryz.pinned.checked.prog.funcNamed Rows.poolNoneRow.func = some 3 := by kernel_rfl
theorem cf2 : Tryz.f3.isInstance Tryz.pinned.checked.prog Rows.poolNoneRow.origin Rows.poolNoneRow.targs := of_decide_eq_true (by kernel_rfl)
theorem cf3 : Tryz.f3.isWrapper Tryz.pinned.checked.prog Rows.poolNoneRow.wrapper Rows.poolNoneRow.mainSum := by unfold Func.isWrapper; first | (rw [if_pos (by decide +kernel)]; kernel_rfl) | (rw [if_neg (by decide +kernel)]; exact ⟨rfl, rfl⟩)
theorem cf4 : Rows.poolNoneRow.wfByText (OpenSpec.ofChange Rows.poolNoneSpec) = true := by kernel_rfl
theorem cf5 : Tryz.pinned.checked.prog.mainIs = some (((true, "cbb7302e7709ae8de86530219339a063e1d96191601844cbf93c27ad55cd13e3") : Bool × String).1, ((true, "cbb7302e7709ae8de86530219339a063e1d96191601844cbf93c27ad55cd13e3") : Bool × String).2.toList) := by kernel_rfl
theorem cf6 : true = Tryz.pinned.checked.prog.looks [] := by kernel_rfl
theorem cf7 : false = Rows.poolNoneRow.goesBy Tryz.pinned.checked.prog := by kernel_rfl
theorem cf8 : ([40].all fun u => !Tryz.prog.wantsStandIn u) = true := by kernel_rfl
end poolNone
end Go.Proofs.YtkgcignjblgifaaGreatDoor
