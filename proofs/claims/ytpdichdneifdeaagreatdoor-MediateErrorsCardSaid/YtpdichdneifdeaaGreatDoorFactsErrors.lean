/- The closed facts of the row of MediateErrors. -/
import Derived.Test.YtpdichdneifdeaaGreatDoorLawA
import Derived.JoinedOf
import Derived.SevenTiedAt
namespace Go.Ev
open Go.Proofs Go.Proofs.YtpdichdneifdeaaGreatDoor
set_option maxRecDepth 100000
theorem mediateErrors_k0 : (Rows.mediateErrorsRow.wf (OpenSpec.ofChange Rows.mediateErrorsSpec)) = true := by kernel_rfl
theorem mediateErrors_k1 : (laidOutB Tryz.prog) = true := by kernel_rfl
theorem mediateErrors_k2 : (mapsRowed Tryz.prog) = true := by kernel_rfl
theorem mediateErrors_k3 : (Tryz.f5.params.all (Tryz.prog.readableRec ·)) = true := by kernel_rfl
theorem mediateErrors_k4 : (namedTie Tryz.prog Rows.mediateErrorsRow.named Rows.mediateErrorsSpec.vars) = true := by kernel_rfl
theorem mediateErrors_k5 : ((Rows.mediateErrorsRow.stops == [])) = true := by kernel_rfl
theorem mediateErrors_k6 : ((Tryz.prog.stops == [])) = true := by kernel_rfl
theorem mediateErrors_k7 : ((Rows.mediateErrorsRow.knobs == [])) = true := by kernel_rfl
theorem mediateErrors_k8 : ((Tryz.prog.stopKnobs == [])) = true := by kernel_rfl
theorem mediateErrors_k9 : ((Rows.mediateErrorsRow.inPlace == Tryz.prog.inPlace 5)) = true := by kernel_rfl
theorem mediateErrors_k10 : ((Rows.mediateErrorsRow.unfollowed == Tryz.prog.unfollowed 5)) = true := by kernel_rfl
theorem mediateErrors_k11 : ((Rows.mediateErrorsRow.recurses == Tryz.prog.recurses 5)) = true := by kernel_rfl
theorem mediateErrors_k12 : ((Rows.mediateErrorsRow.named == Tryz.prog.varsNamed 5)) = true := by kernel_rfl
theorem mediateErrors_k13 : ((Rows.mediateErrorsRow.maps == (Tryz.f5.params.toList ++ Rows.mediateErrorsSpec.plain.varTypes Tryz.prog).any (Tryz.prog.mapsRec ·))) = true := by kernel_rfl
theorem mediateErrors_k14 : ((Rows.mediateErrorsRow.ifaces == (Tryz.f5.params.toList ++ Rows.mediateErrorsSpec.plain.varTypes Tryz.prog).any (Tryz.prog.ifacesRec ·))) = true := by kernel_rfl
theorem mediateErrors_k15 : ((Rows.mediateErrorsRow.mapsOut == Tryz.prog.mapsAmong Tryz.f5.resultTypes.toList)) = true := by kernel_rfl
theorem mediateErrors_k16 : ((Rows.mediateErrorsRow.loops == (Tryz.f5.params.toList ++ Rows.mediateErrorsSpec.plain.varTypes Tryz.prog).any (Tryz.prog.loopsFrom ·))) = true := by kernel_rfl
theorem mediateErrors_k17 : ((Rows.mediateErrorsRow.wideKeys == (Tryz.f5.params.toList ++ Rows.mediateErrorsSpec.plain.varTypes Tryz.prog ++ Tryz.f5.resultTypes.toList).any (Tryz.prog.wideKeysFrom ·))) = true := by kernel_rfl
theorem mediateErrors_k18 : (Rows.mediateErrorsSpec.vars.all (Tryz.prog.varReadable ·)) = true := by kernel_rfl
theorem mediateErrors_k19 : (Tryz.f5.resultTypes.all (fun t => Tryz.prog.readableRec t && decide (t < Tryz.prog.types.size))) = true := by kernel_rfl
theorem mediateErrors_k20 : ((Rows.mediateErrorsRow.ifacesOut == Tryz.f5.resultTypes.toList.any (Tryz.prog.ifacesRec ·))) = true := by kernel_rfl
theorem mediateErrors_k21 : ((Rows.mediateErrorsRow.loopsOut == Tryz.f5.resultTypes.toList.any (Tryz.prog.loopsFrom ·))) = true := by kernel_rfl
theorem mediateErrors_k22 : ((Rows.mediateErrorsRow.plainKeys == Tryz.prog.plainKeys)) = true := by kernel_rfl
theorem mediateErrors_k23 : (Rows.mediateErrorsRow.shortTexts.isNone) = true := by kernel_rfl
theorem mediateErrors_k24 : (Tryz.prog.stopsHeard) = true := by kernel_rfl
theorem mediateErrors_k25 : (Tryz.prog.mayEnter) = true := by kernel_rfl
theorem mediateErrors_k26 : ((Rows.mediateErrorsRow.lifted == Tryz.prog.liftsFinal)) = true := by kernel_rfl
theorem mediateErrors_k27 : ((Tryz.prog.make == some Rows.mediateErrorsRow.make)) = true := by kernel_rfl
theorem mediateErrors_k28 : ((Rows.mediateErrorsRow.kinds == (if Rows.mediateErrorsRow.domain.isEmpty then [] else Tryz.f5.params.toList.map fun t => match Tryz.prog.underlying t with | some (.int k) => some k | _ => none))) = true := by kernel_rfl
theorem mediateErrors_k29 : ((Rows.mediateErrorsRow.pinned == Rows.mediateErrorsRow.pinnedBy)) = true := by kernel_rfl
theorem mediateErrors_k30 : ((Rows.mediateErrorsRow.veiled == (Tryz.f5.params.toList ++ Rows.mediateErrorsSpec.plain.varTypes Tryz.prog ++ Tryz.f5.resultTypes.toList).any (Tryz.prog.veiledRec ·))) = true := by kernel_rfl
theorem mediateErrors_k31 : (Rows.mediateErrorsRow.veiledFits Tryz.prog Tryz.f5.params.toList (Tryz.f5.params.toList ++ Rows.mediateErrorsSpec.plain.varTypes Tryz.prog ++ Tryz.f5.resultTypes.toList)) = true := by kernel_rfl
theorem mediateErrors_closed : joinedFacts Tryz.prog 5 Tryz.f5 Rows.mediateErrorsSpec Rows.mediateErrorsRow = true := by
  unfold joinedFacts
  simp only [Bool.and_eq_true]
  exact ⟨⟨⟨⟨⟨⟨⟨⟨⟨⟨⟨⟨⟨⟨⟨⟨⟨⟨⟨⟨⟨⟨⟨⟨⟨⟨⟨⟨⟨⟨⟨mediateErrors_k0, mediateErrors_k1⟩, mediateErrors_k2⟩, mediateErrors_k3⟩, mediateErrors_k4⟩, mediateErrors_k5⟩, mediateErrors_k6⟩, mediateErrors_k7⟩, mediateErrors_k8⟩, mediateErrors_k9⟩, mediateErrors_k10⟩, mediateErrors_k11⟩, mediateErrors_k12⟩, mediateErrors_k13⟩, mediateErrors_k14⟩, mediateErrors_k15⟩, mediateErrors_k16⟩, mediateErrors_k17⟩, mediateErrors_k18⟩, mediateErrors_k19⟩, mediateErrors_k20⟩, mediateErrors_k21⟩, mediateErrors_k22⟩, mediateErrors_k23⟩, mediateErrors_k24⟩, mediateErrors_k25⟩, mediateErrors_k26⟩, mediateErrors_k27⟩, mediateErrors_k28⟩, mediateErrors_k29⟩, mediateErrors_k30⟩, mediateErrors_k31⟩
end Go.Ev
namespace Go.Ev
open Go Go.Proofs Go.Proofs.YtpdichdneifdeaaGreatDoor
set_option maxRecDepth 100000
theorem main_is : Tryz.prog.mainIs = some (true, "64282d3c2cb90de4524e8e4f35b6698293a8be25d41747b674317372f272a8f5".toList) := by kernel_rfl
theorem no_looks : false = Tryz.prog.looks [] := by kernel_rfl
theorem no_stands : (([3, 4] : List Nat).all fun u => !Tryz.prog.wantsStandIn u) = true := by kernel_rfl
end Go.Ev
namespace Go.Ev
open Go Go.Proofs Go.Proofs.YtpdichdneifdeaaGreatDoor
set_option maxRecDepth 100000
theorem mediateErrors_wf : Rows.mediateErrorsRow.wfByText (OpenSpec.ofChange Rows.mediateErrorsSpec) = true := by kernel_rfl
theorem mediateErrors_goes : false = Rows.mediateErrorsRow.goesBy Tryz.pinned.checked.prog := by kernel_rfl
theorem mediateErrors_named : Tryz.prog.funcNamed "newel/newellaw23.MediateErrors" = some 5 := by kernel_rfl
end Go.Ev
