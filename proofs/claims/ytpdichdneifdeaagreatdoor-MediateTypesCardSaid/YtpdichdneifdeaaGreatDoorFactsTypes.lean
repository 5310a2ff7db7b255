/- The closed facts of the row of MediateTypes. -/
import Derived.Test.YtpdichdneifdeaaGreatDoorLawA
import Derived.JoinedOf
import Derived.SevenTiedAt
namespace Go.Ev
open Go.Proofs Go.Proofs.YtpdichdneifdeaaGreatDoor
set_option maxRecDepth 100000
theorem mediateTypes_k0 : (Rows.mediateTypesRow.wf (OpenSpec.ofChange Rows.mediateTypesSpec)) = true := by kernel_rfl
theorem mediateTypes_k1 : (laidOutB Tryz.prog) = true := by kernel_rfl
theorem mediateTypes_k2 : (mapsRowed Tryz.prog) = true := by kernel_rfl
theorem mediateTypes_k3 : (Tryz.f10.params.all (Tryz.prog.readableRec ·)) = true := by kernel_rfl
theorem mediateTypes_k4 : (namedTie Tryz.prog Rows.mediateTypesRow.named Rows.mediateTypesSpec.vars) = true := by kernel_rfl
theorem mediateTypes_k5 : ((Rows.mediateTypesRow.stops == [])) = true := by kernel_rfl
theorem mediateTypes_k6 : ((Tryz.prog.stops == [])) = true := by kernel_rfl
theorem mediateTypes_k7 : ((Rows.mediateTypesRow.knobs == [])) = true := by kernel_rfl
theorem mediateTypes_k8 : ((Tryz.prog.stopKnobs == [])) = true := by kernel_rfl
theorem mediateTypes_k9 : ((Rows.mediateTypesRow.inPlace == Tryz.prog.inPlace 10)) = true := by kernel_rfl
theorem mediateTypes_k10 : ((Rows.mediateTypesRow.unfollowed == Tryz.prog.unfollowed 10)) = true := by kernel_rfl
theorem mediateTypes_k11 : ((Rows.mediateTypesRow.recurses == Tryz.prog.recurses 10)) = true := by kernel_rfl
theorem mediateTypes_k12 : ((Rows.mediateTypesRow.named == Tryz.prog.varsNamed 10)) = true := by kernel_rfl
theorem mediateTypes_k13 : ((Rows.mediateTypesRow.maps == (Tryz.f10.params.toList ++ Rows.mediateTypesSpec.plain.varTypes Tryz.prog).any (Tryz.prog.mapsRec ·))) = true := by kernel_rfl
theorem mediateTypes_k14 : ((Rows.mediateTypesRow.ifaces == (Tryz.f10.params.toList ++ Rows.mediateTypesSpec.plain.varTypes Tryz.prog).any (Tryz.prog.ifacesRec ·))) = true := by kernel_rfl
theorem mediateTypes_k15 : ((Rows.mediateTypesRow.mapsOut == Tryz.prog.mapsAmong Tryz.f10.resultTypes.toList)) = true := by kernel_rfl
theorem mediateTypes_k16 : ((Rows.mediateTypesRow.loops == (Tryz.f10.params.toList ++ Rows.mediateTypesSpec.plain.varTypes Tryz.prog).any (Tryz.prog.loopsFrom ·))) = true := by kernel_rfl
theorem mediateTypes_k17 : ((Rows.mediateTypesRow.wideKeys == (Tryz.f10.params.toList ++ Rows.mediateTypesSpec.plain.varTypes Tryz.prog ++ Tryz.f10.resultTypes.toList).any (Tryz.prog.wideKeysFrom ·))) = true := by kernel_rfl
theorem mediateTypes_k18 : (Rows.mediateTypesSpec.vars.all (Tryz.prog.varReadable ·)) = true := by kernel_rfl
theorem mediateTypes_k19 : (Tryz.f10.resultTypes.all (fun t => Tryz.prog.readableRec t && decide (t < Tryz.prog.types.size))) = true := by kernel_rfl
theorem mediateTypes_k20 : ((Rows.mediateTypesRow.ifacesOut == Tryz.f10.resultTypes.toList.any (Tryz.prog.ifacesRec ·))) = true := by kernel_rfl
theorem mediateTypes_k21 : ((Rows.mediateTypesRow.loopsOut == Tryz.f10.resultTypes.toList.any (Tryz.prog.loopsFrom ·))) = true := by kernel_rfl
theorem mediateTypes_k22 : ((Rows.mediateTypesRow.plainKeys == Tryz.prog.plainKeys)) = true := by kernel_rfl
theorem mediateTypes_k23 : (Rows.mediateTypesRow.shortTexts.isNone) = true := by kernel_rfl
theorem mediateTypes_k24 : (Tryz.prog.stopsHeard) = true := by kernel_rfl
theorem mediateTypes_k25 : (Tryz.prog.mayEnter) = true := by kernel_rfl
theorem mediateTypes_k26 : ((Rows.mediateTypesRow.lifted == Tryz.prog.liftsFinal)) = true := by kernel_rfl
theorem mediateTypes_k27 : ((Tryz.prog.make == some Rows.mediateTypesRow.make)) = true := by kernel_rfl
theorem mediateTypes_k28 : ((Rows.mediateTypesRow.kinds == (if Rows.mediateTypesRow.domain.isEmpty then [] else Tryz.f10.params.toList.map fun t => match Tryz.prog.underlying t with | some (.int k) => some k | _ => none))) = true := by kernel_rfl
theorem mediateTypes_k29 : ((Rows.mediateTypesRow.pinned == Rows.mediateTypesRow.pinnedBy)) = true := by kernel_rfl
theorem mediateTypes_k30 : ((Rows.mediateTypesRow.veiled == (Tryz.f10.params.toList ++ Rows.mediateTypesSpec.plain.varTypes Tryz.prog ++ Tryz.f10.resultTypes.toList).any (Tryz.prog.veiledRec ·))) = true := by kernel_rfl
theorem mediateTypes_k31 : (Rows.mediateTypesRow.veiledFits Tryz.prog Tryz.f10.params.toList (Tryz.f10.params.toList ++ Rows.mediateTypesSpec.plain.varTypes Tryz.prog ++ Tryz.f10.resultTypes.toList)) = true := by kernel_rfl
theorem mediateTypes_closed : joinedFacts Tryz.prog 10 Tryz.f10 Rows.mediateTypesSpec Rows.mediateTypesRow = true := by
  unfold joinedFacts
  simp only [Bool.and_eq_true]
  exact ⟨⟨⟨⟨⟨⟨⟨⟨⟨⟨⟨⟨⟨⟨⟨⟨⟨⟨⟨⟨⟨⟨⟨⟨⟨⟨⟨⟨⟨⟨⟨mediateTypes_k0, mediateTypes_k1⟩, mediateTypes_k2⟩, mediateTypes_k3⟩, mediateTypes_k4⟩, mediateTypes_k5⟩, mediateTypes_k6⟩, mediateTypes_k7⟩, mediateTypes_k8⟩, mediateTypes_k9⟩, mediateTypes_k10⟩, mediateTypes_k11⟩, mediateTypes_k12⟩, mediateTypes_k13⟩, mediateTypes_k14⟩, mediateTypes_k15⟩, mediateTypes_k16⟩, mediateTypes_k17⟩, mediateTypes_k18⟩, mediateTypes_k19⟩, mediateTypes_k20⟩, mediateTypes_k21⟩, mediateTypes_k22⟩, mediateTypes_k23⟩, mediateTypes_k24⟩, mediateTypes_k25⟩, mediateTypes_k26⟩, mediateTypes_k27⟩, mediateTypes_k28⟩, mediateTypes_k29⟩, mediateTypes_k30⟩, mediateTypes_k31⟩
end Go.Ev
namespace Go.Ev
open Go Go.Proofs Go.Proofs.YtpdichdneifdeaaGreatDoor
set_option maxRecDepth 100000
theorem main_is : Tryz.prog.mainIs = some (true, "64282d3c2cb90de4524e8e4f35b6698293a8be25d41747b674317372f272a8f5".toList) := by kernel_rfl
theorem no_looks : false = Tryz.prog.looks [] := by kernel_rfl
theorem no_stands : (([3, 4] : List Nat).all fun u => !Tryz.prog.wantsStandIn u) = true := by kernel_rfl
end Go.Ev
namespace Go.Ev
open Go Go.Proofs Go.Proofs.YtpdichdneifdeaaGreatDoor
set_option maxRecDepth 100000
theorem mediateTypes_wf : Rows.mediateTypesRow.wfByText (OpenSpec.ofChange Rows.mediateTypesSpec) = true := by kernel_rfl
theorem mediateTypes_goes : false = Rows.mediateTypesRow.goesBy Tryz.pinned.checked.prog := by kernel_rfl
theorem mediateTypes_named : Tryz.prog.funcNamed "newel/newellaw23.MediateTypes" = some 10 := by kernel_rfl
end Go.Ev
