/- The closed facts of the row of MediateOptional. -/
import Derived.Test.YtpdichdneifdeaaGreatDoorLawA
import Derived.JoinedOf
import Derived.SevenTiedAt
namespace Go.Ev
open Go.Proofs Go.Proofs.YtpdichdneifdeaaGreatDoor
set_option maxRecDepth 100000
theorem mediateOptional_k0 : (Rows.mediateOptionalRow.wf (OpenSpec.ofChange Rows.mediateOptionalSpec)) = true := by kernel_rfl
theorem mediateOptional_k1 : (laidOutB Tryz.prog) = true := by kernel_rfl
theorem mediateOptional_k2 : (mapsRowed Tryz.prog) = true := by kernel_rfl
theorem mediateOptional_k3 : (Tryz.f7.params.all (Tryz.prog.readableRec ·)) = true := by kernel_rfl
theorem mediateOptional_k4 : (namedTie Tryz.prog Rows.mediateOptionalRow.named Rows.mediateOptionalSpec.vars) = true := by kernel_rfl
theorem mediateOptional_k5 : ((Rows.mediateOptionalRow.stops == [])) = true := by kernel_rfl
theorem mediateOptional_k6 : ((Tryz.prog.stops == [])) = true := by kernel_rfl
theorem mediateOptional_k7 : ((Rows.mediateOptionalRow.knobs == [])) = true := by kernel_rfl
theorem mediateOptional_k8 : ((Tryz.prog.stopKnobs == [])) = true := by kernel_rfl
theorem mediateOptional_k9 : ((Rows.mediateOptionalRow.inPlace == Tryz.prog.inPlace 7)) = true := by kernel_rfl
theorem mediateOptional_k10 : ((Rows.mediateOptionalRow.unfollowed == Tryz.prog.unfollowed 7)) = true := by kernel_rfl
theorem mediateOptional_k11 : ((Rows.mediateOptionalRow.recurses == Tryz.prog.recurses 7)) = true := by kernel_rfl
theorem mediateOptional_k12 : ((Rows.mediateOptionalRow.named == Tryz.prog.varsNamed 7)) = true := by kernel_rfl
theorem mediateOptional_k13 : ((Rows.mediateOptionalRow.maps == (Tryz.f7.params.toList ++ Rows.mediateOptionalSpec.plain.varTypes Tryz.prog).any (Tryz.prog.mapsRec ·))) = true := by kernel_rfl
theorem mediateOptional_k14 : ((Rows.mediateOptionalRow.ifaces == (Tryz.f7.params.toList ++ Rows.mediateOptionalSpec.plain.varTypes Tryz.prog).any (Tryz.prog.ifacesRec ·))) = true := by kernel_rfl
theorem mediateOptional_k15 : ((Rows.mediateOptionalRow.mapsOut == Tryz.prog.mapsAmong Tryz.f7.resultTypes.toList)) = true := by kernel_rfl
theorem mediateOptional_k16 : ((Rows.mediateOptionalRow.loops == (Tryz.f7.params.toList ++ Rows.mediateOptionalSpec.plain.varTypes Tryz.prog).any (Tryz.prog.loopsFrom ·))) = true := by kernel_rfl
theorem mediateOptional_k17 : ((Rows.mediateOptionalRow.wideKeys == (Tryz.f7.params.toList ++ Rows.mediateOptionalSpec.plain.varTypes Tryz.prog ++ Tryz.f7.resultTypes.toList).any (Tryz.prog.wideKeysFrom ·))) = true := by kernel_rfl
theorem mediateOptional_k18 : (Rows.mediateOptionalSpec.vars.all (Tryz.prog.varReadable ·)) = true := by kernel_rfl
theorem mediateOptional_k19 : (Tryz.f7.resultTypes.all (fun t => Tryz.prog.readableRec t && decide (t < Tryz.prog.types.size))) = true := by kernel_rfl
theorem mediateOptional_k20 : ((Rows.mediateOptionalRow.ifacesOut == Tryz.f7.resultTypes.toList.any (Tryz.prog.ifacesRec ·))) = true := by kernel_rfl
theorem mediateOptional_k21 : ((Rows.mediateOptionalRow.loopsOut == Tryz.f7.resultTypes.toList.any (Tryz.prog.loopsFrom ·))) = true := by kernel_rfl
theorem mediateOptional_k22 : ((Rows.mediateOptionalRow.plainKeys == Tryz.prog.plainKeys)) = true := by kernel_rfl
theorem mediateOptional_k23 : (Rows.mediateOptionalRow.shortTexts.isNone) = true := by kernel_rfl
theorem mediateOptional_k24 : (Tryz.prog.stopsHeard) = true := by kernel_rfl
theorem mediateOptional_k25 : (Tryz.prog.mayEnter) = true := by kernel_rfl
theorem mediateOptional_k26 : ((Rows.mediateOptionalRow.lifted == Tryz.prog.liftsFinal)) = true := by kernel_rfl
theorem mediateOptional_k27 : ((Tryz.prog.make == some Rows.mediateOptionalRow.make)) = true := by kernel_rfl
theorem mediateOptional_k28 : ((Rows.mediateOptionalRow.kinds == (if Rows.mediateOptionalRow.domain.isEmpty then [] else Tryz.f7.params.toList.map fun t => match Tryz.prog.underlying t with | some (.int k) => some k | _ => none))) = true := by kernel_rfl
theorem mediateOptional_k29 : ((Rows.mediateOptionalRow.pinned == Rows.mediateOptionalRow.pinnedBy)) = true := by kernel_rfl
theorem mediateOptional_k30 : ((Rows.mediateOptionalRow.veiled == (Tryz.f7.params.toList ++ Rows.mediateOptionalSpec.plain.varTypes Tryz.prog ++ Tryz.f7.resultTypes.toList).any (Tryz.prog.veiledRec ·))) = true := by kernel_rfl
theorem mediateOptional_k31 : (Rows.mediateOptionalRow.veiledFits Tryz.prog Tryz.f7.params.toList (Tryz.f7.params.toList ++ Rows.mediateOptionalSpec.plain.varTypes Tryz.prog ++ Tryz.f7.resultTypes.toList)) = true := by kernel_rfl
theorem mediateOptional_closed : joinedFacts Tryz.prog 7 Tryz.f7 Rows.mediateOptionalSpec Rows.mediateOptionalRow = true := by
  unfold joinedFacts
  simp only [Bool.and_eq_true]
  exact ⟨⟨⟨⟨⟨⟨⟨⟨⟨⟨⟨⟨⟨⟨⟨⟨⟨⟨⟨⟨⟨⟨⟨⟨⟨⟨⟨⟨⟨⟨⟨mediateOptional_k0, mediateOptional_k1⟩, mediateOptional_k2⟩, mediateOptional_k3⟩, mediateOptional_k4⟩, mediateOptional_k5⟩, mediateOptional_k6⟩, mediateOptional_k7⟩, mediateOptional_k8⟩, mediateOptional_k9⟩, mediateOptional_k10⟩, mediateOptional_k11⟩, mediateOptional_k12⟩, mediateOptional_k13⟩, mediateOptional_k14⟩, mediateOptional_k15⟩, mediateOptional_k16⟩, mediateOptional_k17⟩, mediateOptional_k18⟩, mediateOptional_k19⟩, mediateOptional_k20⟩, mediateOptional_k21⟩, mediateOptional_k22⟩, mediateOptional_k23⟩, mediateOptional_k24⟩, mediateOptional_k25⟩, mediateOptional_k26⟩, mediateOptional_k27⟩, mediateOptional_k28⟩, mediateOptional_k29⟩, mediateOptional_k30⟩, mediateOptional_k31⟩
end Go.Ev
namespace Go.Ev
open Go Go.Proofs Go.Proofs.YtpdichdneifdeaaGreatDoor
set_option maxRecDepth 100000
theorem main_is : Tryz.prog.mainIs = some (true, "64282d3c2cb90de4524e8e4f35b6698293a8be25d41747b674317372f272a8f5".toList) := by kernel_rfl
theorem no_looks : false = Tryz.prog.looks [] := by kernel_rfl
theorem no_stands : (([3, 4] : List Nat).all fun u => !Tryz.prog.wantsStandIn u) = true := by kernel_rfl
end Go.Ev
namespace Go.Ev
open Go Go.Proofs Go.Proofs.YtpdichdneifdeaaGreatDoor
set_option maxRecDepth 100000
theorem mediateOptional_wf : Rows.mediateOptionalRow.wfByText (OpenSpec.ofChange Rows.mediateOptionalSpec) = true := by kernel_rfl
theorem mediateOptional_goes : false = Rows.mediateOptionalRow.goesBy Tryz.pinned.checked.prog := by kernel_rfl
theorem mediateOptional_named : Tryz.prog.funcNamed "newel/newellaw23.MediateOptional" = some 7 := by kernel_rfl
end Go.Ev
