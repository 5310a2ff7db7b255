/- The closed facts of the row of MediateManaged. -/
import Derived.Test.YtpdichdneifdeaaGreatDoorLawA
import Derived.JoinedOf
import Derived.SevenTiedAt
namespace Go.Ev
open Go.Proofs Go.Proofs.YtpdichdneifdeaaGreatDoor
set_option maxRecDepth 100000
theorem mediateManaged_k0 : (Rows.mediateManagedRow.wf (OpenSpec.ofChange Rows.mediateManagedSpec)) = true := by kernel_rfl
theorem mediateManaged_k1 : (laidOutB Tryz.prog) = true := by kernel_rfl
theorem mediateManaged_k2 : (mapsRowed Tryz.prog) = true := by kernel_rfl
theorem mediateManaged_k3 : (Tryz.f8.params.all (Tryz.prog.readableRec ·)) = true := by kernel_rfl
theorem mediateManaged_k4 : (namedTie Tryz.prog Rows.mediateManagedRow.named Rows.mediateManagedSpec.vars) = true := by kernel_rfl
theorem mediateManaged_k5 : ((Rows.mediateManagedRow.stops == [])) = true := by kernel_rfl
theorem mediateManaged_k6 : ((Tryz.prog.stops == [])) = true := by kernel_rfl
theorem mediateManaged_k7 : ((Rows.mediateManagedRow.knobs == [])) = true := by kernel_rfl
theorem mediateManaged_k8 : ((Tryz.prog.stopKnobs == [])) = true := by kernel_rfl
theorem mediateManaged_k9 : ((Rows.mediateManagedRow.inPlace == Tryz.prog.inPlace 8)) = true := by kernel_rfl
theorem mediateManaged_k10 : ((Rows.mediateManagedRow.unfollowed == Tryz.prog.unfollowed 8)) = true := by kernel_rfl
theorem mediateManaged_k11 : ((Rows.mediateManagedRow.recurses == Tryz.prog.recurses 8)) = true := by kernel_rfl
theorem mediateManaged_k12 : ((Rows.mediateManagedRow.named == Tryz.prog.varsNamed 8)) = true := by kernel_rfl
theorem mediateManaged_k13 : ((Rows.mediateManagedRow.maps == (Tryz.f8.params.toList ++ Rows.mediateManagedSpec.plain.varTypes Tryz.prog).any (Tryz.prog.mapsRec ·))) = true := by kernel_rfl
theorem mediateManaged_k14 : ((Rows.mediateManagedRow.ifaces == (Tryz.f8.params.toList ++ Rows.mediateManagedSpec.plain.varTypes Tryz.prog).any (Tryz.prog.ifacesRec ·))) = true := by kernel_rfl
theorem mediateManaged_k15 : ((Rows.mediateManagedRow.mapsOut == Tryz.prog.mapsAmong Tryz.f8.resultTypes.toList)) = true := by kernel_rfl
theorem mediateManaged_k16 : ((Rows.mediateManagedRow.loops == (Tryz.f8.params.toList ++ Rows.mediateManagedSpec.plain.varTypes Tryz.prog).any (Tryz.prog.loopsFrom ·))) = true := by kernel_rfl
theorem mediateManaged_k17 : ((Rows.mediateManagedRow.wideKeys == (Tryz.f8.params.toList ++ Rows.mediateManagedSpec.plain.varTypes Tryz.prog ++ Tryz.f8.resultTypes.toList).any (Tryz.prog.wideKeysFrom ·))) = true := by kernel_rfl
theorem mediateManaged_k18 : (Rows.mediateManagedSpec.vars.all (Tryz.prog.varReadable ·)) = true := by kernel_rfl
theorem mediateManaged_k19 : (Tryz.f8.resultTypes.all (fun t => Tryz.prog.readableRec t && decide (t < Tryz.prog.types.size))) = true := by kernel_rfl
theorem mediateManaged_k20 : ((Rows.mediateManagedRow.ifacesOut == Tryz.f8.resultTypes.toList.any (Tryz.prog.ifacesRec ·))) = true := by kernel_rfl
theorem mediateManaged_k21 : ((Rows.mediateManagedRow.loopsOut == Tryz.f8.resultTypes.toList.any (Tryz.prog.loopsFrom ·))) = true := by kernel_rfl
theorem mediateManaged_k22 : ((Rows.mediateManagedRow.plainKeys == Tryz.prog.plainKeys)) = true := by kernel_rfl
theorem mediateManaged_k23 : (Rows.mediateManagedRow.shortTexts.isNone) = true := by kernel_rfl
theorem mediateManaged_k24 : (Tryz.prog.stopsHeard) = true := by kernel_rfl
theorem mediateManaged_k25 : (Tryz.prog.mayEnter) = true := by kernel_rfl
theorem mediateManaged_k26 : ((Rows.mediateManagedRow.lifted == Tryz.prog.liftsFinal)) = true := by kernel_rfl
theorem mediateManaged_k27 : ((Tryz.prog.make == some Rows.mediateManagedRow.make)) = true := by kernel_rfl
theorem mediateManaged_k28 : ((Rows.mediateManagedRow.kinds == (if Rows.mediateManagedRow.domain.isEmpty then [] else Tryz.f8.params.toList.map fun t => match Tryz.prog.underlying t with | some (.int k) => some k | _ => none))) = true := by kernel_rfl
theorem mediateManaged_k29 : ((Rows.mediateManagedRow.pinned == Rows.mediateManagedRow.pinnedBy)) = true := by kernel_rfl
theorem mediateManaged_k30 : ((Rows.mediateManagedRow.veiled == (Tryz.f8.params.toList ++ Rows.mediateManagedSpec.plain.varTypes Tryz.prog ++ Tryz.f8.resultTypes.toList).any (Tryz.prog.veiledRec ·))) = true := by kernel_rfl
theorem mediateManaged_k31 : (Rows.mediateManagedRow.veiledFits Tryz.prog Tryz.f8.params.toList (Tryz.f8.params.toList ++ Rows.mediateManagedSpec.plain.varTypes Tryz.prog ++ Tryz.f8.resultTypes.toList)) = true := by kernel_rfl
theorem mediateManaged_closed : joinedFacts Tryz.prog 8 Tryz.f8 Rows.mediateManagedSpec Rows.mediateManagedRow = true := by
  unfold joinedFacts
  simp only [Bool.and_eq_true]
  exact ⟨⟨⟨⟨⟨⟨⟨⟨⟨⟨⟨⟨⟨⟨⟨⟨⟨⟨⟨⟨⟨⟨⟨⟨⟨⟨⟨⟨⟨⟨⟨mediateManaged_k0, mediateManaged_k1⟩, mediateManaged_k2⟩, mediateManaged_k3⟩, mediateManaged_k4⟩, mediateManaged_k5⟩, mediateManaged_k6⟩, mediateManaged_k7⟩, mediateManaged_k8⟩, mediateManaged_k9⟩, mediateManaged_k10⟩, mediateManaged_k11⟩, mediateManaged_k12⟩, mediateManaged_k13⟩, mediateManaged_k14⟩, mediateManaged_k15⟩, mediateManaged_k16⟩, mediateManaged_k17⟩, mediateManaged_k18⟩, mediateManaged_k19⟩, mediateManaged_k20⟩, mediateManaged_k21⟩, mediateManaged_k22⟩, mediateManaged_k23⟩, mediateManaged_k24⟩, mediateManaged_k25⟩, mediateManaged_k26⟩, mediateManaged_k27⟩, mediateManaged_k28⟩, mediateManaged_k29⟩, mediateManaged_k30⟩, mediateManaged_k31⟩
end Go.Ev
namespace Go.Ev
open Go Go.Proofs Go.Proofs.YtpdichdneifdeaaGreatDoor
set_option maxRecDepth 100000
theorem main_is : Tryz.prog.mainIs = some (true, "64282d3c2cb90de4524e8e4f35b6698293a8be25d41747b674317372f272a8f5".toList) := by kernel_rfl
theorem no_looks : false = Tryz.prog.looks [] := by kernel_rfl
theorem no_stands : (([3, 4] : List Nat).all fun u => !Tryz.prog.wantsStandIn u) = true := by kernel_rfl
end Go.Ev
namespace Go.Ev
open Go Go.Proofs Go.Proofs.YtpdichdneifdeaaGreatDoor
set_option maxRecDepth 100000
theorem mediateManaged_wf : Rows.mediateManagedRow.wfByText (OpenSpec.ofChange Rows.mediateManagedSpec) = true := by kernel_rfl
theorem mediateManaged_goes : false = Rows.mediateManagedRow.goesBy Tryz.pinned.checked.prog := by kernel_rfl
theorem mediateManaged_named : Tryz.prog.funcNamed "newel/newellaw23.MediateManaged" = some 8 := by kernel_rfl
end Go.Ev
