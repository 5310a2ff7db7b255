/- The closed facts of the row of MediateCycles. -/
import Derived.Test.YtpdichdneifdeaaGreatDoorLawA
import Derived.JoinedOf
import Derived.SevenTiedAt
namespace Go.Ev
open Go.Proofs Go.Proofs.YtpdichdneifdeaaGreatDoor
set_option maxRecDepth 100000
theorem mediateCycles_k0 : (Rows.mediateCyclesRow.wf (OpenSpec.ofChange Rows.mediateCyclesSpec)) = true := by kernel_rfl
theorem mediateCycles_k1 : (laidOutB Tryz.prog) = true := by kernel_rfl
theorem mediateCycles_k2 : (mapsRowed Tryz.prog) = true := by kernel_rfl
theorem mediateCycles_k3 : (Tryz.f9.params.all (Tryz.prog.readableRec ·)) = true := by kernel_rfl
theorem mediateCycles_k4 : (namedTie Tryz.prog Rows.mediateCyclesRow.named Rows.mediateCyclesSpec.vars) = true := by kernel_rfl
theorem mediateCycles_k5 : ((Rows.mediateCyclesRow.stops == [])) = true := by kernel_rfl
theorem mediateCycles_k6 : ((Tryz.prog.stops == [])) = true := by kernel_rfl
theorem mediateCycles_k7 : ((Rows.mediateCyclesRow.knobs == [])) = true := by kernel_rfl
theorem mediateCycles_k8 : ((Tryz.prog.stopKnobs == [])) = true := by kernel_rfl
theorem mediateCycles_k9 : ((Rows.mediateCyclesRow.inPlace == Tryz.prog.inPlace 9)) = true := by kernel_rfl
theorem mediateCycles_k10 : ((Rows.mediateCyclesRow.unfollowed == Tryz.prog.unfollowed 9)) = true := by kernel_rfl
theorem mediateCycles_k11 : ((Rows.mediateCyclesRow.recurses == Tryz.prog.recurses 9)) = true := by kernel_rfl
theorem mediateCycles_k12 : ((Rows.mediateCyclesRow.named == Tryz.prog.varsNamed 9)) = true := by kernel_rfl
theorem mediateCycles_k13 : ((Rows.mediateCyclesRow.maps == (Tryz.f9.params.toList ++ Rows.mediateCyclesSpec.plain.varTypes Tryz.prog).any (Tryz.prog.mapsRec ·))) = true := by kernel_rfl
theorem mediateCycles_k14 : ((Rows.mediateCyclesRow.ifaces == (Tryz.f9.params.toList ++ Rows.mediateCyclesSpec.plain.varTypes Tryz.prog).any (Tryz.prog.ifacesRec ·))) = true := by kernel_rfl
theorem mediateCycles_k15 : ((Rows.mediateCyclesRow.mapsOut == Tryz.prog.mapsAmong Tryz.f9.resultTypes.toList)) = true := by kernel_rfl
theorem mediateCycles_k16 : ((Rows.mediateCyclesRow.loops == (Tryz.f9.params.toList ++ Rows.mediateCyclesSpec.plain.varTypes Tryz.prog).any (Tryz.prog.loopsFrom ·))) = true := by kernel_rfl
theorem mediateCycles_k17 : ((Rows.mediateCyclesRow.wideKeys == (Tryz.f9.params.toList ++ Rows.mediateCyclesSpec.plain.varTypes Tryz.prog ++ Tryz.f9.resultTypes.toList).any (Tryz.prog.wideKeysFrom ·))) = true := by kernel_rfl
theorem mediateCycles_k18 : (Rows.mediateCyclesSpec.vars.all (Tryz.prog.varReadable ·)) = true := by kernel_rfl
theorem mediateCycles_k19 : (Tryz.f9.resultTypes.all (fun t => Tryz.prog.readableRec t && decide (t < Tryz.prog.types.size))) = true := by kernel_rfl
theorem mediateCycles_k20 : ((Rows.mediateCyclesRow.ifacesOut == Tryz.f9.resultTypes.toList.any (Tryz.prog.ifacesRec ·))) = true := by kernel_rfl
theorem mediateCycles_k21 : ((Rows.mediateCyclesRow.loopsOut == Tryz.f9.resultTypes.toList.any (Tryz.prog.loopsFrom ·))) = true := by kernel_rfl
theorem mediateCycles_k22 : ((Rows.mediateCyclesRow.plainKeys == Tryz.prog.plainKeys)) = true := by kernel_rfl
theorem mediateCycles_k23 : (Rows.mediateCyclesRow.shortTexts.isNone) = true := by kernel_rfl
theorem mediateCycles_k24 : (Tryz.prog.stopsHeard) = true := by kernel_rfl
theorem mediateCycles_k25 : (Tryz.prog.mayEnter) = true := by kernel_rfl
theorem mediateCycles_k26 : ((Rows.mediateCyclesRow.lifted == Tryz.prog.liftsFinal)) = true := by kernel_rfl
theorem mediateCycles_k27 : ((Tryz.prog.make == some Rows.mediateCyclesRow.make)) = true := by kernel_rfl
theorem mediateCycles_k28 : ((Rows.mediateCyclesRow.kinds == (if Rows.mediateCyclesRow.domain.isEmpty then [] else Tryz.f9.params.toList.map fun t => match Tryz.prog.underlying t with | some (.int k) => some k | _ => none))) = true := by kernel_rfl
theorem mediateCycles_k29 : ((Rows.mediateCyclesRow.pinned == Rows.mediateCyclesRow.pinnedBy)) = true := by kernel_rfl
theorem mediateCycles_k30 : ((Rows.mediateCyclesRow.veiled == (Tryz.f9.params.toList ++ Rows.mediateCyclesSpec.plain.varTypes Tryz.prog ++ Tryz.f9.resultTypes.toList).any (Tryz.prog.veiledRec ·))) = true := by kernel_rfl
theorem mediateCycles_k31 : (Rows.mediateCyclesRow.veiledFits Tryz.prog Tryz.f9.params.toList (Tryz.f9.params.toList ++ Rows.mediateCyclesSpec.plain.varTypes Tryz.prog ++ Tryz.f9.resultTypes.toList)) = true := by kernel_rfl
theorem mediateCycles_closed : joinedFacts Tryz.prog 9 Tryz.f9 Rows.mediateCyclesSpec Rows.mediateCyclesRow = true := by
  unfold joinedFacts
  simp only [Bool.and_eq_true]
  exact ⟨⟨⟨⟨⟨⟨⟨⟨⟨⟨⟨⟨⟨⟨⟨⟨⟨⟨⟨⟨⟨⟨⟨⟨⟨⟨⟨⟨⟨⟨⟨mediateCycles_k0, mediateCycles_k1⟩, mediateCycles_k2⟩, mediateCycles_k3⟩, mediateCycles_k4⟩, mediateCycles_k5⟩, mediateCycles_k6⟩, mediateCycles_k7⟩, mediateCycles_k8⟩, mediateCycles_k9⟩, mediateCycles_k10⟩, mediateCycles_k11⟩, mediateCycles_k12⟩, mediateCycles_k13⟩, mediateCycles_k14⟩, mediateCycles_k15⟩, mediateCycles_k16⟩, mediateCycles_k17⟩, mediateCycles_k18⟩, mediateCycles_k19⟩, mediateCycles_k20⟩, mediateCycles_k21⟩, mediateCycles_k22⟩, mediateCycles_k23⟩, mediateCycles_k24⟩, mediateCycles_k25⟩, mediateCycles_k26⟩, mediateCycles_k27⟩, mediateCycles_k28⟩, mediateCycles_k29⟩, mediateCycles_k30⟩, mediateCycles_k31⟩
end Go.Ev
namespace Go.Ev
open Go Go.Proofs Go.Proofs.YtpdichdneifdeaaGreatDoor
set_option maxRecDepth 100000
theorem main_is : Tryz.prog.mainIs = some (true, "64282d3c2cb90de4524e8e4f35b6698293a8be25d41747b674317372f272a8f5".toList) := by kernel_rfl
theorem no_looks : false = Tryz.prog.looks [] := by kernel_rfl
theorem no_stands : (([3, 4] : List Nat).all fun u => !Tryz.prog.wantsStandIn u) = true := by kernel_rfl
end Go.Ev
namespace Go.Ev
open Go Go.Proofs Go.Proofs.YtpdichdneifdeaaGreatDoor
set_option maxRecDepth 100000
theorem mediateCycles_wf : Rows.mediateCyclesRow.wfByText (OpenSpec.ofChange Rows.mediateCyclesSpec) = true := by kernel_rfl
theorem mediateCycles_goes : false = Rows.mediateCyclesRow.goesBy Tryz.pinned.checked.prog := by kernel_rfl
theorem mediateCycles_named : Tryz.prog.funcNamed "newel/newellaw23.MediateCycles" = some 9 := by kernel_rfl
end Go.Ev
