/- The closed facts of the row of EffectiveRefuses. -/
import Derived.Test.YtpdichdneifdeaaGreatDoorLawA
import Derived.JoinedOf
import Derived.SevenTiedAt
namespace Go.Ev
open Go.Proofs Go.Proofs.YtpdichdneifdeaaGreatDoor
set_option maxRecDepth 100000
theorem effectiveRefuses_k0 : (Rows.effectiveRefusesRow.wf (OpenSpec.ofChange Rows.effectiveRefusesSpec)) = true := by kernel_rfl
theorem effectiveRefuses_k1 : (laidOutB Tryz.prog) = true := by kernel_rfl
theorem effectiveRefuses_k2 : (mapsRowed Tryz.prog) = true := by kernel_rfl
theorem effectiveRefuses_k3 : (Tryz.f3.params.all (Tryz.prog.readableRec ·)) = true := by kernel_rfl
theorem effectiveRefuses_k4 : (namedTie Tryz.prog Rows.effectiveRefusesRow.named Rows.effectiveRefusesSpec.vars) = true := by kernel_rfl
theorem effectiveRefuses_k5 : ((Rows.effectiveRefusesRow.stops == [])) = true := by kernel_rfl
theorem effectiveRefuses_k6 : ((Tryz.prog.stops == [])) = true := by kernel_rfl
theorem effectiveRefuses_k7 : ((Rows.effectiveRefusesRow.knobs == [])) = true := by kernel_rfl
theorem effectiveRefuses_k8 : ((Tryz.prog.stopKnobs == [])) = true := by kernel_rfl
theorem effectiveRefuses_k9 : ((Rows.effectiveRefusesRow.inPlace == Tryz.prog.inPlace 3)) = true := by kernel_rfl
theorem effectiveRefuses_k10 : ((Rows.effectiveRefusesRow.unfollowed == Tryz.prog.unfollowed 3)) = true := by kernel_rfl
theorem effectiveRefuses_k11 : ((Rows.effectiveRefusesRow.recurses == Tryz.prog.recurses 3)) = true := by kernel_rfl
theorem effectiveRefuses_k12 : ((Rows.effectiveRefusesRow.named == Tryz.prog.varsNamed 3)) = true := by kernel_rfl
theorem effectiveRefuses_k13 : ((Rows.effectiveRefusesRow.maps == (Tryz.f3.params.toList ++ Rows.effectiveRefusesSpec.plain.varTypes Tryz.prog).any (Tryz.prog.mapsRec ·))) = true := by kernel_rfl
theorem effectiveRefuses_k14 : ((Rows.effectiveRefusesRow.ifaces == (Tryz.f3.params.toList ++ Rows.effectiveRefusesSpec.plain.varTypes Tryz.prog).any (Tryz.prog.ifacesRec ·))) = true := by kernel_rfl
theorem effectiveRefuses_k15 : ((Rows.effectiveRefusesRow.mapsOut == Tryz.prog.mapsAmong Tryz.f3.resultTypes.toList)) = true := by kernel_rfl
theorem effectiveRefuses_k16 : ((Rows.effectiveRefusesRow.loops == (Tryz.f3.params.toList ++ Rows.effectiveRefusesSpec.plain.varTypes Tryz.prog).any (Tryz.prog.loopsFrom ·))) = true := by kernel_rfl
theorem effectiveRefuses_k17 : ((Rows.effectiveRefusesRow.wideKeys == (Tryz.f3.params.toList ++ Rows.effectiveRefusesSpec.plain.varTypes Tryz.prog ++ Tryz.f3.resultTypes.toList).any (Tryz.prog.wideKeysFrom ·))) = true := by kernel_rfl
theorem effectiveRefuses_k18 : (Rows.effectiveRefusesSpec.vars.all (Tryz.prog.varReadable ·)) = true := by kernel_rfl
theorem effectiveRefuses_k19 : (Tryz.f3.resultTypes.all (fun t => Tryz.prog.readableRec t && decide (t < Tryz.prog.types.size))) = true := by kernel_rfl
theorem effectiveRefuses_k20 : ((Rows.effectiveRefusesRow.ifacesOut == Tryz.f3.resultTypes.toList.any (Tryz.prog.ifacesRec ·))) = true := by kernel_rfl
theorem effectiveRefuses_k21 : ((Rows.effectiveRefusesRow.loopsOut == Tryz.f3.resultTypes.toList.any (Tryz.prog.loopsFrom ·))) = true := by kernel_rfl
theorem effectiveRefuses_k22 : ((Rows.effectiveRefusesRow.plainKeys == Tryz.prog.plainKeys)) = true := by kernel_rfl
theorem effectiveRefuses_k23 : (Rows.effectiveRefusesRow.shortTexts.isNone) = true := by kernel_rfl
theorem effectiveRefuses_k24 : (Tryz.prog.stopsHeard) = true := by kernel_rfl
theorem effectiveRefuses_k25 : (Tryz.prog.mayEnter) = true := by kernel_rfl
theorem effectiveRefuses_k26 : ((Rows.effectiveRefusesRow.lifted == Tryz.prog.liftsFinal)) = true := by kernel_rfl
theorem effectiveRefuses_k27 : ((Tryz.prog.make == some Rows.effectiveRefusesRow.make)) = true := by kernel_rfl
theorem effectiveRefuses_k28 : ((Rows.effectiveRefusesRow.kinds == (if Rows.effectiveRefusesRow.domain.isEmpty then [] else Tryz.f3.params.toList.map fun t => match Tryz.prog.underlying t with | some (.int k) => some k | _ => none))) = true := by kernel_rfl
theorem effectiveRefuses_k29 : ((Rows.effectiveRefusesRow.pinned == Rows.effectiveRefusesRow.pinnedBy)) = true := by kernel_rfl
theorem effectiveRefuses_k30 : ((Rows.effectiveRefusesRow.veiled == (Tryz.f3.params.toList ++ Rows.effectiveRefusesSpec.plain.varTypes Tryz.prog ++ Tryz.f3.resultTypes.toList).any (Tryz.prog.veiledRec ·))) = true := by kernel_rfl
theorem effectiveRefuses_k31 : (Rows.effectiveRefusesRow.veiledFits Tryz.prog Tryz.f3.params.toList (Tryz.f3.params.toList ++ Rows.effectiveRefusesSpec.plain.varTypes Tryz.prog ++ Tryz.f3.resultTypes.toList)) = true := by kernel_rfl
theorem effectiveRefuses_closed : joinedFacts Tryz.prog 3 Tryz.f3 Rows.effectiveRefusesSpec Rows.effectiveRefusesRow = true := by
  unfold joinedFacts
  simp only [Bool.and_eq_true]
  exact ⟨⟨⟨⟨⟨⟨⟨⟨⟨⟨⟨⟨⟨⟨⟨⟨⟨⟨⟨⟨⟨⟨⟨⟨⟨⟨⟨⟨⟨⟨⟨effectiveRefuses_k0, effectiveRefuses_k1⟩, effectiveRefuses_k2⟩, effectiveRefuses_k3⟩, effectiveRefuses_k4⟩, effectiveRefuses_k5⟩, effectiveRefuses_k6⟩, effectiveRefuses_k7⟩, effectiveRefuses_k8⟩, effectiveRefuses_k9⟩, effectiveRefuses_k10⟩, effectiveRefuses_k11⟩, effectiveRefuses_k12⟩, effectiveRefuses_k13⟩, effectiveRefuses_k14⟩, effectiveRefuses_k15⟩, effectiveRefuses_k16⟩, effectiveRefuses_k17⟩, effectiveRefuses_k18⟩, effectiveRefuses_k19⟩, effectiveRefuses_k20⟩, effectiveRefuses_k21⟩, effectiveRefuses_k22⟩, effectiveRefuses_k23⟩, effectiveRefuses_k24⟩, effectiveRefuses_k25⟩, effectiveRefuses_k26⟩, effectiveRefuses_k27⟩, effectiveRefuses_k28⟩, effectiveRefuses_k29⟩, effectiveRefuses_k30⟩, effectiveRefuses_k31⟩
end Go.Ev
namespace Go.Ev
open Go Go.Proofs Go.Proofs.YtpdichdneifdeaaGreatDoor
set_option maxRecDepth 100000
theorem main_is : Tryz.prog.mainIs = some (true, "64282d3c2cb90de4524e8e4f35b6698293a8be25d41747b674317372f272a8f5".toList) := by kernel_rfl
theorem no_looks : false = Tryz.prog.looks [] := by kernel_rfl
theorem no_stands : (([3, 4] : List Nat).all fun u => !Tryz.prog.wantsStandIn u) = true := by kernel_rfl
end Go.Ev
namespace Go.Ev
open Go Go.Proofs Go.Proofs.YtpdichdneifdeaaGreatDoor
set_option maxRecDepth 100000
theorem effectiveRefuses_wf : Rows.effectiveRefusesRow.wfByText (OpenSpec.ofChange Rows.effectiveRefusesSpec) = true := by kernel_rfl
theorem effectiveRefuses_goes : false = Rows.effectiveRefusesRow.goesBy Tryz.pinned.checked.prog := by kernel_rfl
theorem effectiveRefuses_named : Tryz.prog.funcNamed "newel/newellaw18.EffectiveRefuses" = some 3 := by kernel_rfl
end Go.Ev
