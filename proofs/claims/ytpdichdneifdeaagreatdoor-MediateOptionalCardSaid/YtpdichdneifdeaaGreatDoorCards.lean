/-
  DERIVED. GIVEN WITH THE SEED: THE CARDS: each row of YtpdichdneifdeaaGreatDoorRows.lean that lists a variable, with what it lists TIED to the program's text (the seventh form; the later family's looks); each row that meets fmt, with fmt's text TOLD by the authors' own Lean function (tested against real Go, not proved from fmt's source: count such statements apart). THE CARD IS WHAT COUNTS. Prove the row's statement (the work); the ties are given (YtpdichdneifdeaaGreatDoorTie.lean); close each card by the builder's one call (the guide's Derived/Test/ToyasCard.lean, 'card_holds'). Laid BY PROGRAM, IN A SANDBOX (cutbox-door.mjs). By AI agents, Wed Nov 11 2026. No macro, syntax, notation, axiom, sorry.
-/
import Derived.Test.YtpdichdneifdeaaGreatDoorRows
import GoSem.ClaimSeven
namespace Go.Proofs.YtpdichdneifdeaaGreatDoor
namespace Rows

/-- THE TIED CARD OF 'newellaw18.EffectiveRefuses'. -/
def effectiveRefusesCard : Claim7 := { stood := { row := effectiveRefusesRow, standIns := [], harness := (true, "64282d3c2cb90de4524e8e4f35b6698293a8be25d41747b674317372f272a8f5"), looks := false }, kinds := [], alts := [], laidByText := true, laidKinds := [.data, .pinned], laidTests := true, laidLooks := .later }
def EffectiveRefusesCardSaid : Prop := Claim7.holds Tryz.pinned (.plain (OpenSpec.ofChange effectiveRefusesSpec)) effectiveRefusesCard

/-- THE TIED CARD OF 'newellaw18.EffectiveSelf'. -/
def effectiveSelfCard : Claim7 := { stood := { row := effectiveSelfRow, standIns := [], harness := (true, "64282d3c2cb90de4524e8e4f35b6698293a8be25d41747b674317372f272a8f5"), looks := false }, kinds := [], alts := [], laidByText := true, laidKinds := [.data, .pinned], laidTests := true, laidLooks := .later }
def EffectiveSelfCardSaid : Prop := Claim7.holds Tryz.pinned (.plain (OpenSpec.ofChange effectiveSelfSpec)) effectiveSelfCard

/-- THE TIED CARD OF 'newellaw23.MediateErrors'. -/
def mediateErrorsCard : Claim7 := { stood := { row := mediateErrorsRow, standIns := [], harness := (true, "64282d3c2cb90de4524e8e4f35b6698293a8be25d41747b674317372f272a8f5"), looks := false }, kinds := [], alts := [], laidByText := true, laidKinds := [.data, .pinned], laidTests := true, laidLooks := .later }
def MediateErrorsCardSaid : Prop := Claim7.holds Tryz.pinned (.plain (OpenSpec.ofChange mediateErrorsSpec)) mediateErrorsCard

/-- THE TIED CARD OF 'newellaw23.MediateLine'. -/
def mediateLineCard : Claim7 := { stood := { row := mediateLineRow, standIns := [], harness := (true, "64282d3c2cb90de4524e8e4f35b6698293a8be25d41747b674317372f272a8f5"), looks := false }, kinds := [], alts := [], laidByText := true, laidKinds := [.data, .pinned], laidTests := true, laidLooks := .later }
def MediateLineCardSaid : Prop := Claim7.holds Tryz.pinned (.plain (OpenSpec.ofChange mediateLineSpec)) mediateLineCard

/-- THE TIED CARD OF 'newellaw23.MediateOptional'. -/
def mediateOptionalCard : Claim7 := { stood := { row := mediateOptionalRow, standIns := [], harness := (true, "64282d3c2cb90de4524e8e4f35b6698293a8be25d41747b674317372f272a8f5"), looks := false }, kinds := [], alts := [], laidByText := true, laidKinds := [.data, .pinned], laidTests := true, laidLooks := .later }
def MediateOptionalCardSaid : Prop := Claim7.holds Tryz.pinned (.plain (OpenSpec.ofChange mediateOptionalSpec)) mediateOptionalCard

/-- THE TIED CARD OF 'newellaw23.MediateManaged'. -/
def mediateManagedCard : Claim7 := { stood := { row := mediateManagedRow, standIns := [], harness := (true, "64282d3c2cb90de4524e8e4f35b6698293a8be25d41747b674317372f272a8f5"), looks := false }, kinds := [], alts := [], laidByText := true, laidKinds := [.data, .pinned], laidTests := true, laidLooks := .later }
def MediateManagedCardSaid : Prop := Claim7.holds Tryz.pinned (.plain (OpenSpec.ofChange mediateManagedSpec)) mediateManagedCard

/-- THE TIED CARD OF 'newellaw23.MediateCycles'. -/
def mediateCyclesCard : Claim7 := { stood := { row := mediateCyclesRow, standIns := [], harness := (true, "64282d3c2cb90de4524e8e4f35b6698293a8be25d41747b674317372f272a8f5"), looks := false }, kinds := [], alts := [], laidByText := true, laidKinds := [.data, .pinned], laidTests := true, laidLooks := .later }
def MediateCyclesCardSaid : Prop := Claim7.holds Tryz.pinned (.plain (OpenSpec.ofChange mediateCyclesSpec)) mediateCyclesCard

/-- THE TIED CARD OF 'newellaw23.MediateTypes'. -/
def mediateTypesCard : Claim7 := { stood := { row := mediateTypesRow, standIns := [], harness := (true, "64282d3c2cb90de4524e8e4f35b6698293a8be25d41747b674317372f272a8f5"), looks := false }, kinds := [], alts := [], laidByText := true, laidKinds := [.data, .pinned], laidTests := true, laidLooks := .later }
def MediateTypesCardSaid : Prop := Claim7.holds Tryz.pinned (.plain (OpenSpec.ofChange mediateTypesSpec)) mediateTypesCard

/-- THE SECOND FORM's CARD OF 'newellaw18.EffectiveRefuses'. -/
def effectiveRefusesUptoCard : Claim7 := { stood := { row := effectiveRefusesUptoRow, standIns := [], harness := (true, "64282d3c2cb90de4524e8e4f35b6698293a8be25d41747b674317372f272a8f5"), looks := false }, kinds := [], alts := [], laidByText := true, laidKinds := [.data, .pinned], laidTests := true, laidLooks := .later }
def EffectiveRefusesUptoCardSaid : Prop := Claim7.holds Tryz.pinned (.plain (OpenSpec.upto effectiveRefusesSpec)) effectiveRefusesUptoCard

/-- THE SECOND FORM's CARD OF 'newellaw18.EffectiveSelf'. -/
def effectiveSelfUptoCard : Claim7 := { stood := { row := effectiveSelfUptoRow, standIns := [], harness := (true, "64282d3c2cb90de4524e8e4f35b6698293a8be25d41747b674317372f272a8f5"), looks := false }, kinds := [], alts := [], laidByText := true, laidKinds := [.data, .pinned], laidTests := true, laidLooks := .later }
def EffectiveSelfUptoCardSaid : Prop := Claim7.holds Tryz.pinned (.plain (OpenSpec.upto effectiveSelfSpec)) effectiveSelfUptoCard

/-- THE SECOND FORM's CARD OF 'newellaw23.MediateErrors'. -/
def mediateErrorsUptoCard : Claim7 := { stood := { row := mediateErrorsUptoRow, standIns := [], harness := (true, "64282d3c2cb90de4524e8e4f35b6698293a8be25d41747b674317372f272a8f5"), looks := false }, kinds := [], alts := [], laidByText := true, laidKinds := [.data, .pinned], laidTests := true, laidLooks := .later }
def MediateErrorsUptoCardSaid : Prop := Claim7.holds Tryz.pinned (.plain (OpenSpec.upto mediateErrorsSpec)) mediateErrorsUptoCard

/-- THE SECOND FORM's CARD OF 'newellaw23.MediateLine'. -/
def mediateLineUptoCard : Claim7 := { stood := { row := mediateLineUptoRow, standIns := [], harness := (true, "64282d3c2cb90de4524e8e4f35b6698293a8be25d41747b674317372f272a8f5"), looks := false }, kinds := [], alts := [], laidByText := true, laidKinds := [.data, .pinned], laidTests := true, laidLooks := .later }
def MediateLineUptoCardSaid : Prop := Claim7.holds Tryz.pinned (.plain (OpenSpec.upto mediateLineSpec)) mediateLineUptoCard

/-- THE SECOND FORM's CARD OF 'newellaw23.MediateOptional'. -/
def mediateOptionalUptoCard : Claim7 := { stood := { row := mediateOptionalUptoRow, standIns := [], harness := (true, "64282d3c2cb90de4524e8e4f35b6698293a8be25d41747b674317372f272a8f5"), looks := false }, kinds := [], alts := [], laidByText := true, laidKinds := [.data, .pinned], laidTests := true, laidLooks := .later }
def MediateOptionalUptoCardSaid : Prop := Claim7.holds Tryz.pinned (.plain (OpenSpec.upto mediateOptionalSpec)) mediateOptionalUptoCard

/-- THE SECOND FORM's CARD OF 'newellaw23.MediateManaged'. -/
def mediateManagedUptoCard : Claim7 := { stood := { row := mediateManagedUptoRow, standIns := [], harness := (true, "64282d3c2cb90de4524e8e4f35b6698293a8be25d41747b674317372f272a8f5"), looks := false }, kinds := [], alts := [], laidByText := true, laidKinds := [.data, .pinned], laidTests := true, laidLooks := .later }
def MediateManagedUptoCardSaid : Prop := Claim7.holds Tryz.pinned (.plain (OpenSpec.upto mediateManagedSpec)) mediateManagedUptoCard

/-- THE SECOND FORM's CARD OF 'newellaw23.MediateCycles'. -/
def mediateCyclesUptoCard : Claim7 := { stood := { row := mediateCyclesUptoRow, standIns := [], harness := (true, "64282d3c2cb90de4524e8e4f35b6698293a8be25d41747b674317372f272a8f5"), looks := false }, kinds := [], alts := [], laidByText := true, laidKinds := [.data, .pinned], laidTests := true, laidLooks := .later }
def MediateCyclesUptoCardSaid : Prop := Claim7.holds Tryz.pinned (.plain (OpenSpec.upto mediateCyclesSpec)) mediateCyclesUptoCard

/-- THE SECOND FORM's CARD OF 'newellaw23.MediateTypes'. -/
def mediateTypesUptoCard : Claim7 := { stood := { row := mediateTypesUptoRow, standIns := [], harness := (true, "64282d3c2cb90de4524e8e4f35b6698293a8be25d41747b674317372f272a8f5"), looks := false }, kinds := [], alts := [], laidByText := true, laidKinds := [.data, .pinned], laidTests := true, laidLooks := .later }
def MediateTypesUptoCardSaid : Prop := Claim7.holds Tryz.pinned (.plain (OpenSpec.upto mediateTypesSpec)) mediateTypesUptoCard
end Rows
end Go.Proofs.YtpdichdneifdeaaGreatDoor
