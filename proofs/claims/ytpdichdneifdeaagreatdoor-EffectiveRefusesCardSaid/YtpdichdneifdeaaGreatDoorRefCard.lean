/- EffectiveRefuses answers true for every number, and its argument reads behind the call as before it: the tied card. Condition: package-level variables start as the program's text lays them. -/
import Derived.Test.YtpdichdneifdeaaGreatDoorRefRow
import Derived.Test.YtpdichdneifdeaaGreatDoorRefFacts
import Derived.Test.YtpdichdneifdeaaGreatDoorRefR0
import Derived.Test.YtpdichdneifdeaaGreatDoorRefR1
import Derived.Test.YtpdichdneifdeaaGreatDoorRefR2
import Derived.Test.YtpdichdneifdeaaGreatDoorRefR3
import Derived.Test.YtpdichdneifdeaaGreatDoorRefR4
import Derived.Test.YtpdichdneifdeaaGreatDoorRefR5
import Derived.Test.YtpdichdneifdeaaGreatDoorRefR6
import Derived.Test.YtpdichdneifdeaaGreatDoorRefR7
import Derived.Test.YtpdichdneifdeaaGreatDoorRefR8
import Derived.Test.YtpdichdneifdeaaGreatDoorCards
import Derived.Test.YtpdichdneifdeaaGreatDoorTie
import Derived.SevenTiedAt
namespace Go.Proofs.YtpdichdneifdeaaGreatDoor
open Go Go.Ev
set_option maxRecDepth 100000
theorem refuses_all : ∀ r, r < 9 → isTrue (fnA E0 100000 3 [.res false 9 r] ⟨0, .leaf⟩) = true := by
  intro r hr
  rcases r with _ | _ | _ | _ | _ | _ | _ | _ | _ | r
  · exact refuses_0
  · exact refuses_1
  · exact refuses_2
  · exact refuses_3
  · exact refuses_4
  · exact refuses_5
  · exact refuses_6
  · exact refuses_7
  · exact refuses_8
  · omega
/-- each refusal is told, whatever the number -/
theorem effectiveRefuses_card : Rows.EffectiveRefusesCardSaid :=
  Claim7.holds_tied_plain_at .later [] [.data, .pinned] true (true, "64282d3c2cb90de4524e8e4f35b6698293a8be25d41747b674317372f272a8f5") false
    (refuses_said refuses_all) (fun _ h => by cases h) effectiveRefuses_wf (fun _ h => by cases h) effectiveRefuses_row_tie rfl ⟨rfl, rfl⟩ main_is rfl
    (fun f fn hf hfn => by
      obtain rfl : f = 3 := Option.some.inj (effectiveRefuses_named.symm.trans hf) |>.symm
      obtain rfl : fn = Tryz.f3 := (Option.some.inj (Tryz.func3.symm.trans hfn)).symm
      exact ⟨no_looks, fun j t ht => by
        rw [Tryz.params3] at ht
        have hm : t = 3 := by simpa using Array.mem_of_getElem? ht
        subst hm
        exact (show Tryz.prog.wantsStandIn 3 = false by simpa using List.all_eq_true.1 no_stands 3 (by simp))⟩)
    effectiveRefuses_goes
#print axioms effectiveRefuses_card
end Go.Proofs.YtpdichdneifdeaaGreatDoor
