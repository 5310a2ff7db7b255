/- MediateTypes answers true whatever comes in, and its arguments read behind the call as before it: the tied card. Condition: package-level variables start as the program's text lays them. -/
import Derived.Test.YtpdichdneifdeaaGreatDoorRowTypes
import Derived.Test.YtpdichdneifdeaaGreatDoorFactsTypes
import Derived.Test.YtpdichdneifdeaaGreatDoorTypesM0
import Derived.Test.YtpdichdneifdeaaGreatDoorTypesM1
import Derived.Test.YtpdichdneifdeaaGreatDoorTypesM2
import Derived.Test.YtpdichdneifdeaaGreatDoorTypesM3
import Derived.Test.YtpdichdneifdeaaGreatDoorTypesM4
import Derived.Test.YtpdichdneifdeaaGreatDoorTypesM5
import Derived.Test.YtpdichdneifdeaaGreatDoorTypesM6
import Derived.Test.YtpdichdneifdeaaGreatDoorTypesM7
import Derived.Test.YtpdichdneifdeaaGreatDoorTypesAw
import Derived.Test.YtpdichdneifdeaaGreatDoorTypesK0
import Derived.Test.YtpdichdneifdeaaGreatDoorTypesK1
import Derived.Test.YtpdichdneifdeaaGreatDoorTypesK2
import Derived.Test.YtpdichdneifdeaaGreatDoorTypesK3
import Derived.Test.YtpdichdneifdeaaGreatDoorCards
import Derived.Test.YtpdichdneifdeaaGreatDoorTie
import Derived.SevenTiedAt
namespace Go.Proofs.YtpdichdneifdeaaGreatDoor
open Go Go.Ev
set_option maxRecDepth 100000
theorem mTypes_all : ∀ r, r < 4 → isTrue (fnA (E2 mTypes_l) 100000 10 [.res false 4 r] ⟨0, .leaf⟩) = true := by
  intro r hr
  rcases r with _ | _ | _ | _ | r
  · exact mTypes_k0
  · exact mTypes_k1
  · exact mTypes_k2
  · exact mTypes_k3
  · omega
theorem mTypes_ts : ∀ t ∈ mTypes_l, ∃ ks, cutOk (fnA E0 100000 175 [.str t.n t.l] ⟨0, .leaf⟩) ks t.c = true := by
  intro t ht
  simp only [mTypes_l, List.mem_cons, List.not_mem_nil, or_false] at ht
  rcases ht with rfl | rfl | rfl | rfl | rfl | rfl | rfl | rfl
  · exact ⟨_, mTypes_0⟩
  · exact ⟨_, mTypes_1⟩
  · exact ⟨_, mTypes_2⟩
  · exact ⟨_, mTypes_3⟩
  · exact ⟨_, mTypes_4⟩
  · exact ⟨_, mTypes_5⟩
  · exact ⟨_, mTypes_6⟩
  · exact ⟨_, mTypes_7⟩
/-- true, whatever comes in -/
theorem mediateTypes_card : Rows.MediateTypesCardSaid :=
  Claim7.holds_tied_plain_at .later [] [.data, .pinned] true (true, "64282d3c2cb90de4524e8e4f35b6698293a8be25d41747b674317372f272a8f5") false
    (mediateTypes_said mTypes_all mTypes_ts mTypes_awake) (fun _ h => by cases h) mediateTypes_wf (fun _ h => by cases h) mediateTypes_row_tie rfl ⟨rfl, rfl⟩ main_is rfl
    (fun f fn hf hfn => by
      obtain rfl : f = 10 := Option.some.inj (mediateTypes_named.symm.trans hf) |>.symm
      obtain rfl : fn = Tryz.f10 := (Option.some.inj (Tryz.func10.symm.trans hfn)).symm
      exact ⟨no_looks, fun j t ht => by
        rw [Tryz.params10] at ht
        have hm := Array.mem_of_getElem? ht
        have h34 : t = 3 ∨ t = 4 := by
          simp at hm
          first | exact .inl hm | exact hm | (rcases hm with h | h <;> first | exact .inl h | exact .inr h) | (rcases hm with h | h | h <;> first | exact .inl h | exact .inr h)
        rcases h34 with rfl | rfl
        · exact (show Tryz.prog.wantsStandIn 3 = false by simpa using List.all_eq_true.1 no_stands 3 (by simp))
        · exact (show Tryz.prog.wantsStandIn 4 = false by simpa using List.all_eq_true.1 no_stands 4 (by simp))⟩)
    mediateTypes_goes
#print axioms mediateTypes_card
end Go.Proofs.YtpdichdneifdeaaGreatDoor
