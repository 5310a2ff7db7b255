/- MediateErrors answers true whatever comes in, and its arguments read behind the call as before it: the tied card. Condition: package-level variables start as the program's text lays them. -/
import Derived.Test.YtpdichdneifdeaaGreatDoorRowErrors
import Derived.Test.YtpdichdneifdeaaGreatDoorFactsErrors
import Derived.Test.YtpdichdneifdeaaGreatDoorErrorsM0
import Derived.Test.YtpdichdneifdeaaGreatDoorErrorsM1
import Derived.Test.YtpdichdneifdeaaGreatDoorErrorsM2
import Derived.Test.YtpdichdneifdeaaGreatDoorErrorsM3
import Derived.Test.YtpdichdneifdeaaGreatDoorErrorsM4
import Derived.Test.YtpdichdneifdeaaGreatDoorErrorsM5
import Derived.Test.YtpdichdneifdeaaGreatDoorErrorsM6
import Derived.Test.YtpdichdneifdeaaGreatDoorErrorsM7
import Derived.Test.YtpdichdneifdeaaGreatDoorErrorsM8
import Derived.Test.YtpdichdneifdeaaGreatDoorErrorsM9
import Derived.Test.YtpdichdneifdeaaGreatDoorErrorsM10
import Derived.Test.YtpdichdneifdeaaGreatDoorErrorsM11
import Derived.Test.YtpdichdneifdeaaGreatDoorErrorsAw
import Derived.Test.YtpdichdneifdeaaGreatDoorErrorsK0
import Derived.Test.YtpdichdneifdeaaGreatDoorErrorsK1
import Derived.Test.YtpdichdneifdeaaGreatDoorErrorsK2
import Derived.Test.YtpdichdneifdeaaGreatDoorErrorsK3
import Derived.Test.YtpdichdneifdeaaGreatDoorErrorsK4
import Derived.Test.YtpdichdneifdeaaGreatDoorErrorsK5
import Derived.Test.YtpdichdneifdeaaGreatDoorErrorsK6
import Derived.Test.YtpdichdneifdeaaGreatDoorCards
import Derived.Test.YtpdichdneifdeaaGreatDoorTie
import Derived.SevenTiedAt
namespace Go.Proofs.YtpdichdneifdeaaGreatDoor
open Go Go.Ev
set_option maxRecDepth 100000
theorem mErrors_all : ∀ r, r < 7 → isTrue (fnA (E2 mErrors_l) 100000 5 [.res false 7 r] ⟨0, .leaf⟩) = true := by
  intro r hr
  rcases r with _ | _ | _ | _ | _ | _ | _ | r
  · exact mErrors_k0
  · exact mErrors_k1
  · exact mErrors_k2
  · exact mErrors_k3
  · exact mErrors_k4
  · exact mErrors_k5
  · exact mErrors_k6
  · omega
theorem mErrors_ts : ∀ t ∈ mErrors_l, ∃ ks, cutOk (fnA E0 100000 175 [.str t.n t.l] ⟨0, .leaf⟩) ks t.c = true := by
  intro t ht
  simp only [mErrors_l, List.mem_cons, List.not_mem_nil, or_false] at ht
  rcases ht with rfl | rfl | rfl | rfl | rfl | rfl | rfl | rfl | rfl | rfl | rfl | rfl
  · exact ⟨_, mErrors_0⟩
  · exact ⟨_, mErrors_1⟩
  · exact ⟨_, mErrors_2⟩
  · exact ⟨_, mErrors_3⟩
  · exact ⟨_, mErrors_4⟩
  · exact ⟨_, mErrors_5⟩
  · exact ⟨_, mErrors_6⟩
  · exact ⟨_, mErrors_7⟩
  · exact ⟨_, mErrors_8⟩
  · exact ⟨_, mErrors_9⟩
  · exact ⟨_, mErrors_10⟩
  · exact ⟨_, mErrors_11⟩
/-- true, whatever comes in -/
theorem mediateErrors_card : Rows.MediateErrorsCardSaid :=
  Claim7.holds_tied_plain_at .later [] [.data, .pinned] true (true, "64282d3c2cb90de4524e8e4f35b6698293a8be25d41747b674317372f272a8f5") false
    (mediateErrors_said mErrors_all mErrors_ts mErrors_awake) (fun _ h => by cases h) mediateErrors_wf (fun _ h => by cases h) mediateErrors_row_tie rfl ⟨rfl, rfl⟩ main_is rfl
    (fun f fn hf hfn => by
      obtain rfl : f = 5 := Option.some.inj (mediateErrors_named.symm.trans hf) |>.symm
      obtain rfl : fn = Tryz.f5 := (Option.some.inj (Tryz.func5.symm.trans hfn)).symm
      exact ⟨no_looks, fun j t ht => by
        rw [Tryz.params5] at ht
        have hm := Array.mem_of_getElem? ht
        have h34 : t = 3 ∨ t = 4 := by
          simp at hm
          first | exact .inl hm | exact hm | (rcases hm with h | h <;> first | exact .inl h | exact .inr h) | (rcases hm with h | h | h <;> first | exact .inl h | exact .inr h)
        rcases h34 with rfl | rfl
        · exact (show Tryz.prog.wantsStandIn 3 = false by simpa using List.all_eq_true.1 no_stands 3 (by simp))
        · exact (show Tryz.prog.wantsStandIn 4 = false by simpa using List.all_eq_true.1 no_stands 4 (by simp))⟩)
    mediateErrors_goes
#print axioms mediateErrors_card
end Go.Proofs.YtpdichdneifdeaaGreatDoor
