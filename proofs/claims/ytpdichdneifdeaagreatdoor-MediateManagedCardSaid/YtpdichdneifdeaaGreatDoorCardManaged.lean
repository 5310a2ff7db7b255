/- MediateManaged answers true whatever comes in, and its arguments read behind the call as before it: the tied card. Condition: package-level variables start as the program's text lays them. -/
import Derived.Test.YtpdichdneifdeaaGreatDoorRowManaged
import Derived.Test.YtpdichdneifdeaaGreatDoorFactsManaged
import Derived.Test.YtpdichdneifdeaaGreatDoorManagedM0
import Derived.Test.YtpdichdneifdeaaGreatDoorManagedM1
import Derived.Test.YtpdichdneifdeaaGreatDoorManagedM2
import Derived.Test.YtpdichdneifdeaaGreatDoorManagedM3
import Derived.Test.YtpdichdneifdeaaGreatDoorManagedM4
import Derived.Test.YtpdichdneifdeaaGreatDoorManagedM5
import Derived.Test.YtpdichdneifdeaaGreatDoorManagedM6
import Derived.Test.YtpdichdneifdeaaGreatDoorManagedM7
import Derived.Test.YtpdichdneifdeaaGreatDoorManagedM8
import Derived.Test.YtpdichdneifdeaaGreatDoorManagedM9
import Derived.Test.YtpdichdneifdeaaGreatDoorManagedM10
import Derived.Test.YtpdichdneifdeaaGreatDoorManagedM11
import Derived.Test.YtpdichdneifdeaaGreatDoorManagedM12
import Derived.Test.YtpdichdneifdeaaGreatDoorManagedM13
import Derived.Test.YtpdichdneifdeaaGreatDoorManagedAw
import Derived.Test.YtpdichdneifdeaaGreatDoorManagedK0
import Derived.Test.YtpdichdneifdeaaGreatDoorManagedK1
import Derived.Test.YtpdichdneifdeaaGreatDoorManagedK2
import Derived.Test.YtpdichdneifdeaaGreatDoorManagedK3
import Derived.Test.YtpdichdneifdeaaGreatDoorManagedK4
import Derived.Test.YtpdichdneifdeaaGreatDoorManagedK5
import Derived.Test.YtpdichdneifdeaaGreatDoorCards
import Derived.Test.YtpdichdneifdeaaGreatDoorTie
import Derived.SevenTiedAt
namespace Go.Proofs.YtpdichdneifdeaaGreatDoor
open Go Go.Ev
set_option maxRecDepth 100000
theorem mManaged_all : ∀ r b, r < 3 → isTrue (fnA (E2 mManaged_l) 100000 8 [.res false 3 r, .bool b] ⟨0, .leaf⟩) = true := by
  intro r b hr
  rcases r with _ | _ | _ | r
  · cases b
    · exact mManaged_k0
    · exact mManaged_k1
  · cases b
    · exact mManaged_k2
    · exact mManaged_k3
  · cases b
    · exact mManaged_k4
    · exact mManaged_k5
  · omega
theorem mManaged_ts : ∀ t ∈ mManaged_l, ∃ ks, cutOk (fnA E0 100000 175 [.str t.n t.l] ⟨0, .leaf⟩) ks t.c = true := by
  intro t ht
  simp only [mManaged_l, List.mem_cons, List.not_mem_nil, or_false] at ht
  rcases ht with rfl | rfl | rfl | rfl | rfl | rfl | rfl | rfl | rfl | rfl | rfl | rfl | rfl | rfl
  · exact ⟨_, mManaged_0⟩
  · exact ⟨_, mManaged_1⟩
  · exact ⟨_, mManaged_2⟩
  · exact ⟨_, mManaged_3⟩
  · exact ⟨_, mManaged_4⟩
  · exact ⟨_, mManaged_5⟩
  · exact ⟨_, mManaged_6⟩
  · exact ⟨_, mManaged_7⟩
  · exact ⟨_, mManaged_8⟩
  · exact ⟨_, mManaged_9⟩
  · exact ⟨_, mManaged_10⟩
  · exact ⟨_, mManaged_11⟩
  · exact ⟨_, mManaged_12⟩
  · exact ⟨_, mManaged_13⟩
/-- true, whatever comes in -/
theorem mediateManaged_card : Rows.MediateManagedCardSaid :=
  Claim7.holds_tied_plain_at .later [] [.data, .pinned] true (true, "64282d3c2cb90de4524e8e4f35b6698293a8be25d41747b674317372f272a8f5") false
    (mediateManaged_said mManaged_all mManaged_ts mManaged_awake) (fun _ h => by cases h) mediateManaged_wf (fun _ h => by cases h) mediateManaged_row_tie rfl ⟨rfl, rfl⟩ main_is rfl
    (fun f fn hf hfn => by
      obtain rfl : f = 8 := Option.some.inj (mediateManaged_named.symm.trans hf) |>.symm
      obtain rfl : fn = Tryz.f8 := (Option.some.inj (Tryz.func8.symm.trans hfn)).symm
      exact ⟨no_looks, fun j t ht => by
        rw [Tryz.params8] at ht
        have hm := Array.mem_of_getElem? ht
        have h34 : t = 3 ∨ t = 4 := by
          simp at hm
          first | exact .inl hm | exact hm | (rcases hm with h | h <;> first | exact .inl h | exact .inr h) | (rcases hm with h | h | h <;> first | exact .inl h | exact .inr h)
        rcases h34 with rfl | rfl
        · exact (show Tryz.prog.wantsStandIn 3 = false by simpa using List.all_eq_true.1 no_stands 3 (by simp))
        · exact (show Tryz.prog.wantsStandIn 4 = false by simpa using List.all_eq_true.1 no_stands 4 (by simp))⟩)
    mediateManaged_goes
#print axioms mediateManaged_card
end Go.Proofs.YtpdichdneifdeaaGreatDoor
