/- MediateCycles answers true whatever comes in, and its arguments read behind the call as before it: the tied card. Condition: package-level variables start as the program's text lays them. -/
import Derived.Test.YtpdichdneifdeaaGreatDoorRowCycles
import Derived.Test.YtpdichdneifdeaaGreatDoorFactsCycles
import Derived.Test.YtpdichdneifdeaaGreatDoorCyclesM0
import Derived.Test.YtpdichdneifdeaaGreatDoorCyclesM1
import Derived.Test.YtpdichdneifdeaaGreatDoorCyclesM2
import Derived.Test.YtpdichdneifdeaaGreatDoorCyclesM3
import Derived.Test.YtpdichdneifdeaaGreatDoorCyclesM4
import Derived.Test.YtpdichdneifdeaaGreatDoorCyclesM5
import Derived.Test.YtpdichdneifdeaaGreatDoorCyclesM6
import Derived.Test.YtpdichdneifdeaaGreatDoorCyclesM7
import Derived.Test.YtpdichdneifdeaaGreatDoorCyclesM8
import Derived.Test.YtpdichdneifdeaaGreatDoorCyclesM9
import Derived.Test.YtpdichdneifdeaaGreatDoorCyclesM10
import Derived.Test.YtpdichdneifdeaaGreatDoorCyclesM11
import Derived.Test.YtpdichdneifdeaaGreatDoorCyclesM12
import Derived.Test.YtpdichdneifdeaaGreatDoorCyclesM13
import Derived.Test.YtpdichdneifdeaaGreatDoorCyclesM14
import Derived.Test.YtpdichdneifdeaaGreatDoorCyclesM15
import Derived.Test.YtpdichdneifdeaaGreatDoorCyclesM16
import Derived.Test.YtpdichdneifdeaaGreatDoorCyclesM17
import Derived.Test.YtpdichdneifdeaaGreatDoorCyclesM18
import Derived.Test.YtpdichdneifdeaaGreatDoorCyclesM19
import Derived.Test.YtpdichdneifdeaaGreatDoorCyclesAw
import Derived.Test.YtpdichdneifdeaaGreatDoorCyclesK0
import Derived.Test.YtpdichdneifdeaaGreatDoorCyclesK1
import Derived.Test.YtpdichdneifdeaaGreatDoorCyclesK2
import Derived.Test.YtpdichdneifdeaaGreatDoorCyclesK3
import Derived.Test.YtpdichdneifdeaaGreatDoorCyclesK4
import Derived.Test.YtpdichdneifdeaaGreatDoorCyclesK5
import Derived.Test.YtpdichdneifdeaaGreatDoorCyclesK6
import Derived.Test.YtpdichdneifdeaaGreatDoorCyclesK7
import Derived.Test.YtpdichdneifdeaaGreatDoorCyclesK8
import Derived.Test.YtpdichdneifdeaaGreatDoorCyclesK9
import Derived.Test.YtpdichdneifdeaaGreatDoorCyclesK10
import Derived.Test.YtpdichdneifdeaaGreatDoorCyclesK11
import Derived.Test.YtpdichdneifdeaaGreatDoorCards
import Derived.Test.YtpdichdneifdeaaGreatDoorTie
import Derived.SevenTiedAt
namespace Go.Proofs.YtpdichdneifdeaaGreatDoor
open Go Go.Ev
set_option maxRecDepth 100000
theorem mCycles_all : ∀ r b, r < 6 → isTrue (fnA (E2 mCycles_l) 100000 9 [.res false 6 r, .bool b] ⟨0, .leaf⟩) = true := by
  intro r b hr
  rcases r with _ | _ | _ | _ | _ | _ | r
  · cases b
    · exact mCycles_k0
    · exact mCycles_k1
  · cases b
    · exact mCycles_k2
    · exact mCycles_k3
  · cases b
    · exact mCycles_k4
    · exact mCycles_k5
  · cases b
    · exact mCycles_k6
    · exact mCycles_k7
  · cases b
    · exact mCycles_k8
    · exact mCycles_k9
  · cases b
    · exact mCycles_k10
    · exact mCycles_k11
  · omega
theorem mCycles_ts : ∀ t ∈ mCycles_l, ∃ ks, cutOk (fnA E0 100000 175 [.str t.n t.l] ⟨0, .leaf⟩) ks t.c = true := by
  intro t ht
  simp only [mCycles_l, List.mem_cons, List.not_mem_nil, or_false] at ht
  rcases ht with rfl | rfl | rfl | rfl | rfl | rfl | rfl | rfl | rfl | rfl | rfl | rfl | rfl | rfl | rfl | rfl | rfl | rfl | rfl | rfl
  · exact ⟨_, mCycles_0⟩
  · exact ⟨_, mCycles_1⟩
  · exact ⟨_, mCycles_2⟩
  · exact ⟨_, mCycles_3⟩
  · exact ⟨_, mCycles_4⟩
  · exact ⟨_, mCycles_5⟩
  · exact ⟨_, mCycles_6⟩
  · exact ⟨_, mCycles_7⟩
  · exact ⟨_, mCycles_8⟩
  · exact ⟨_, mCycles_9⟩
  · exact ⟨_, mCycles_10⟩
  · exact ⟨_, mCycles_11⟩
  · exact ⟨_, mCycles_12⟩
  · exact ⟨_, mCycles_13⟩
  · exact ⟨_, mCycles_14⟩
  · exact ⟨_, mCycles_15⟩
  · exact ⟨_, mCycles_16⟩
  · exact ⟨_, mCycles_17⟩
  · exact ⟨_, mCycles_18⟩
  · exact ⟨_, mCycles_19⟩
/-- true, whatever comes in -/
theorem mediateCycles_card : Rows.MediateCyclesCardSaid :=
  Claim7.holds_tied_plain_at .later [] [.data, .pinned] true (true, "64282d3c2cb90de4524e8e4f35b6698293a8be25d41747b674317372f272a8f5") false
    (mediateCycles_said mCycles_all mCycles_ts mCycles_awake) (fun _ h => by cases h) mediateCycles_wf (fun _ h => by cases h) mediateCycles_row_tie rfl ⟨rfl, rfl⟩ main_is rfl
    (fun f fn hf hfn => by
      obtain rfl : f = 9 := Option.some.inj (mediateCycles_named.symm.trans hf) |>.symm
      obtain rfl : fn = Tryz.f9 := (Option.some.inj (Tryz.func9.symm.trans hfn)).symm
      exact ⟨no_looks, fun j t ht => by
        rw [Tryz.params9] at ht
        have hm := Array.mem_of_getElem? ht
        have h34 : t = 3 ∨ t = 4 := by
          simp at hm
          first | exact .inl hm | exact hm | (rcases hm with h | h <;> first | exact .inl h | exact .inr h) | (rcases hm with h | h | h <;> first | exact .inl h | exact .inr h)
        rcases h34 with rfl | rfl
        · exact (show Tryz.prog.wantsStandIn 3 = false by simpa using List.all_eq_true.1 no_stands 3 (by simp))
        · exact (show Tryz.prog.wantsStandIn 4 = false by simpa using List.all_eq_true.1 no_stands 4 (by simp))⟩)
    mediateCycles_goes
#print axioms mediateCycles_card
end Go.Proofs.YtpdichdneifdeaaGreatDoor
