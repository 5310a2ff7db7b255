/- MediateOptional answers true whatever comes in, and its arguments read behind the call as before it: the tied card. Condition: package-level variables start as the program's text lays them. -/
import Derived.Test.YtpdichdneifdeaaGreatDoorRowOptional
import Derived.Test.YtpdichdneifdeaaGreatDoorFactsOptional
import Derived.Test.YtpdichdneifdeaaGreatDoorOptionalM0
import Derived.Test.YtpdichdneifdeaaGreatDoorOptionalM1
import Derived.Test.YtpdichdneifdeaaGreatDoorOptionalM2
import Derived.Test.YtpdichdneifdeaaGreatDoorOptionalM3
import Derived.Test.YtpdichdneifdeaaGreatDoorOptionalM4
import Derived.Test.YtpdichdneifdeaaGreatDoorOptionalM5
import Derived.Test.YtpdichdneifdeaaGreatDoorOptionalM6
import Derived.Test.YtpdichdneifdeaaGreatDoorOptionalM7
import Derived.Test.YtpdichdneifdeaaGreatDoorOptionalM8
import Derived.Test.YtpdichdneifdeaaGreatDoorOptionalM9
import Derived.Test.YtpdichdneifdeaaGreatDoorOptionalM10
import Derived.Test.YtpdichdneifdeaaGreatDoorOptionalM11
import Derived.Test.YtpdichdneifdeaaGreatDoorOptionalM12
import Derived.Test.YtpdichdneifdeaaGreatDoorOptionalM13
import Derived.Test.YtpdichdneifdeaaGreatDoorOptionalM14
import Derived.Test.YtpdichdneifdeaaGreatDoorOptionalM15
import Derived.Test.YtpdichdneifdeaaGreatDoorOptionalM16
import Derived.Test.YtpdichdneifdeaaGreatDoorOptionalM17
import Derived.Test.YtpdichdneifdeaaGreatDoorOptionalM18
import Derived.Test.YtpdichdneifdeaaGreatDoorOptionalAw
import Derived.Test.YtpdichdneifdeaaGreatDoorOptionalK0
import Derived.Test.YtpdichdneifdeaaGreatDoorOptionalK1
import Derived.Test.YtpdichdneifdeaaGreatDoorOptionalK2
import Derived.Test.YtpdichdneifdeaaGreatDoorOptionalK3
import Derived.Test.YtpdichdneifdeaaGreatDoorOptionalK4
import Derived.Test.YtpdichdneifdeaaGreatDoorOptionalK5
import Derived.Test.YtpdichdneifdeaaGreatDoorOptionalK6
import Derived.Test.YtpdichdneifdeaaGreatDoorOptionalK7
import Derived.Test.YtpdichdneifdeaaGreatDoorOptionalK8
import Derived.Test.YtpdichdneifdeaaGreatDoorOptionalK9
import Derived.Test.YtpdichdneifdeaaGreatDoorOptionalK10
import Derived.Test.YtpdichdneifdeaaGreatDoorOptionalK11
import Derived.Test.YtpdichdneifdeaaGreatDoorOptionalK12
import Derived.Test.YtpdichdneifdeaaGreatDoorOptionalK13
import Derived.Test.YtpdichdneifdeaaGreatDoorOptionalK14
import Derived.Test.YtpdichdneifdeaaGreatDoorOptionalK15
import Derived.Test.YtpdichdneifdeaaGreatDoorCards
import Derived.Test.YtpdichdneifdeaaGreatDoorTie
import Derived.SevenTiedAt
namespace Go.Proofs.YtpdichdneifdeaaGreatDoor
open Go Go.Ev
set_option maxRecDepth 100000
theorem mOptional_all : ∀ a r b, r < 4 → isTrue (fnA (E2 mOptional_l) 100000 7 [.bool a, .res false 4 r, .bool b] ⟨0, .leaf⟩) = true := by
  intro a r b hr
  cases a
  · rcases r with _ | _ | _ | _ | r
    · cases b
      · exact mOptional_k0
      · exact mOptional_k1
    · cases b
      · exact mOptional_k2
      · exact mOptional_k3
    · cases b
      · exact mOptional_k4
      · exact mOptional_k5
    · cases b
      · exact mOptional_k6
      · exact mOptional_k7
    · omega
  · rcases r with _ | _ | _ | _ | r
    · cases b
      · exact mOptional_k8
      · exact mOptional_k9
    · cases b
      · exact mOptional_k10
      · exact mOptional_k11
    · cases b
      · exact mOptional_k12
      · exact mOptional_k13
    · cases b
      · exact mOptional_k14
      · exact mOptional_k15
    · omega
theorem mOptional_ts : ∀ t ∈ mOptional_l, ∃ ks, cutOk (fnA E0 100000 175 [.str t.n t.l] ⟨0, .leaf⟩) ks t.c = true := by
  intro t ht
  simp only [mOptional_l, List.mem_cons, List.not_mem_nil, or_false] at ht
  rcases ht with rfl | rfl | rfl | rfl | rfl | rfl | rfl | rfl | rfl | rfl | rfl | rfl | rfl | rfl | rfl | rfl | rfl | rfl | rfl
  · exact ⟨_, mOptional_0⟩
  · exact ⟨_, mOptional_1⟩
  · exact ⟨_, mOptional_2⟩
  · exact ⟨_, mOptional_3⟩
  · exact ⟨_, mOptional_4⟩
  · exact ⟨_, mOptional_5⟩
  · exact ⟨_, mOptional_6⟩
  · exact ⟨_, mOptional_7⟩
  · exact ⟨_, mOptional_8⟩
  · exact ⟨_, mOptional_9⟩
  · exact ⟨_, mOptional_10⟩
  · exact ⟨_, mOptional_11⟩
  · exact ⟨_, mOptional_12⟩
  · exact ⟨_, mOptional_13⟩
  · exact ⟨_, mOptional_14⟩
  · exact ⟨_, mOptional_15⟩
  · exact ⟨_, mOptional_16⟩
  · exact ⟨_, mOptional_17⟩
  · exact ⟨_, mOptional_18⟩
/-- true, whatever comes in -/
theorem mediateOptional_card : Rows.MediateOptionalCardSaid :=
  Claim7.holds_tied_plain_at .later [] [.data, .pinned] true (true, "64282d3c2cb90de4524e8e4f35b6698293a8be25d41747b674317372f272a8f5") false
    (mediateOptional_said mOptional_all mOptional_ts mOptional_awake) (fun _ h => by cases h) mediateOptional_wf (fun _ h => by cases h) mediateOptional_row_tie rfl ⟨rfl, rfl⟩ main_is rfl
    (fun f fn hf hfn => by
      obtain rfl : f = 7 := Option.some.inj (mediateOptional_named.symm.trans hf) |>.symm
      obtain rfl : fn = Tryz.f7 := (Option.some.inj (Tryz.func7.symm.trans hfn)).symm
      exact ⟨no_looks, fun j t ht => by
        rw [Tryz.params7] at ht
        have hm := Array.mem_of_getElem? ht
        have h34 : t = 3 ∨ t = 4 := by
          simp at hm
          first | exact .inl hm | exact hm | (rcases hm with h | h <;> first | exact .inl h | exact .inr h) | (rcases hm with h | h | h <;> first | exact .inl h | exact .inr h)
        rcases h34 with rfl | rfl
        · exact (show Tryz.prog.wantsStandIn 3 = false by simpa using List.all_eq_true.1 no_stands 3 (by simp))
        · exact (show Tryz.prog.wantsStandIn 4 = false by simpa using List.all_eq_true.1 no_stands 4 (by simp))⟩)
    mediateOptional_goes
#print axioms mediateOptional_card
end Go.Proofs.YtpdichdneifdeaaGreatDoor
