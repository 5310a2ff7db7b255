import Derived.Test.YtpdichdneifdeaaGreatDoorCutManaged
namespace Go.Ev
set_option maxRecDepth 100000
theorem mManaged_k1 : isTrue (fnA (E2 mManaged_l) 100000 8 [.res false 3 0, .bool true] ⟨0, .leaf⟩) = true := by decide +kernel
end Go.Ev
