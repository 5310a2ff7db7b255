import Derived.Test.YtpdichdneifdeaaGreatDoorCutOptional
namespace Go.Ev
set_option maxRecDepth 100000
theorem mOptional_k11 : isTrue (fnA (E2 mOptional_l) 100000 7 [.bool true, .res false 4 1, .bool true] ⟨0, .leaf⟩) = true := by decide +kernel
end Go.Ev
