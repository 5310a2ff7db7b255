import Derived.Test.YtpdichdneifdeaaGreatDoorCutOptional
namespace Go.Ev
set_option maxRecDepth 100000
theorem mOptional_k1 : isTrue (fnA (E2 mOptional_l) 100000 7 [.bool false, .res false 4 0, .bool true] ⟨0, .leaf⟩) = true := by decide +kernel
end Go.Ev
