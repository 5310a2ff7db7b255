import Derived.Test.YtpdichdneifdeaaGreatDoorCutTypes
namespace Go.Ev
set_option maxRecDepth 100000
theorem mTypes_k1 : isTrue (fnA (E2 mTypes_l) 100000 10 [.res false 4 1] ⟨0, .leaf⟩) = true := by decide +kernel
end Go.Ev
