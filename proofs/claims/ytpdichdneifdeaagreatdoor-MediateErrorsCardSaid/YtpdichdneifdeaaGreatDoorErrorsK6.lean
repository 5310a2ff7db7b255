import Derived.Test.YtpdichdneifdeaaGreatDoorCutErrors
namespace Go.Ev
set_option maxRecDepth 100000
theorem mErrors_k6 : isTrue (fnA (E2 mErrors_l) 100000 5 [.res false 7 6] ⟨0, .leaf⟩) = true := by decide +kernel
end Go.Ev
