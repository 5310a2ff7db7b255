import Derived.Test.YtpdichdneifdeaaGreatDoorCutCycles
namespace Go.Ev
set_option maxRecDepth 100000
theorem mCycles_k9 : isTrue (fnA (E2 mCycles_l) 100000 9 [.res false 6 4, .bool true] ⟨0, .leaf⟩) = true := by decide +kernel
end Go.Ev
