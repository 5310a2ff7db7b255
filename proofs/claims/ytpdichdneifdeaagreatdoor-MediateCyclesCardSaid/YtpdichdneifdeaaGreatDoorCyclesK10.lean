import Derived.Test.YtpdichdneifdeaaGreatDoorCutCycles
namespace Go.Ev
set_option maxRecDepth 100000
theorem mCycles_k10 : isTrue (fnA (E2 mCycles_l) 100000 9 [.res false 6 5, .bool false] ⟨0, .leaf⟩) = true := by decide +kernel
end Go.Ev
