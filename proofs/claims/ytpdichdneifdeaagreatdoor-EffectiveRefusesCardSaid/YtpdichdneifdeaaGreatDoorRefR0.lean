import Derived.Test.YtpdichdneifdeaaGreatDoorTab
namespace Go.Ev
set_option maxRecDepth 100000
theorem refuses_0 : isTrue (fnA E0 100000 3 [.res false 9 0] ⟨0, .leaf⟩) = true := by decide +kernel
end Go.Ev
