import Derived.Test.YtpdichdneifdeaaGreatDoorTab
namespace Go.Ev
set_option maxRecDepth 100000
theorem refuses_1 : isTrue (fnA E0 100000 3 [.res false 9 1] ⟨0, .leaf⟩) = true := by decide +kernel
end Go.Ev
