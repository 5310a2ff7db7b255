import Derived.Test.YtpdichdneifdeaaGreatDoorCutCycles
namespace Go.Ev
set_option maxRecDepth 100000
theorem mCycles_awake : cutOk (fnA (E1 mCycles_l) 100000 21 [] ⟨0, .leaf⟩) [] yes = true := by decide +kernel
end Go.Ev
