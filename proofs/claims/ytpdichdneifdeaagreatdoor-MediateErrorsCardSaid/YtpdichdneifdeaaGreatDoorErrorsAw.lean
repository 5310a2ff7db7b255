import Derived.Test.YtpdichdneifdeaaGreatDoorCutErrors
namespace Go.Ev
set_option maxRecDepth 100000
theorem mErrors_awake : cutOk (fnA (E1 mErrors_l) 100000 21 [] ⟨0, .leaf⟩) [] yes = true := by decide +kernel
end Go.Ev
