import Derived.Test.YtpdichdneifdeaaGreatDoorCutOptional
namespace Go.Ev
set_option maxRecDepth 100000
theorem mOptional_awake : cutOk (fnA (E1 mOptional_l) 100000 21 [] ⟨0, .leaf⟩) [] yes = true := by decide +kernel
end Go.Ev
