import Derived.Test.YtpdichdneifdeaaGreatDoorCutTypes
namespace Go.Ev
set_option maxRecDepth 100000
theorem mTypes_awake : cutOk (fnA (E1 mTypes_l) 100000 21 [] ⟨0, .leaf⟩) [] yes = true := by decide +kernel
end Go.Ev
