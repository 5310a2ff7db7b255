import Derived.Test.YtpdichdneifdeaaGreatDoorCutManaged
namespace Go.Ev
set_option maxRecDepth 100000
theorem mManaged_awake : cutOk (fnA (E1 mManaged_l) 100000 21 [] ⟨0, .leaf⟩) [] yes = true := by decide +kernel
end Go.Ev
