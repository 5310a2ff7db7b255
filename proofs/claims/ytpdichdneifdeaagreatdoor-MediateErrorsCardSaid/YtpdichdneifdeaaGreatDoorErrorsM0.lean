import Derived.Test.YtpdichdneifdeaaGreatDoorCutErrors
namespace Go.Ev
set_option maxRecDepth 100000
theorem mErrors_0 : cutOk (fnA E0 100000 175 [.str 1114907305604924273726 9] ⟨0, .leaf⟩) [] mErrors_c0 = true := by decide +kernel
end Go.Ev
