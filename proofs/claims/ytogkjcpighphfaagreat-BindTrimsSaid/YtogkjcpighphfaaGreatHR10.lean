/-
  OWN WORK, WRITTEN BY A PROGRAM: one piece of the run, by the kernel.
-/
import Derived.Test.YtogkjcpighphfaaGreatHS0
import Derived.KernelRfl
namespace Go.Hb.Kn
theorem run10 :lpiece PP orc 19500 st10 st11=some st11.as:=by kernel_rfl
end Go.Hb.Kn
