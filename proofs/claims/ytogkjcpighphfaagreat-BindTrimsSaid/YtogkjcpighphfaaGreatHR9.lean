/-
  OWN WORK, WRITTEN BY A PROGRAM: one piece of the run, by the kernel.
-/
import Derived.Test.YtogkjcpighphfaaGreatHS0
import Derived.KernelRfl
namespace Go.Hb.Kn
theorem run9 :lpiece PP orc 17600 st9 st10=some st10.as:=by kernel_rfl
end Go.Hb.Kn
