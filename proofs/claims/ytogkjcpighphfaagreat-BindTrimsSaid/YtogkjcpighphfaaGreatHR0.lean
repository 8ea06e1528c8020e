/-
  OWN WORK, WRITTEN BY A PROGRAM: one piece of the run, by the kernel.
-/
import Derived.Test.YtogkjcpighphfaaGreatHS0
import Derived.KernelRfl
namespace Go.Hb.Kn
theorem run0 :lpiece PP orc 14000 st0 st1=some st1.as:=by kernel_rfl
end Go.Hb.Kn
