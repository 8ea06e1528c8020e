/-
  OWN WORK, WRITTEN BY A PROGRAM: one piece of the run, by the kernel.
-/
import Derived.Test.YtogkjcpighphfaaGreatHS0
import Derived.KernelRfl
namespace Go.Hb.Kn
theorem run1 :lpiece PP orc 14000 st1 st2=some st2.as:=by kernel_rfl
end Go.Hb.Kn
