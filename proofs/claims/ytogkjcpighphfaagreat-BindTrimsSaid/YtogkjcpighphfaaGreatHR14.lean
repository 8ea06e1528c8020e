/-
  OWN WORK, WRITTEN BY A PROGRAM: one piece of the run, by the kernel.
-/
import Derived.Test.YtogkjcpighphfaaGreatHS0
import Derived.KernelRfl
namespace Go.Hb.Kn
theorem run14 :lpiece PP orc 17400 st14 st15=some st15.as:=by kernel_rfl
end Go.Hb.Kn
