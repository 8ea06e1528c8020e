/-
  OWN WORK, WRITTEN BY A PROGRAM: one piece of the run, by the kernel.
-/
import Derived.Test.YtogkjcpighphfaaGreatHS0
import Derived.KernelRfl
namespace Go.Hb.Kn
theorem run8 :lpiece PP orc 19800 st8 st9=some st9.as:=by kernel_rfl
end Go.Hb.Kn
