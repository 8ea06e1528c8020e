/-
  OWN WORK, WRITTEN BY A PROGRAM: one piece of the run, by the kernel.
-/
import Derived.Test.YtogkjcpighphfaaGreatHS0
import Derived.KernelRfl
namespace Go.Hb.Kn
theorem run3 :lpiece PP orc 13200 st3 st4=some st4.as:=by kernel_rfl
end Go.Hb.Kn
