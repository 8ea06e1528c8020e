/-
  OWN WORK, WRITTEN BY A PROGRAM: one piece of the run, by the kernel.
-/
import Derived.Test.YtogkjcpighphfaaGreatHS0
import Derived.KernelRfl
namespace Go.Hb.Kn
theorem run4 :lpiece PP orc 13100 st4 st5=some st5.as:=by kernel_rfl
end Go.Hb.Kn
