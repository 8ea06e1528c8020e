/-
  OWN WORK, WRITTEN BY A PROGRAM: one piece of the run, by the kernel.
-/
import Derived.Test.YtogkjcpighphfaaGreatHS0
import Derived.KernelRfl
namespace Go.Hb.Kn
theorem run13 :lpiece PP orc 12500 st13 st14=some st14.as:=by kernel_rfl
end Go.Hb.Kn
