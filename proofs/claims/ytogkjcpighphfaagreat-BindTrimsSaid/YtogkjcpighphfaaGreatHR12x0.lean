/-
  OWN WORK, WRITTEN BY A PROGRAM: one piece of the run, by the kernel.
-/
import Derived.Test.YtogkjcpighphfaaGreatHS0
import Derived.KernelRfl
namespace Go.Hb.Kn
theorem run12x0 :lpiece PP orc 269 st12x0a st13=some st13.as:=by kernel_rfl
end Go.Hb.Kn
