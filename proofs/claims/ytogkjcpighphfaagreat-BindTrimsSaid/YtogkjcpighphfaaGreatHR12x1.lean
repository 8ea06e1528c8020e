/-
  OWN WORK, WRITTEN BY A PROGRAM: one piece of the run, by the kernel.
-/
import Derived.Test.YtogkjcpighphfaaGreatHS0
import Derived.KernelRfl
namespace Go.Hb.Kn
theorem run12x1 :lpiece PP orc 284 st12x1a st12x1=some st12x1.as:=by kernel_rfl
end Go.Hb.Kn
