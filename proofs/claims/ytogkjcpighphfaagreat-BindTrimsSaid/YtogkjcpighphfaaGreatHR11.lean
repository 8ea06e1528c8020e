/-
  OWN WORK, WRITTEN BY A PROGRAM: one piece of the run, by the kernel.
-/
import Derived.Test.YtogkjcpighphfaaGreatHS0
import Derived.KernelRfl
namespace Go.Hb.Kn
theorem run11 :lpiece PP orc 12115 st11 st12=some st12.as:=by kernel_rfl
end Go.Hb.Kn
