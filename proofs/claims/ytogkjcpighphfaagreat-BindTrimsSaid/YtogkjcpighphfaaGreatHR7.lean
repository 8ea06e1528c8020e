/-
  OWN WORK, WRITTEN BY A PROGRAM: one piece of the run, by the kernel.
-/
import Derived.Test.YtogkjcpighphfaaGreatHS0
import Derived.KernelRfl
namespace Go.Hb.Kn
theorem run7 :lpiece PP orc 12500 st7 st8=some st8.as:=by kernel_rfl
end Go.Hb.Kn
