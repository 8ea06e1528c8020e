/-
  OWN WORK, WRITTEN BY A PROGRAM: one piece of the run, by the kernel.
-/
import Derived.Test.YtogkjcpighphfaaGreatHS0
import Derived.KernelRfl
namespace Go.Hb.Kn
theorem run2 :lpiece PP orc 13700 st2 st3=some st3.as:=by kernel_rfl
end Go.Hb.Kn
