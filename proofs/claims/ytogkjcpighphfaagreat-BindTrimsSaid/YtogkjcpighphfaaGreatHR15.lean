/-
  OWN WORK, WRITTEN BY A PROGRAM: one piece of the run, by the kernel.
-/
import Derived.Test.YtogkjcpighphfaaGreatHS0
import Derived.KernelRfl
namespace Go.Hb.Kn
theorem run15 :lpiece PP orc 10212 st15 st16=some st16.as:=by kernel_rfl
end Go.Hb.Kn
