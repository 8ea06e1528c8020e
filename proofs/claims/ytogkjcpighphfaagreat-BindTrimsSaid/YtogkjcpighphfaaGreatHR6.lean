/-
  OWN WORK, WRITTEN BY A PROGRAM: one piece of the run, by the kernel.
-/
import Derived.Test.YtogkjcpighphfaaGreatHS0
import Derived.KernelRfl
namespace Go.Hb.Kn
theorem run6 :lpiece PP orc 14500 st6 st7=some st7.as:=by kernel_rfl
end Go.Hb.Kn
