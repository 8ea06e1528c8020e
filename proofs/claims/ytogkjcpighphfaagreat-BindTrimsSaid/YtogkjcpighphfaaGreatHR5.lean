/-
  OWN WORK, WRITTEN BY A PROGRAM: one piece of the run, by the kernel.
-/
import Derived.Test.YtogkjcpighphfaaGreatHS0
import Derived.KernelRfl
namespace Go.Hb.Kn
theorem run5 :lpiece PP orc 17500 st5 st6=some st6.as:=by kernel_rfl
end Go.Hb.Kn
