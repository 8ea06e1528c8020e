/-
  OWN WORK, WRITTEN BY A PROGRAM: one piece of the run, by the kernel.
-/
import Derived.Test.YtabmpnmmkeieiaaGreatHS0
import Derived.KernelRfl
namespace Go.Hb.Kn
theorem bGy :fQ PP orc 11337 st4 st5=some st5.as:=by kernel_rfl
end Go.Hb.Kn
