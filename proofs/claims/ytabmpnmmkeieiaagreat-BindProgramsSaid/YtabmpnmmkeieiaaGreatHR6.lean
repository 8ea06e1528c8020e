/-
  OWN WORK, WRITTEN BY A PROGRAM: one piece of the run, by the kernel.
-/
import Derived.Test.YtabmpnmmkeieiaaGreatHS0
import Derived.KernelRfl
namespace Go.Hb.Kn
theorem bGA :fQ PP orc 16537 st6 st7=some st7.as:=by kernel_rfl
end Go.Hb.Kn
