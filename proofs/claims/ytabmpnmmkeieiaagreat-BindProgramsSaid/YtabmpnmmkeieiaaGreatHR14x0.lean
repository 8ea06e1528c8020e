/-
  OWN WORK, WRITTEN BY A PROGRAM: one piece of the run, by the kernel.
-/
import Derived.Test.YtabmpnmmkeieiaaGreatHS0
import Derived.KernelRfl
namespace Go.Hb.Kn
theorem bBO :fQ PP orc 269 aGI st15=some st15.as:=by kernel_rfl
end Go.Hb.Kn
