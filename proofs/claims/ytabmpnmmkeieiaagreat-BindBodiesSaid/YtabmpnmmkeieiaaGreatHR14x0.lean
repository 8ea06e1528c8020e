/-
  OWN WORK, WRITTEN BY A PROGRAM: one piece of the run, by the kernel.
-/
import Derived.Test.YtabmpnmmkeieiaaGreatHS0
import Derived.KernelRfl
namespace Go.Hb.Kn
theorem bEz :fW PP orc 269 aIv st15=some st15.as:=by kernel_rfl
end Go.Hb.Kn
