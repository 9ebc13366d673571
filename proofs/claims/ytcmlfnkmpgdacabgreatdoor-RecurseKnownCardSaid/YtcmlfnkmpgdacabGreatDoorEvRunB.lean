/-
  A call that the kernel computes.
-/
import Derived.Test.YtcmlfnkmpgdacabGreatDoorEvTables
namespace Go.Ev
set_option maxRecDepth 1000000
theorem run_m22_0 : chkR m22_0v m22_0L' 19212 ((semF F22 60).call 22 m22_0A (mkW m22_0L 9729 [])) = true := by decide +kernel
end Go.Ev
