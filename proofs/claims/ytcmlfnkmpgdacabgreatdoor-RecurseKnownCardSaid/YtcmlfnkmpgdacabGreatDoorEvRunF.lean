/-
  A call that the kernel computes.
-/
import Derived.Test.YtcmlfnkmpgdacabGreatDoorEvTables
namespace Go.Ev
set_option maxRecDepth 1000000
theorem run_m20_1 : chkR m20_1v m20_1L' 9728 ((semF F0 60).call 20 m20_1A (mkW m20_1L 4275 [])) = true := by decide +kernel
end Go.Ev
