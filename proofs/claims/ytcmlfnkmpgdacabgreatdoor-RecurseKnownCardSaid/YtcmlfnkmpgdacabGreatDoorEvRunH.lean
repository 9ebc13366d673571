/-
  A call that the kernel computes.
-/
import Derived.Test.YtcmlfnkmpgdacabGreatDoorEvTables
namespace Go.Ev
set_option maxRecDepth 1000000
theorem run_m79_0 : chkZ m79_0v m79_0L 19215 ((semF F0 60).call 79 m79_0A (mkW m79_0L 19215 [])) = true := by decide +kernel
end Go.Ev
