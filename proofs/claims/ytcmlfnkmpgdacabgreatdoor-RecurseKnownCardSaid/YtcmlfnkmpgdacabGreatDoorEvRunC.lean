/-
  A call that the kernel computes.
-/
import Derived.Test.YtcmlfnkmpgdacabGreatDoorEvTables
namespace Go.Ev
set_option maxRecDepth 1000000
theorem run_m80_0 : chkZ m80_0v m80_0L 19215 ((semF F0 60).call 80 m80_0A (mkW m80_0L 19215 [])) = true := by decide +kernel
end Go.Ev
