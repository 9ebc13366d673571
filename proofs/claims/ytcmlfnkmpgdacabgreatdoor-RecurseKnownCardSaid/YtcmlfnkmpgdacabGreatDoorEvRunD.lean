/-
  A call that the kernel computes.
-/
import Derived.Test.YtcmlfnkmpgdacabGreatDoorEvTables
namespace Go.Ev
set_option maxRecDepth 1000000
theorem run_m57_0 : chkZ m57_0v m57_0L 19213 ((semF F57 60).call 57 m57_0A (mkW m57_0L 19213 [])) = true := by decide +kernel
end Go.Ev
