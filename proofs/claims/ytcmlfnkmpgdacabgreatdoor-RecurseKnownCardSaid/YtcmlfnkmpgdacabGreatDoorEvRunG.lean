/-
  A call that the kernel computes.
-/
import Derived.Test.YtcmlfnkmpgdacabGreatDoorEvTables
namespace Go.Ev
set_option maxRecDepth 1000000
theorem run_m20_2 : chkR m20_2v m20_2L' 16351 ((semF F0 60).call 20 m20_2A (mkW m20_2L 10898 [])) = true := by decide +kernel
end Go.Ev
