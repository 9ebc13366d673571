/-
  A call that the kernel computes.
-/
import Derived.Test.YtcmlfnkmpgdacabGreatDoorEvTables
namespace Go.Ev
set_option maxRecDepth 1000000
def hp7 : List Ob := [.mk 0 [.n 7 97, .n 7 5, .n 3 5, .n 3 5, .sl 1 0 1 1 0, .n 7 257, .n 7 3, .n 3 8, .n 3 3, .sn, .n 7 12289, .n 7 11, .n 3 12, .n 3 5, .sl 2 0 1 1 0, .n 7 998244353, .n 7 3, .n 3 23, .n 3 3, .sl 3 0 2 2 0], .mk 1 [.n 7 3], .mk 2 [.n 7 3], .mk 3 [.n 7 7, .n 7 17]]
theorem run_m7_0 : isT ((semF F7 60).call 7 [] (mkW hp7 4 [])) = true := by decide +kernel
end Go.Ev

/-
  A call that the kernel computes.
-/
namespace Go.Ev
set_option maxRecDepth 1000000
theorem run_m9_0 : chkZ m9_0v m9_0L 2661 ((semF F9 60).call 9 m9_0A (mkW m9_0L 2661 [])) = true := by decide +kernel
end Go.Ev

/-
  A call that the kernel computes.
-/
namespace Go.Ev
set_option maxRecDepth 1000000
theorem run_m16_0 : chkZ m16_0v m16_0L 4273 ((semF F16 60).call 16 m16_0A (mkW m16_0L 4273 [])) = true := by decide +kernel
end Go.Ev

/-
  A call that the kernel computes.
-/
namespace Go.Ev
set_option maxRecDepth 1000000
theorem run_m16_1 : chkZ m16_1v m16_1L 4273 ((semF F16 60).call 16 m16_1A (mkW m16_1L 4273 [])) = true := by decide +kernel
end Go.Ev

/-
  A call that the kernel computes.
-/
namespace Go.Ev
set_option maxRecDepth 1000000
theorem run_m25_0 : chkZ m25_0v m25_0L 19214 ((semF F25 60).call 25 m25_0A (mkW m25_0L 19214 [])) = true := by decide +kernel
end Go.Ev
