/- The table is right: bytes 0 to 63. By program (gentw.py). -/
import Derived.Test.YtofimkcfenemlaaTw
import Derived.KernelRfl
namespace Go.Proofs.Ytofimkcfenemlaa
open Go Go.Ly Go.RowKit
set_option linter.unusedVariables false
set_option linter.unusedSimpArgs false
theorem wRun_0 : ((List.range 8).all fun i => wRun (0 + i)) = true := by kernel_rfl
theorem wRun_1 : ((List.range 8).all fun i => wRun (8 + i)) = true := by kernel_rfl
theorem wRun_2 : ((List.range 8).all fun i => wRun (16 + i)) = true := by kernel_rfl
theorem wRun_3 : ((List.range 8).all fun i => wRun (24 + i)) = true := by kernel_rfl
theorem wRun_4 : ((List.range 8).all fun i => wRun (32 + i)) = true := by kernel_rfl
theorem wRun_5 : ((List.range 8).all fun i => wRun (40 + i)) = true := by kernel_rfl
theorem wRun_6 : ((List.range 8).all fun i => wRun (48 + i)) = true := by kernel_rfl
theorem wRun_7 : ((List.range 8).all fun i => wRun (56 + i)) = true := by kernel_rfl
end Go.Proofs.Ytofimkcfenemlaa
