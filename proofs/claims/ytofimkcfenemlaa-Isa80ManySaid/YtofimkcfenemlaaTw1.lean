/- The table is right: bytes 64 to 127. By program (gentw.py). -/
import Derived.Test.YtofimkcfenemlaaTw
import Derived.KernelRfl
namespace Go.Proofs.Ytofimkcfenemlaa
open Go Go.Ly Go.RowKit
set_option linter.unusedVariables false
set_option linter.unusedSimpArgs false
theorem wRun_8 : ((List.range 8).all fun i => wRun (64 + i)) = true := by kernel_rfl
theorem wRun_9 : ((List.range 8).all fun i => wRun (72 + i)) = true := by kernel_rfl
theorem wRun_10 : ((List.range 8).all fun i => wRun (80 + i)) = true := by kernel_rfl
theorem wRun_11 : ((List.range 8).all fun i => wRun (88 + i)) = true := by kernel_rfl
theorem wRun_12 : ((List.range 8).all fun i => wRun (96 + i)) = true := by kernel_rfl
theorem wRun_13 : ((List.range 8).all fun i => wRun (104 + i)) = true := by kernel_rfl
theorem wRun_14 : ((List.range 8).all fun i => wRun (112 + i)) = true := by kernel_rfl
theorem wRun_15 : ((List.range 8).all fun i => wRun (120 + i)) = true := by kernel_rfl
end Go.Proofs.Ytofimkcfenemlaa
