/- The table is right: bytes 192 to 255. By program (gentw.py). -/
import Derived.Test.YtofimkcfenemlaaTw
import Derived.KernelRfl
namespace Go.Proofs.Ytofimkcfenemlaa
open Go Go.Ly Go.RowKit
set_option linter.unusedVariables false
set_option linter.unusedSimpArgs false
theorem wRun_24 : ((List.range 8).all fun i => wRun (192 + i)) = true := by kernel_rfl
theorem wRun_25 : ((List.range 8).all fun i => wRun (200 + i)) = true := by kernel_rfl
theorem wRun_26 : ((List.range 8).all fun i => wRun (208 + i)) = true := by kernel_rfl
theorem wRun_27 : ((List.range 8).all fun i => wRun (216 + i)) = true := by kernel_rfl
theorem wRun_28 : ((List.range 8).all fun i => wRun (224 + i)) = true := by kernel_rfl
theorem wRun_29 : ((List.range 8).all fun i => wRun (232 + i)) = true := by kernel_rfl
theorem wRun_30 : ((List.range 8).all fun i => wRun (240 + i)) = true := by kernel_rfl
theorem wRun_31 : ((List.range 8).all fun i => wRun (248 + i)) = true := by kernel_rfl
end Go.Proofs.Ytofimkcfenemlaa
