/- The table is right: bytes 128 to 191. By program (gentw.py). -/
import Derived.Test.YtofimkcfenemlaaTw
import Derived.KernelRfl
namespace Go.Proofs.Ytofimkcfenemlaa
open Go Go.Ly Go.RowKit
set_option linter.unusedVariables false
set_option linter.unusedSimpArgs false
theorem wRun_16 : ((List.range 8).all fun i => wRun (128 + i)) = true := by kernel_rfl
theorem wRun_17 : ((List.range 8).all fun i => wRun (136 + i)) = true := by kernel_rfl
theorem wRun_18 : ((List.range 8).all fun i => wRun (144 + i)) = true := by kernel_rfl
theorem wRun_19 : ((List.range 8).all fun i => wRun (152 + i)) = true := by kernel_rfl
theorem wRun_20 : ((List.range 8).all fun i => wRun (160 + i)) = true := by kernel_rfl
theorem wRun_21 : ((List.range 8).all fun i => wRun (168 + i)) = true := by kernel_rfl
theorem wRun_22 : ((List.range 8).all fun i => wRun (176 + i)) = true := by kernel_rfl
theorem wRun_23 : ((List.range 8).all fun i => wRun (184 + i)) = true := by kernel_rfl
end Go.Proofs.Ytofimkcfenemlaa
