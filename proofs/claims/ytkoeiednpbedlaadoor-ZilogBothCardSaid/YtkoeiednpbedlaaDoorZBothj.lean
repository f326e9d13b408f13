/- Both: runs at bytes 144 to 159. By program (genzb.py). -/
import Derived.Test.YtkoeiednpbedlaaDoorZv
import Derived.KernelRfl
namespace Go.Proofs.YtkoeiednpbedlaaDoor
open Go Go.Ly Go.RowKit
set_option linter.unusedVariables false
set_option maxRecDepth 100000 in
theorem Both_144 : ((List.range 4).all fun i => yes (Ly.run zctxH 100000 [] (Ly.start Tryd.f7 [.int .u8 ((144 + i : Nat) : Int)] H0)).val?) = true := by kernel_rfl
set_option maxRecDepth 100000 in
theorem Both_148 : ((List.range 4).all fun i => yes (Ly.run zctxH 100000 [] (Ly.start Tryd.f7 [.int .u8 ((148 + i : Nat) : Int)] H0)).val?) = true := by kernel_rfl
set_option maxRecDepth 100000 in
theorem Both_152 : ((List.range 4).all fun i => yes (Ly.run zctxH 100000 [] (Ly.start Tryd.f7 [.int .u8 ((152 + i : Nat) : Int)] H0)).val?) = true := by kernel_rfl
set_option maxRecDepth 100000 in
theorem Both_156 : ((List.range 4).all fun i => yes (Ly.run zctxH 100000 [] (Ly.start Tryd.f7 [.int .u8 ((156 + i : Nat) : Int)] H0)).val?) = true := by kernel_rfl
end Go.Proofs.YtkoeiednpbedlaaDoor
