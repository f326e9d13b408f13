/- Both: runs at bytes 32 to 47. By program (genzb.py). -/
import Derived.Test.YtkoeiednpbedlaaDoorZv
import Derived.KernelRfl
namespace Go.Proofs.YtkoeiednpbedlaaDoor
open Go Go.Ly Go.RowKit
set_option linter.unusedVariables false
set_option maxRecDepth 100000 in
theorem Both_32 : ((List.range 4).all fun i => yes (Ly.run zctxH 100000 [] (Ly.start Tryd.f7 [.int .u8 ((32 + i : Nat) : Int)] H0)).val?) = true := by kernel_rfl
set_option maxRecDepth 100000 in
theorem Both_36 : ((List.range 4).all fun i => yes (Ly.run zctxH 100000 [] (Ly.start Tryd.f7 [.int .u8 ((36 + i : Nat) : Int)] H0)).val?) = true := by kernel_rfl
set_option maxRecDepth 100000 in
theorem Both_40 : ((List.range 4).all fun i => yes (Ly.run zctxH 100000 [] (Ly.start Tryd.f7 [.int .u8 ((40 + i : Nat) : Int)] H0)).val?) = true := by kernel_rfl
set_option maxRecDepth 100000 in
theorem Both_44 : ((List.range 4).all fun i => yes (Ly.run zctxH 100000 [] (Ly.start Tryd.f7 [.int .u8 ((44 + i : Nat) : Int)] H0)).val?) = true := by kernel_rfl
end Go.Proofs.YtkoeiednpbedlaaDoor
