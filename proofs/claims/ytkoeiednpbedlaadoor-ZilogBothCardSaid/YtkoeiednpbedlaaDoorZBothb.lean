/- Both: runs at bytes 16 to 31. By program (genzb.py). -/
import Derived.Test.YtkoeiednpbedlaaDoorZv
import Derived.KernelRfl
namespace Go.Proofs.YtkoeiednpbedlaaDoor
open Go Go.Ly Go.RowKit
set_option linter.unusedVariables false
set_option maxRecDepth 100000 in
theorem Both_16 : ((List.range 4).all fun i => yes (Ly.run zctxH 100000 [] (Ly.start Tryd.f7 [.int .u8 ((16 + i : Nat) : Int)] H0)).val?) = true := by kernel_rfl
set_option maxRecDepth 100000 in
theorem Both_20 : ((List.range 4).all fun i => yes (Ly.run zctxH 100000 [] (Ly.start Tryd.f7 [.int .u8 ((20 + i : Nat) : Int)] H0)).val?) = true := by kernel_rfl
set_option maxRecDepth 100000 in
theorem Both_24 : ((List.range 4).all fun i => yes (Ly.run zctxH 100000 [] (Ly.start Tryd.f7 [.int .u8 ((24 + i : Nat) : Int)] H0)).val?) = true := by kernel_rfl
set_option maxRecDepth 100000 in
theorem Both_28 : ((List.range 4).all fun i => yes (Ly.run zctxH 100000 [] (Ly.start Tryd.f7 [.int .u8 ((28 + i : Nat) : Int)] H0)).val?) = true := by kernel_rfl
end Go.Proofs.YtkoeiednpbedlaaDoor
