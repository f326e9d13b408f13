/- Both: runs at bytes 240 to 255. By program (genzb.py). -/
import Derived.Test.YtkoeiednpbedlaaDoorZv
import Derived.KernelRfl
namespace Go.Proofs.YtkoeiednpbedlaaDoor
open Go Go.Ly Go.RowKit
set_option linter.unusedVariables false
set_option maxRecDepth 100000 in
theorem Both_240 : ((List.range 4).all fun i => yes (Ly.run zctxH 100000 [] (Ly.start Tryd.f7 [.int .u8 ((240 + i : Nat) : Int)] H0)).val?) = true := by kernel_rfl
set_option maxRecDepth 100000 in
theorem Both_244 : ((List.range 4).all fun i => yes (Ly.run zctxH 100000 [] (Ly.start Tryd.f7 [.int .u8 ((244 + i : Nat) : Int)] H0)).val?) = true := by kernel_rfl
set_option maxRecDepth 100000 in
theorem Both_248 : ((List.range 4).all fun i => yes (Ly.run zctxH 100000 [] (Ly.start Tryd.f7 [.int .u8 ((248 + i : Nat) : Int)] H0)).val?) = true := by kernel_rfl
set_option maxRecDepth 100000 in
theorem Both_252 : ((List.range 4).all fun i => yes (Ly.run zctxH 100000 [] (Ly.start Tryd.f7 [.int .u8 ((252 + i : Nat) : Int)] H0)).val?) = true := by kernel_rfl
end Go.Proofs.YtkoeiednpbedlaaDoor
