/- Both: runs at bytes 128 to 143. By program (genzb.py). -/
import Derived.Test.YtkoeiednpbedlaaDoorZv
import Derived.KernelRfl
namespace Go.Proofs.YtkoeiednpbedlaaDoor
open Go Go.Ly Go.RowKit
set_option linter.unusedVariables false
set_option maxRecDepth 100000 in
theorem Both_128 : ((List.range 4).all fun i => yes (Ly.run zctxH 100000 [] (Ly.start Tryd.f7 [.int .u8 ((128 + i : Nat) : Int)] H0)).val?) = true := by kernel_rfl
set_option maxRecDepth 100000 in
theorem Both_132 : ((List.range 4).all fun i => yes (Ly.run zctxH 100000 [] (Ly.start Tryd.f7 [.int .u8 ((132 + i : Nat) : Int)] H0)).val?) = true := by kernel_rfl
set_option maxRecDepth 100000 in
theorem Both_136 : ((List.range 4).all fun i => yes (Ly.run zctxH 100000 [] (Ly.start Tryd.f7 [.int .u8 ((136 + i : Nat) : Int)] H0)).val?) = true := by kernel_rfl
set_option maxRecDepth 100000 in
theorem Both_140 : ((List.range 4).all fun i => yes (Ly.run zctxH 100000 [] (Ly.start Tryd.f7 [.int .u8 ((140 + i : Nat) : Int)] H0)).val?) = true := by kernel_rfl
end Go.Proofs.YtkoeiednpbedlaaDoor
