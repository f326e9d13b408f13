/- Forms: runs at bytes 32 to 63. By program (genzb.py). -/
import Derived.Test.YtkoeiednpbedlaaDoorZa
import Derived.KernelRfl
namespace Go.Proofs.YtkoeiednpbedlaaDoor
open Go Go.Ly Go.RowKit
set_option linter.unusedVariables false
set_option maxRecDepth 100000 in
theorem Forms_32 : ((List.range 4).all fun i => yes (Ly.run zctxA 100000 [] (Ly.start Tryd.f3 [.int .u8 ((32 + i : Nat) : Int)] H0)).val?) = true := by kernel_rfl
set_option maxRecDepth 100000 in
theorem Forms_36 : ((List.range 4).all fun i => yes (Ly.run zctxA 100000 [] (Ly.start Tryd.f3 [.int .u8 ((36 + i : Nat) : Int)] H0)).val?) = true := by kernel_rfl
set_option maxRecDepth 100000 in
theorem Forms_40 : ((List.range 4).all fun i => yes (Ly.run zctxA 100000 [] (Ly.start Tryd.f3 [.int .u8 ((40 + i : Nat) : Int)] H0)).val?) = true := by kernel_rfl
set_option maxRecDepth 100000 in
theorem Forms_44 : ((List.range 4).all fun i => yes (Ly.run zctxA 100000 [] (Ly.start Tryd.f3 [.int .u8 ((44 + i : Nat) : Int)] H0)).val?) = true := by kernel_rfl
set_option maxRecDepth 100000 in
theorem Forms_48 : ((List.range 4).all fun i => yes (Ly.run zctxA 100000 [] (Ly.start Tryd.f3 [.int .u8 ((48 + i : Nat) : Int)] H0)).val?) = true := by kernel_rfl
set_option maxRecDepth 100000 in
theorem Forms_52 : ((List.range 4).all fun i => yes (Ly.run zctxA 100000 [] (Ly.start Tryd.f3 [.int .u8 ((52 + i : Nat) : Int)] H0)).val?) = true := by kernel_rfl
set_option maxRecDepth 100000 in
theorem Forms_56 : ((List.range 4).all fun i => yes (Ly.run zctxA 100000 [] (Ly.start Tryd.f3 [.int .u8 ((56 + i : Nat) : Int)] H0)).val?) = true := by kernel_rfl
set_option maxRecDepth 100000 in
theorem Forms_60 : ((List.range 4).all fun i => yes (Ly.run zctxA 100000 [] (Ly.start Tryd.f3 [.int .u8 ((60 + i : Nat) : Int)] H0)).val?) = true := by kernel_rfl
end Go.Proofs.YtkoeiednpbedlaaDoor
