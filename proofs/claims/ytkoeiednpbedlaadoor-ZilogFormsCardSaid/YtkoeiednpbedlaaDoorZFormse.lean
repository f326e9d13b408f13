/- Forms: runs at bytes 128 to 159. By program (genzb.py). -/
import Derived.Test.YtkoeiednpbedlaaDoorZa
import Derived.KernelRfl
namespace Go.Proofs.YtkoeiednpbedlaaDoor
open Go Go.Ly Go.RowKit
set_option linter.unusedVariables false
set_option maxRecDepth 100000 in
theorem Forms_128 : ((List.range 4).all fun i => yes (Ly.run zctxA 100000 [] (Ly.start Tryd.f3 [.int .u8 ((128 + i : Nat) : Int)] H0)).val?) = true := by kernel_rfl
set_option maxRecDepth 100000 in
theorem Forms_132 : ((List.range 4).all fun i => yes (Ly.run zctxA 100000 [] (Ly.start Tryd.f3 [.int .u8 ((132 + i : Nat) : Int)] H0)).val?) = true := by kernel_rfl
set_option maxRecDepth 100000 in
theorem Forms_136 : ((List.range 4).all fun i => yes (Ly.run zctxA 100000 [] (Ly.start Tryd.f3 [.int .u8 ((136 + i : Nat) : Int)] H0)).val?) = true := by kernel_rfl
set_option maxRecDepth 100000 in
theorem Forms_140 : ((List.range 4).all fun i => yes (Ly.run zctxA 100000 [] (Ly.start Tryd.f3 [.int .u8 ((140 + i : Nat) : Int)] H0)).val?) = true := by kernel_rfl
set_option maxRecDepth 100000 in
theorem Forms_144 : ((List.range 4).all fun i => yes (Ly.run zctxA 100000 [] (Ly.start Tryd.f3 [.int .u8 ((144 + i : Nat) : Int)] H0)).val?) = true := by kernel_rfl
set_option maxRecDepth 100000 in
theorem Forms_148 : ((List.range 4).all fun i => yes (Ly.run zctxA 100000 [] (Ly.start Tryd.f3 [.int .u8 ((148 + i : Nat) : Int)] H0)).val?) = true := by kernel_rfl
set_option maxRecDepth 100000 in
theorem Forms_152 : ((List.range 4).all fun i => yes (Ly.run zctxA 100000 [] (Ly.start Tryd.f3 [.int .u8 ((152 + i : Nat) : Int)] H0)).val?) = true := by kernel_rfl
set_option maxRecDepth 100000 in
theorem Forms_156 : ((List.range 4).all fun i => yes (Ly.run zctxA 100000 [] (Ly.start Tryd.f3 [.int .u8 ((156 + i : Nat) : Int)] H0)).val?) = true := by kernel_rfl
end Go.Proofs.YtkoeiednpbedlaaDoor
