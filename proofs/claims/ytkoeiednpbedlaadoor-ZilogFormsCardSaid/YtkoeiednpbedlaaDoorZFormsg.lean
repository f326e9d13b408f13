/- Forms: runs at bytes 192 to 223. By program (genzb.py). -/
import Derived.Test.YtkoeiednpbedlaaDoorZa
import Derived.KernelRfl
namespace Go.Proofs.YtkoeiednpbedlaaDoor
open Go Go.Ly Go.RowKit
set_option linter.unusedVariables false
set_option maxRecDepth 100000 in
theorem Forms_192 : ((List.range 4).all fun i => yes (Ly.run zctxA 100000 [] (Ly.start Tryd.f3 [.int .u8 ((192 + i : Nat) : Int)] H0)).val?) = true := by kernel_rfl
set_option maxRecDepth 100000 in
theorem Forms_196 : ((List.range 4).all fun i => yes (Ly.run zctxA 100000 [] (Ly.start Tryd.f3 [.int .u8 ((196 + i : Nat) : Int)] H0)).val?) = true := by kernel_rfl
set_option maxRecDepth 100000 in
theorem Forms_200 : ((List.range 4).all fun i => yes (Ly.run zctxA 100000 [] (Ly.start Tryd.f3 [.int .u8 ((200 + i : Nat) : Int)] H0)).val?) = true := by kernel_rfl
set_option maxRecDepth 100000 in
theorem Forms_204 : ((List.range 4).all fun i => yes (Ly.run zctxA 100000 [] (Ly.start Tryd.f3 [.int .u8 ((204 + i : Nat) : Int)] H0)).val?) = true := by kernel_rfl
set_option maxRecDepth 100000 in
theorem Forms_208 : ((List.range 4).all fun i => yes (Ly.run zctxA 100000 [] (Ly.start Tryd.f3 [.int .u8 ((208 + i : Nat) : Int)] H0)).val?) = true := by kernel_rfl
set_option maxRecDepth 100000 in
theorem Forms_212 : ((List.range 4).all fun i => yes (Ly.run zctxA 100000 [] (Ly.start Tryd.f3 [.int .u8 ((212 + i : Nat) : Int)] H0)).val?) = true := by kernel_rfl
set_option maxRecDepth 100000 in
theorem Forms_216 : ((List.range 4).all fun i => yes (Ly.run zctxA 100000 [] (Ly.start Tryd.f3 [.int .u8 ((216 + i : Nat) : Int)] H0)).val?) = true := by kernel_rfl
set_option maxRecDepth 100000 in
theorem Forms_220 : ((List.range 4).all fun i => yes (Ly.run zctxA 100000 [] (Ly.start Tryd.f3 [.int .u8 ((220 + i : Nat) : Int)] H0)).val?) = true := by kernel_rfl
end Go.Proofs.YtkoeiednpbedlaaDoor
