/- Kinds: runs at bytes 0 to 31. By program (genzb.py). -/
import Derived.Test.YtkoeiednpbedlaaDoorZa
import Derived.KernelRfl
namespace Go.Proofs.YtkoeiednpbedlaaDoor
open Go Go.Ly Go.RowKit
set_option linter.unusedVariables false
set_option maxRecDepth 100000 in
theorem Kinds_0 : ((List.range 4).all fun i => yes (Ly.run zctxA 100000 [] (Ly.start Tryd.f6 [.int .u8 ((0 + i : Nat) : Int)] H0)).val?) = true := by kernel_rfl
set_option maxRecDepth 100000 in
theorem Kinds_4 : ((List.range 4).all fun i => yes (Ly.run zctxA 100000 [] (Ly.start Tryd.f6 [.int .u8 ((4 + i : Nat) : Int)] H0)).val?) = true := by kernel_rfl
set_option maxRecDepth 100000 in
theorem Kinds_8 : ((List.range 4).all fun i => yes (Ly.run zctxA 100000 [] (Ly.start Tryd.f6 [.int .u8 ((8 + i : Nat) : Int)] H0)).val?) = true := by kernel_rfl
set_option maxRecDepth 100000 in
theorem Kinds_12 : ((List.range 4).all fun i => yes (Ly.run zctxA 100000 [] (Ly.start Tryd.f6 [.int .u8 ((12 + i : Nat) : Int)] H0)).val?) = true := by kernel_rfl
set_option maxRecDepth 100000 in
theorem Kinds_16 : ((List.range 4).all fun i => yes (Ly.run zctxA 100000 [] (Ly.start Tryd.f6 [.int .u8 ((16 + i : Nat) : Int)] H0)).val?) = true := by kernel_rfl
set_option maxRecDepth 100000 in
theorem Kinds_20 : ((List.range 4).all fun i => yes (Ly.run zctxA 100000 [] (Ly.start Tryd.f6 [.int .u8 ((20 + i : Nat) : Int)] H0)).val?) = true := by kernel_rfl
set_option maxRecDepth 100000 in
theorem Kinds_24 : ((List.range 4).all fun i => yes (Ly.run zctxA 100000 [] (Ly.start Tryd.f6 [.int .u8 ((24 + i : Nat) : Int)] H0)).val?) = true := by kernel_rfl
set_option maxRecDepth 100000 in
theorem Kinds_28 : ((List.range 4).all fun i => yes (Ly.run zctxA 100000 [] (Ly.start Tryd.f6 [.int .u8 ((28 + i : Nat) : Int)] H0)).val?) = true := by kernel_rfl
end Go.Proofs.YtkoeiednpbedlaaDoor
