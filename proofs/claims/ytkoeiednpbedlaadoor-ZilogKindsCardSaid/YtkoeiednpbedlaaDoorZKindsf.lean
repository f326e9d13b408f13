/- Kinds: runs at bytes 160 to 191. By program (genzb.py). -/
import Derived.Test.YtkoeiednpbedlaaDoorZa
import Derived.KernelRfl
namespace Go.Proofs.YtkoeiednpbedlaaDoor
open Go Go.Ly Go.RowKit
set_option linter.unusedVariables false
set_option maxRecDepth 100000 in
theorem Kinds_160 : ((List.range 4).all fun i => yes (Ly.run zctxA 100000 [] (Ly.start Tryd.f6 [.int .u8 ((160 + i : Nat) : Int)] H0)).val?) = true := by kernel_rfl
set_option maxRecDepth 100000 in
theorem Kinds_164 : ((List.range 4).all fun i => yes (Ly.run zctxA 100000 [] (Ly.start Tryd.f6 [.int .u8 ((164 + i : Nat) : Int)] H0)).val?) = true := by kernel_rfl
set_option maxRecDepth 100000 in
theorem Kinds_168 : ((List.range 4).all fun i => yes (Ly.run zctxA 100000 [] (Ly.start Tryd.f6 [.int .u8 ((168 + i : Nat) : Int)] H0)).val?) = true := by kernel_rfl
set_option maxRecDepth 100000 in
theorem Kinds_172 : ((List.range 4).all fun i => yes (Ly.run zctxA 100000 [] (Ly.start Tryd.f6 [.int .u8 ((172 + i : Nat) : Int)] H0)).val?) = true := by kernel_rfl
set_option maxRecDepth 100000 in
theorem Kinds_176 : ((List.range 4).all fun i => yes (Ly.run zctxA 100000 [] (Ly.start Tryd.f6 [.int .u8 ((176 + i : Nat) : Int)] H0)).val?) = true := by kernel_rfl
set_option maxRecDepth 100000 in
theorem Kinds_180 : ((List.range 4).all fun i => yes (Ly.run zctxA 100000 [] (Ly.start Tryd.f6 [.int .u8 ((180 + i : Nat) : Int)] H0)).val?) = true := by kernel_rfl
set_option maxRecDepth 100000 in
theorem Kinds_184 : ((List.range 4).all fun i => yes (Ly.run zctxA 100000 [] (Ly.start Tryd.f6 [.int .u8 ((184 + i : Nat) : Int)] H0)).val?) = true := by kernel_rfl
set_option maxRecDepth 100000 in
theorem Kinds_188 : ((List.range 4).all fun i => yes (Ly.run zctxA 100000 [] (Ly.start Tryd.f6 [.int .u8 ((188 + i : Nat) : Int)] H0)).val?) = true := by kernel_rfl
end Go.Proofs.YtkoeiednpbedlaaDoor
